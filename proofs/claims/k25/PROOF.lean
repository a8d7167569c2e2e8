import PyProof.Rows.All
import Wide.All
import OpenK.AllK
import Wide.FinOn
import HandS.ForMost
import HandS.Wide
import HandS.TupAny
import HandS.TupMul
import HandS.Zip
import HandS.Walk
import HandS.IsInst
import HandS.Conv
import HandS.More
import HandS.Lambda
import PyProof.StrOps2
import HandS.TupLe
import HandS.Deep
import HandS.TupLen
import HandS.WordsDict
import HandS.Style
import KE.KSortTupAny
import HandS.SortRule
import KE.KTupSum
import HandS.Star
import HandS.DictComp
import KE.KDictWalk
import KE.KDictDisplayH
import HandS.SetFor
import HandS.Strs
import KE.KSortTup
import HandS.TupSets
import KE.KDictKeyed
import HandS.HeadWalk
import KE.SortKeyHeap
import HandS.DictTup
import HandS.SortKw
import HandS.DictEq
import PySem.Challenge.RW_chancestrokes_k25_whole_hidden_strokes
set_option exponentiation.threshold 300
set_option Elab.async false
set_option linter.all false
set_option maxRecDepth 100000
set_option maxHeartbeats 0
namespace PD
open PySem PySem.Spec PyProof.Rows L2
inductive D where
  | non | bl (b : Bool) | int (i : Int) | str (x : Str)
  | tup (xs : List D) | xt (xs : List D) | lst (xs : List D)
  | dk (kvs : List (Key × D)) | dt (kvs : List (List Key × D))
  | scr (ns : List Int) | obj (n : Nat) | fn (x : Str) | ty (n : String)
structure LamSyn where
  params : Arguments
  body : Expr
  scope : Scope
class TabC where
  T : Addr → Str → Prop
  u : ∀ P q q', T P q → T P q' → q = q'
  syn : Str → Option LamSyn
instance (priority := low) tabNone : TabC := ⟨fun _ _ => False, fun _ _ _ h => h.elim, fun _ => none⟩
variable [TabC]
def TabJ (H : Hp) (P : Addr) (q : Str) (j : Option (Pos × Value)) : Prop := LamX.TabS H P q ∧ ∀ pos cv, j = some (pos, cv) → ∃ ps, H P = some (.tbl ps) ∧ codeAmong pos ps.toList = some cv
def TabAll (H : Hp) : Prop := ∀ P q, TabC.T P q → TabJ H P q none
theorem TabJ.ext {H H' : Hp} {P : Addr} {q : Str} {j : Option (Pos × Value)} (t : TabJ H P q j) (e : ∀ b o, H b = some o → H' b = some o) : TabJ H' P q j :=
  ⟨t.1.ext e, fun pos cv z => let ⟨ps, h1, h2⟩ := t.2 pos cv z; ⟨ps, e _ _ h1, h2⟩⟩
theorem TabJ.forget {H : Hp} {P : Addr} {q : Str} {j : Option (Pos × Value)} (t : TabJ H P q j) : TabJ H P q none := ⟨t.1, fun _ _ z => nomatch z⟩
def LamO (f c : Addr) (q : Str) (y : LamSyn) (pm ctv : Value) : HO := .ext fun h => h.get? f = some (PySem.W.kla_obj "<lambda>" q y.params y.body y.scope [] pm c ctv)
theorem LamO.nt {f c : Addr} {q : Str} {y : LamSyn} {pm ctv : Value} : ∀ ps, LamO f c q y pm ctv ≠ .tbl ps := fun ps z => by unfold LamO at z; cases z
structure Ev where
  N : Addr → Prop
  Mx : Addr → Prop
  ob : Nat → Addr
  no : Nat
mutual
inductive Rep (K : PySem.W.Frag) (mg : Str → Option Value) (E : Ev) (H : Hp) : V → D → Prop
  | non : Rep K mg E H .non .non
  | bl (b : Bool) : Rep K mg E H (.bl b) (.bl b)
  | int (i : Int) : Rep K mg E H (.int i) (.int i)
  | str (x : Str) : Rep K mg E H (.str x) (.str x)
  | ty (n : String) : Rep K mg E H (.ty n) (.ty n)
  | tup {a : Addr} {vs : List V} {ds : List D} : H a = some (.tup vs) → RepL K mg E H vs ds → Rep K mg E H (.ref a) (.tup ds)
  | xt {a : Addr} {o : Obj} {vs : List V} {ds : List D} : H a = some (.frz o (.tup vs)) → o.dict = none → RepL K mg E H vs ds → Rep K mg E H (.ref a) (.xt ds)
  | lst {a : Addr} {vs : List V} {ds : List D} : H a = some (.lst vs) → ¬ E.N a → RepL K mg E H vs ds → Rep K mg E H (.ref a) (.lst ds)
  | dk {a : Addr} {kvs : List (Key × V)} {kds : List (Key × D)} : Rd H a (.dK kvs) → ¬ E.N a → kvs.map (·.1) = kds.map (·.1) → RepL K mg E H (kvs.map (·.2)) (kds.map (·.2)) → Rep K mg E H (.ref a) (.dk kds)
  | dt {a : Addr} {kvs : List (List Key × V)} {kds : List (List Key × D)} : Rd H a (.dT kvs) → ¬ E.N a → kvs.map (·.1) = kds.map (·.1) → RepL K mg E H (kvs.map (·.2)) (kds.map (·.2)) → Rep K mg E H (.ref a) (.dt kds)
  | scr {a : Addr} (ns : List Int) : Rd H a (.lst (ns.map V.int)) → ¬ E.N a → Rep K mg E H (.ref a) (.scr ns)
  | scrK {a : Addr} (ns : List Int) : (∀ H', SqL K H' a (ns.map V.int)) → Rep K mg E H (.ref a) (.scr ns)
  | obj (n : Nat) : n < E.no → Rep K mg E H (.ref (E.ob n)) (.obj n)
  | fn {x : Str} {f : Addr} : mg x = some (.ref f) → PySem.W.keepIn K (.ref f) = true → Rep K mg E H (.ref f) (.fn x)
  | lam {q : Str} {f c P : Addr} {y : LamSyn} {pm ctv : Value} {pos : Pos} : TabC.syn q = some y → TabC.T P q → TabJ H P q (some (pos, .ref c)) → H f = some (LamO f c q y pm ctv) → ¬ E.N f → Rep K mg E H (.ref f) (.fn q)
inductive RepL (K : PySem.W.Frag) (mg : Str → Option Value) (E : Ev) (H : Hp) : List V → List D → Prop
  | nil : RepL K mg E H [] []
  | cons {v : V} {vs : List V} {d : D} {ds : List D} : Rep K mg E H v d → RepL K mg E H vs ds → RepL K mg E H (v :: vs) (d :: ds)
end
structure Ext (E : Ev) (H : Hp) (E' : Ev) (H' : Hp) : Prop where
  no : E.no ≤ E'.no
  ob : ∀ n, n < E.no → E'.ob n = E.ob n
  n2 : ∀ a, E'.N a → E.N a ∨ H a = none
  m2 : ∀ a, E'.Mx a → E.Mx a ∨ H a = none
  dm : ∀ a o, H a = some o → ∃ o', H' a = some o'
  keep0 : ∀ a o, ¬ E.Mx a → (∀ ps, o ≠ .tbl ps) → H a = some o → H' a = some o
  tup : ∀ a xs, H a = some (.tup xs) → H' a = some (.tup xs)
  frz : ∀ a o u, H a = some (.frz o u) → H' a = some (.frz o u)
  tbl : ∀ P q j, TabC.T P q → TabJ H P q j → TabJ H' P q j
def Ev.Sub (E : Ev) : Prop := ∀ a, E.Mx a → E.N a
section
variable {K : PySem.W.Frag} {mg : Str → Option Value} {E E' E'' : Ev} {H H' H'' : Hp}
theorem Ext.nn (x : Ext E H E' H') {a : Addr} (h : H' a = none) : H a = none := by
  cases q : H a with
  | none => rfl
  | some o => obtain ⟨o', e⟩ := x.dm a o q; rw [h] at e; cases e
theorem Ext.refl : Ext E H E H := ⟨Nat.le_refl _, fun _ _ => rfl, fun _ h => .inl h, fun _ h => .inl h, fun _ o h => ⟨o, h⟩, fun _ _ _ _ h => h, fun _ _ h => h, fun _ _ _ h => h, fun _ _ _ _ h => h⟩
theorem Ext.keep (x : Ext E H E' H') (a : Addr) (o : HO) (n : ¬ E.Mx a) (h : H a = some o) (nt : ∀ ps, o ≠ .tbl ps := by intro ps z; cases z) : H' a = some o := x.keep0 a o n nt h
theorem Ext.trans (x : Ext E H E' H') (y : Ext E' H' E'' H'') : Ext E H E'' H'' where
  no := Nat.le_trans x.no y.no
  ob := fun n h => (y.ob n (Nat.lt_of_lt_of_le h x.no)).trans (x.ob n h)
  n2 := fun a h => (y.n2 a h).elim (x.n2 a) fun h => .inr (x.nn h)
  m2 := fun a h => (y.m2 a h).elim (x.m2 a) fun h => .inr (x.nn h)
  dm := fun a o h => let ⟨o', e⟩ := x.dm a o h; y.dm a o' e
  keep0 := fun a o n nt h => by
    refine y.keep0 a o (fun z => ?_) nt (x.keep0 a o n nt h)
    rcases x.m2 a z with z | z
    · exact n z
    · rw [z] at h; cases h
  tup := fun a xs h => y.tup a xs (x.tup a xs h)
  frz := fun a o u h => y.frz a o u (x.frz a o u h)
  tbl := fun a q j t h => y.tbl a q j t (x.tbl a q j t h)
theorem Ext.same (x : Same H H') : Ext E H E H' := ⟨Nat.le_refl _, fun _ _ => rfl, fun _ h => .inl h, fun _ h => .inl h, fun _ o h => ⟨o, x _ _ h⟩, fun _ _ _ _ h => x _ _ h, fun _ _ h => x _ _ h, fun _ _ _ h => x _ _ h, fun _ _ _ _ h => h.ext x⟩
theorem Ext.notN (x : Ext E H E' H') {a : Addr} {o : HO} (h : H a = some o) (n : ¬ E.N a) : ¬ E'.N a := fun z => by
  rcases x.n2 a z with z | z
  · exact n z
  · rw [z] at h; cases h
theorem Ext.notM (x : Ext E H E' H') {a : Addr} {o : HO} (h : H a = some o) (n : ¬ E.Mx a) : ¬ E'.Mx a := fun z => by
  rcases x.m2 a z with z | z
  · exact n z
  · rw [z] at h; cases h
theorem Ext.rd (x : Ext E H E' H') (sb : E.Sub) {a : Addr} {u : HO} (h : Rd H a u) (n : ¬ E.N a) (nt : ∀ ps, u ≠ .tbl ps := by intro ps z; cases z) : Rd H' a u ∧ ¬ E'.N a := by
  rcases h with h | ⟨o, h⟩
  · exact ⟨.inl (x.keep0 _ _ (fun z => n (sb _ z)) nt h), x.notN h n⟩
  · exact ⟨.inr ⟨o, x.frz _ _ _ h⟩, x.notN h n⟩
mutual
theorem Rep.ext (x : Ext E H E' H') (sb : E.Sub) : ∀ {v : V} {d : D}, Rep K mg E H v d → Rep K mg E' H' v d
  | _, _, .non => .non
  | _, _, .bl b => .bl b
  | _, _, .int b => .int b
  | _, _, .str b => .str b
  | _, _, .ty b => .ty b
  | _, _, .tup h r => .tup (x.tup _ _ h) (RepL.ext x sb r)
  | _, _, .xt h k r => .xt (x.frz _ _ _ h) k (RepL.ext x sb r)
  | _, _, .lst h n r => .lst (x.keep _ _ (fun z => n (sb _ z)) h) (x.notN h n) (RepL.ext x sb r)
  | _, _, .dk h n l r => .dk (x.rd sb h n).1 (x.rd sb h n).2 l (RepL.ext x sb r)
  | _, _, .dt h n l r => .dt (x.rd sb h n).1 (x.rd sb h n).2 l (RepL.ext x sb r)
  | _, _, .scr ns h n => .scr ns (x.rd sb h n).1 (x.rd sb h n).2
  | _, _, .scrK ns h => .scrK ns h
  | _, _, .obj n h => by rw [← x.ob n h]; exact .obj n (Nat.lt_of_lt_of_le h x.no)
  | _, _, .fn h k => .fn h k
  | _, _, .lam hs ht hj h n => .lam hs ht (x.tbl _ _ _ ht hj) (x.keep0 _ _ (fun z => n (sb _ z)) LamO.nt h) (x.notN h n)
theorem RepL.ext (x : Ext E H E' H') (sb : E.Sub) : ∀ {v : List V} {d : List D}, RepL K mg E H v d → RepL K mg E' H' v d
  | _, _, .nil => .nil
  | _, _, .cons h r => .cons (Rep.ext x sb h) (RepL.ext x sb r)
end
structure Ev.Le (E E' : Ev) : Prop where
  no : E.no ≤ E'.no
  ob : ∀ n, n < E.no → E'.ob n = E.ob n
  n : ∀ a, E'.N a → E.N a
mutual
theorem Rep.le (x : E.Le E') : ∀ {v : V} {d : D}, Rep K mg E H v d → Rep K mg E' H v d
  | _, _, .non => .non
  | _, _, .bl b => .bl b
  | _, _, .int b => .int b
  | _, _, .str b => .str b
  | _, _, .ty b => .ty b
  | _, _, .tup h r => .tup h (RepL.le x r)
  | _, _, .xt h k r => .xt h k (RepL.le x r)
  | _, _, .lst h n r => .lst h (fun z => n (x.n _ z)) (RepL.le x r)
  | _, _, .dk h n l r => .dk h (fun z => n (x.n _ z)) l (RepL.le x r)
  | _, _, .dt h n l r => .dt h (fun z => n (x.n _ z)) l (RepL.le x r)
  | _, _, .scr ns h n => .scr ns h (fun z => n (x.n _ z))
  | _, _, .scrK ns h => .scrK ns h
  | _, _, .obj n h => by rw [← x.ob n h]; exact .obj n (Nat.lt_of_lt_of_le h x.no)
  | _, _, .fn h k => .fn h k
  | _, _, .lam hs ht hj h n => .lam hs ht hj h (fun z => n (x.n _ z))
theorem RepL.le (x : E.Le E') : ∀ {v : List V} {d : List D}, RepL K mg E H v d → RepL K mg E' H v d
  | _, _, .nil => .nil
  | _, _, .cons h r => .cons (Rep.le x h) (RepL.le x r)
end
mutual
theorem Rep.new {N' : Addr → Prop} (x : ∀ a, N' a → E.N a ∨ H a = none) : ∀ {v : V} {d : D}, Rep K mg E H v d → Rep K mg { E with N := N' } H v d
  | _, _, .non => .non
  | _, _, .bl b => .bl b
  | _, _, .int b => .int b
  | _, _, .str b => .str b
  | _, _, .ty b => .ty b
  | _, _, .tup h r => .tup h (RepL.new x r)
  | _, _, .xt h k r => .xt h k (RepL.new x r)
  | _, _, .lst h n r => .lst h (fun z => (x _ z).elim n fun q => by rw [q] at h; cases h) (RepL.new x r)
  | _, _, .dk h n l r => .dk h (fun z => (x _ z).elim n fun q => by rcases h with h | ⟨_, h⟩ <;> (rw [q] at h; cases h)) l (RepL.new x r)
  | _, _, .dt h n l r => .dt h (fun z => (x _ z).elim n fun q => by rcases h with h | ⟨_, h⟩ <;> (rw [q] at h; cases h)) l (RepL.new x r)
  | _, _, .scr ns h n => .scr ns h (fun z => (x _ z).elim n fun q => by rcases h with h | ⟨_, h⟩ <;> (rw [q] at h; cases h))
  | _, _, .scrK ns h => .scrK ns h
  | _, _, .obj n h => .obj n h
  | _, _, .fn h k => .fn h k
  | _, _, .lam hs ht hj h n => .lam hs ht hj h (fun z => (x _ z).elim n fun q => by rw [q] at h; cases h)
theorem RepL.new {N' : Addr → Prop} (x : ∀ a, N' a → E.N a ∨ H a = none) : ∀ {v : List V} {d : List D}, RepL K mg E H v d → RepL K mg { E with N := N' } H v d
  | _, _, .nil => .nil
  | _, _, .cons h r => .cons (Rep.new x h) (RepL.new x r)
end
theorem RepL.length : ∀ {vs : List V} {ds : List D}, RepL K mg E H vs ds → vs.length = ds.length
  | _, _, .nil => rfl
  | _, _, .cons _ r => congrArg (· + 1) r.length
theorem RepL.get : ∀ {vs : List V} {ds : List D} {i : Nat} {v : V}, RepL K mg E H vs ds → vs[i]? = some v → ∃ d, ds[i]? = some d ∧ Rep K mg E H v d
  | _, _, _, _, .nil, e => by simp at e
  | _, _, 0, v, .cons r _, e => by simp at e; subst e; exact ⟨_, rfl, r⟩
  | _, _, i + 1, v, .cons _ t, e => by simpa using RepL.get (i := i) (v := v) t (by simpa using e)
theorem RepL.get' : ∀ {vs : List V} {ds : List D} {i : Nat} {d : D}, RepL K mg E H vs ds → ds[i]? = some d → ∃ v, vs[i]? = some v ∧ Rep K mg E H v d
  | _, _, _, _, .nil, e => by simp at e
  | _, _, 0, v, .cons r _, e => by simp at e; subst e; exact ⟨_, rfl, r⟩
  | _, _, i + 1, v, .cons _ t, e => by simpa using RepL.get' (i := i) (d := v) t (by simpa using e)
theorem RepL.append : ∀ {vs ws : List V} {ds es : List D}, RepL K mg E H vs ds → RepL K mg E H ws es → RepL K mg E H (vs ++ ws) (ds ++ es)
  | _, _, _, _, .nil, s => s
  | _, _, _, _, .cons r t, s => .cons r (RepL.append t s)
theorem RepL.take : ∀ {vs : List V} {ds : List D} (n : Nat), RepL K mg E H vs ds → RepL K mg E H (vs.take n) (ds.take n)
  | _, _, 0, _ => .nil
  | _, _, _ + 1, .nil => .nil
  | _, _, n + 1, .cons r t => .cons r (RepL.take n t)
theorem RepL.drop : ∀ {vs : List V} {ds : List D} (n : Nat), RepL K mg E H vs ds → RepL K mg E H (vs.drop n) (ds.drop n)
  | _, _, 0, r => r
  | _, _, _ + 1, .nil => .nil
  | _, _, n + 1, .cons _ t => RepL.drop n t
theorem RepL.set {v : V} {d : D} (r : Rep K mg E H v d) : ∀ {vs : List V} {ds : List D} (i : Nat), RepL K mg E H vs ds → RepL K mg E H (vs.set i v) (ds.set i d)
  | _, _, _, .nil => .nil
  | _, _, 0, .cons _ t => .cons r t
  | _, _, i + 1, .cons q t => .cons q (RepL.set r i t)
theorem RepL.eraseIdx : ∀ {vs : List V} {ds : List D} (i : Nat), RepL K mg E H vs ds → RepL K mg E H (vs.eraseIdx i) (ds.eraseIdx i)
  | _, _, _, .nil => .nil
  | _, _, 0, .cons _ t => t
  | _, _, i + 1, .cons q t => .cons q (RepL.eraseIdx i t)
theorem RepL.reverse {vs : List V} {ds : List D} (h : RepL K mg E H vs ds) : RepL K mg E H vs.reverse ds.reverse := by
  induction vs generalizing ds with
  | nil => cases h; exact .nil
  | cons v vs ih => cases h with | cons r t => rw [List.reverse_cons, List.reverse_cons]; exact (ih t).append (.cons r .nil)
theorem RepL.rep {vs : List V} {ds : List D} (h : RepL K mg E H vs ds) : ∀ n : Nat, RepL K mg E H (List.replicate n vs).flatten (List.replicate n ds).flatten
  | 0 => .nil
  | n + 1 => by rw [List.replicate_succ, List.replicate_succ, List.flatten_cons, List.flatten_cons]; exact h.append (RepL.rep h n)
def Cell (K : PySem.W.Frag) (mg : Str → Option Value) (E : Ev) (H : Hp) (a : Addr) : D → Prop
  | .lst ds => ∃ vs, H a = some (.lst vs) ∧ RepL K mg E H vs ds
  | .dk kds => ∃ kvs, H a = some (.dK kvs) ∧ kvs.map (·.1) = kds.map (·.1) ∧ RepL K mg E H (kvs.map (·.2)) (kds.map (·.2))
  | .dt kds => ∃ kvs, H a = some (.dT kvs) ∧ kvs.map (·.1) = kds.map (·.1) ∧ RepL K mg E H (kvs.map (·.2)) (kds.map (·.2))
  | _ => False
theorem Cell.dom {a : Addr} {d : D} (c : Cell K mg E H a d) : ∃ o, H a = some o := by
  cases d <;> first
    | exact c.elim
    | (obtain ⟨_, h, _⟩ := c; exact ⟨_, h⟩)
theorem Cell.mut {a : Addr} {d : D} (c : Cell K mg E H a d) : (∀ xs, H a ≠ some (.tup xs)) ∧ ∀ o u, H a ≠ some (.frz o u) := by
  cases d <;> first
    | exact c.elim
    | (obtain ⟨_, h, _⟩ := c; exact ⟨fun _ z => (by rw [h] at z; cases z), fun _ _ z => (by rw [h] at z; cases z)⟩)
theorem Cell.nt {a : Addr} {d : D} (c : Cell K mg E H a d) : ∀ ps, H a ≠ some (.tbl ps) := by
  cases d <;> first
    | exact c.elim
    | (obtain ⟨_, h, _⟩ := c; exact fun _ z => (by rw [h] at z; cases z))
theorem Cell.nc {a : Addr} {d : D} (c : Cell K mg E H a d) : ∀ b q, H a ≠ some (LamX.CodeO b q) := by
  cases d <;> first
    | exact c.elim
    | (obtain ⟨_, h, _⟩ := c; exact fun _ _ z => (by rw [h] at z; unfold LamX.CodeO at z; cases z))
theorem Cell.le {a : Addr} {d : D} (x : E.Le E') (c : Cell K mg E H a d) : Cell K mg E' H a d := by
  cases d <;> first
    | exact c.elim
    | (obtain ⟨vs, h, r⟩ := c; exact ⟨vs, h, r.le x⟩)
    | (obtain ⟨vs, h, l, r⟩ := c; exact ⟨vs, h, l, r.le x⟩)
theorem Cell.new {N' : Addr → Prop} (x : ∀ a, N' a → E.N a ∨ H a = none) {a : Addr} {d : D} (c : Cell K mg E H a d) : Cell K mg { E with N := N' } H a d := by
  cases d <;> first
    | exact c.elim
    | (obtain ⟨vs, h, r⟩ := c; exact ⟨vs, h, r.new x⟩)
    | (obtain ⟨vs, h, l, r⟩ := c; exact ⟨vs, h, l, r.new x⟩)
theorem Cell.rep {a : Addr} {d : D} (n : ¬ E.N a) (c : Cell K mg E H a d) : Rep K mg E H (.ref a) d := by
  cases d <;> first
    | exact c.elim
    | (obtain ⟨vs, h, r⟩ := c; exact .lst h n r)
    | (obtain ⟨vs, h, l, r⟩ := c; first | exact .dk (.inl h) n l r | exact .dt (.inl h) n l r)
theorem Cell.ext (x : Ext E H E' H') (sb : E.Sub) {a : Addr} {d : D} (k : ∀ o, (∀ ps, o ≠ .tbl ps) → H a = some o → H' a = some o) (c : Cell K mg E H a d) : Cell K mg E' H' a d := by
  cases d <;> first
    | exact c.elim
    | (obtain ⟨vs, h, r⟩ := c; exact ⟨vs, k _ (fun _ z => by cases z) h, r.ext x sb⟩)
    | (obtain ⟨vs, h, l, r⟩ := c; exact ⟨vs, k _ (fun _ z => by cases z) h, l, r.ext x sb⟩)
inductive RepV (K : PySem.W.Frag) (mg : Str → Option Value) (E : Ev) (H : Hp) : V → D → Prop
  | of {v : V} {d : D} : Rep K mg E H v d → RepV K mg E H v d
  | cell {a : Addr} {d : D} : Cell K mg E H a d → RepV K mg E H (.ref a) d
end
theorem tabS_upd {H : Hp} {a P : Addr} {q : Str} {j : Option (Pos × Value)} {o : HO} (t : TabJ H P q j) (n1 : ∀ ps, H a ≠ some (.tbl ps)) (n2 : ∀ b q, H a ≠ some (LamX.CodeO b q)) : TabJ (upd H a o) P q j := by
  obtain ⟨⟨ps, h1, h2, h3⟩, h4⟩ := t
  have nP : P ≠ a := fun z => n1 ps (by rw [← z]; exact h1)
  refine ⟨⟨ps, (upd_ne nP).trans h1, h2, fun pos cv hc => ?_⟩, fun pos cv z => ?_⟩
  · obtain ⟨c, e1, e2⟩ := h3 pos cv hc
    exact ⟨c, e1, (upd_ne (fun z : c = a => n2 c q (by rw [← z]; exact e2))).trans e2⟩
  · obtain ⟨ps, e1, e2⟩ := h4 pos cv z
    exact ⟨ps, (upd_ne nP).trans e1, e2⟩
theorem tabS_at {H : Hp} {a P : Addr} {q : Str} {j : Option (Pos × Value)} {o o1 : HO} (t : TabJ H P q j) (h : H a = some o1) (hn : (∀ ps, o1 ≠ .tbl ps) ∧ ∀ b q, o1 ≠ LamX.CodeO b q := by constructor <;> (intros; intro z; (try unfold LamX.CodeO at z); cases z)) : TabJ (upd H a o) P q j :=
  tabS_upd t (fun ps z => by rw [h] at z; exact hn.1 ps (Option.some.inj z)) (fun b q z => by rw [h] at z; exact hn.2 b q (Option.some.inj z))
theorem tabS_new {H : Hp} {a P : Addr} {q : Str} {j : Option (Pos × Value)} {o : HO} (t : TabJ H P q j) (h : H a = none) : TabJ (upd H a o) P q j := tabS_upd t (fun _ z => by rw [h] at z; cases z) (fun _ _ z => by rw [h] at z; cases z)
end PD
namespace PD
open PySem PySem.Spec PyProof.Rows L2
variable [TabC]
inductive Slot where
  | un | pl (d : D) | ow (d : D)
structure M where
  env : List Slot
  obs : List (List D)
inductive Res (α : Type) where
  | ok (a : α) (m : M) | no
abbrev Co (α : Type) := M → Res α
def Co.bind {α β : Type} (c : Co α) (k : α → Co β) : Co β := fun m => match c m with
  | .ok a m' => k a m'
  | .no => .no
def Co.ret {α : Type} (a : α) : Co α := fun m => .ok a m
def Co.lift {α : Type} (o : Option α) : Co α := fun m => match o with
  | some a => .ok a m
  | none => .no
inductive Flow' where
  | nx | rt (d : D) | rf (d : D) | bk | ct
structure Wd where
  N0 : Addr → Prop
  E0 : Ev
  H0 : Hp
  own : Nat → Option Addr
  ob : Nat → Addr
abbrev Wd.ev (W : Wd) (no : Nat) : Ev where
  N := fun a => W.N0 a ∨ (∃ i, W.own i = some a) ∨ ∃ n, n < no ∧ W.ob n = a
  Mx := fun a => (∃ i, W.own i = some a) ∨ ∃ n, n < no ∧ W.ob n = a
  ob := W.ob
  no := no
theorem Wd.sub (W : Wd) (no : Nat) : (W.ev no).Sub := fun _ h => .inr h
structure Sit (K : PySem.W.Frag) (mg : Str → Option Value) (W : Wd) (σ : L2.St) (H : Hp) (m : M) : Prop where
  len : σ.length = m.env.length
  ext : Ext W.E0 W.H0 (W.ev m.obs.length) H
  pl : ∀ (i : Nat) (d : D), m.env[i]? = some (Slot.pl d) → ∃ v, σ[i]? = some (some v) ∧ Rep K mg (W.ev m.obs.length) H v d
  ow : ∀ (i : Nat) (d : D), m.env[i]? = some (Slot.ow d) → ∃ a, W.own i = some a ∧ σ[i]? = some (some (.ref a)) ∧ Cell K mg (W.ev m.obs.length) H a d
  owi : ∀ (i : Nat) (a : Addr), W.own i = some a → ∃ d, m.env[i]? = some (Slot.ow d)
  inj : ∀ (i j : Nat) (a : Addr), W.own i = some a → W.own j = some a → i = j
  ob : ∀ (n : Nat) (ds : List D), m.obs[n]? = some ds → Cell K mg (W.ev m.obs.length) H (W.ob n) (.lst ds)
  obi : ∀ (n k : Nat), n < m.obs.length → k < m.obs.length → W.ob n = W.ob k → n = k
  obo : ∀ (n i : Nat), n < m.obs.length → W.own i ≠ some (W.ob n)
  n0 : ∀ a, W.N0 a → ∃ o, H a = some o
  o0 : ∀ (i : Nat) (a : Addr), W.own i = some a → ¬ W.N0 a
  tab : TabAll H
section
variable {K : PySem.W.Frag} {mg : Str → Option Value} {W : Wd} {σ : L2.St} {H H' : Hp} {m : M}
theorem Sit.dom (S : Sit K mg W σ H m) {a : Addr} (h : (W.ev m.obs.length).N a) : ∃ o, H a = some o := by
  rcases h with h | ⟨i, h⟩ | ⟨n, h, rfl⟩
  · exact S.n0 a h
  · obtain ⟨d, hd⟩ := S.owi i a h
    obtain ⟨b, hb, _, c⟩ := S.ow i d hd
    rw [h] at hb; cases hb
    exact c.dom
  · exact (S.ob n _ (List.getElem?_eq_getElem h)).dom
theorem Sit.fresh (S : Sit K mg W σ H m) {a : Addr} (h : H a = none) : ¬ (W.ev m.obs.length).N a := fun z => by
  obtain ⟨o, e⟩ := S.dom z
  rw [h] at e; cases e
theorem Sit.step (S : Sit K mg W σ H m) (x : Ext (W.ev m.obs.length) H (W.ev m.obs.length) H') (k : ∀ a o, H a = some o → (W.ev m.obs.length).Mx a → H' a = some o) : Sit K mg W σ H' m where
  len := S.len
  ext := S.ext.trans x
  pl := fun i d h => let ⟨v, e, r⟩ := S.pl i d h; ⟨v, e, r.ext x (W.sub _)⟩
  ow := fun i d h => let ⟨a, e, e2, c⟩ := S.ow i d h; ⟨a, e, e2, c.ext x (W.sub _) fun o _ q => k a o q (.inl ⟨i, e⟩)⟩
  owi := S.owi
  inj := S.inj
  ob := fun n ds h => (S.ob n ds h).ext x (W.sub _) fun o _ q => k _ o q (.inr ⟨n, (List.getElem?_eq_some_iff.mp h).1, rfl⟩)
  obi := S.obi
  obo := S.obo
  n0 := fun a h => let ⟨o, e⟩ := S.n0 a h; x.dm a o e
  o0 := S.o0
  tab := fun P q h => x.tbl P q _ h (S.tab P q h)
theorem Sit.same (S : Sit K mg W σ H m) (x : Same H H') : Sit K mg W σ H' m := S.step (.same x) fun a o h _ => x a o h
def After (K : PySem.W.Frag) (mg : Str → Option Value) (W : Wd) (σ : L2.St) (H : Hp) (m : M) (ob' : Nat → Addr) (H' : Hp) (m' : M) : Prop :=
  Ext (W.ev m.obs.length) H ({ W with ob := ob' }.ev m'.obs.length) H' ∧ Sit K mg { W with ob := ob' } σ H' m'
def rdE (K : PySem.W.Frag) (mg : Str → Option Value) (f : Co D) : TE := fun σ H Q => ∃ W m, Sit K mg W σ H m ∧ ∃ d m', f m = .ok d m' ∧
  ∀ v ob' H', After K mg W σ H m ob' H' m' → Rep K mg ({ W with ob := ob' }.ev m'.obs.length) H' v d → Q v H'
inductive Opd where
  | val (d : D) | slot (i : Nat)
def RepO (K : PySem.W.Frag) (mg : Str → Option Value) (W : Wd) (σ : L2.St) (H : Hp) (m : M) (v : V) : Opd → Prop
  | .val d => Rep K mg (W.ev m.obs.length) H v d
  | .slot i => ∃ a, W.own i = some a ∧ v = .ref a
def Opd.get (m : M) : Opd → Option D
  | .val (.obj n) => (m.obs[n]?).map D.lst
  | .val d => some d
  | .slot i => match m.env[i]? with
    | some (Slot.ow d) => some d
    | _ => none
def rdB (K : PySem.W.Frag) (mg : Str → Option Value) (f : Co Opd) : TE := fun σ H Q => ∃ W m, Sit K mg W σ H m ∧ ∃ o m', f m = .ok o m' ∧
  ∀ v ob' H', After K mg W σ H m ob' H' m' → RepO K mg { W with ob := ob' } σ H' m' v o → Q v H'
abbrev Wd.add (W : Wd) (a : Addr) : Wd := { W with N0 := fun b => W.N0 b ∨ b = a }
def rdF (K : PySem.W.Frag) (mg : Str → Option Value) (f : Co D) : TE := fun σ H Q => ∃ W m, Sit K mg W σ H m ∧ ∃ d m', f m = .ok d m' ∧
  ∀ a ob' H', H a = none → Ext (W.ev m.obs.length) H ({ W with ob := ob' }.ev m'.obs.length) H' → ¬ ({ W with ob := ob' }.ev m'.obs.length).N a → Sit K mg ({ W with ob := ob' }.add a) σ H' m' →
    Cell K mg (({ W with ob := ob' }.add a).ev m'.obs.length) H' a d → Q (.ref a) H'
def rdT (K : PySem.W.Frag) (mg : Str → Option Value) (f : Co Bool) : TT := fun σ H Q => ∃ W m, Sit K mg W σ H m ∧ ∃ d m', f m = .ok d m' ∧
  ∀ ob' H', After K mg W σ H m ob' H' m' → Q d H'
def rdA (K : PySem.W.Frag) (mg : Str → Option Value) (f : Co (List D)) : TA := fun σ H Q => ∃ W m, Sit K mg W σ H m ∧ ∃ d m', f m = .ok d m' ∧
  ∀ vs ob' H', After K mg W σ H m ob' H' m' → RepL K mg ({ W with ob := ob' }.ev m'.obs.length) H' vs d → Q vs H'
inductive RepOs (K : PySem.W.Frag) (mg : Str → Option Value) (W : Wd) (σ : L2.St) (H : Hp) (m : M) : List V → List Opd → Prop
  | nil : RepOs K mg W σ H m [] []
  | cons {v : V} {vs : List V} {o : Opd} {os : List Opd} : RepO K mg W σ H m v o → RepOs K mg W σ H m vs os → RepOs K mg W σ H m (v :: vs) (o :: os)
def rdBs (K : PySem.W.Frag) (mg : Str → Option Value) (f : Co (List Opd)) : TA := fun σ H Q => ∃ W m, Sit K mg W σ H m ∧ ∃ d m', f m = .ok d m' ∧
  ∀ vs ob' H', After K mg W σ H m ob' H' m' → RepOs K mg { W with ob := ob' } σ H' m' vs d → Q vs H'
def Lat (W W' : Wd) : Prop := W'.N0 = W.N0 ∧ W'.E0 = W.E0 ∧ W'.H0 = W.H0
def FPost (K : PySem.W.Frag) (mg : Str → Option Value) (D : Ends) (W : Wd) (m' : M) : Flow' → Prop
  | .nx => ∀ W' σ' H', Lat W W' → Sit K mg W' σ' H' m' → D.nx σ' H'
  | .bk => ∀ W' σ' H', Lat W W' → Sit K mg W' σ' H' m' → D.bk σ' H'
  | .ct => ∀ W' σ' H', Lat W W' → Sit K mg W' σ' H' m' → D.ct σ' H'
  | .rt d => ∀ W' σ' H' v, Lat W W' → Sit K mg W' σ' H' m' → Rep K mg (W'.ev m'.obs.length) H' v d → D.rt v H'
  | .rf d => ∀ W' σ' H' a, Lat W W' → ¬ (W'.ev m'.obs.length).N a → (W'.E0.Mx a ∨ W'.H0 a = none) → Sit K mg (W'.add a) σ' H' m' → Cell K mg ((W'.add a).ev m'.obs.length) H' a d → D.rt (.ref a) H'
def rdS (K : PySem.W.Frag) (mg : Str → Option Value) (f : Co Flow') : TS := fun D σ H => ∃ W m, Sit K mg W σ H m ∧ ∃ fl m', f m = .ok fl m' ∧ FPost K mg D W m' fl
end
end PD
namespace PD
open PySem PySem.Spec PyProof.Rows L2
variable [TabC]
abbrev EE (X : Cx) (e : Expr) (f : Co D) : Prop := PE X e (rdE X.K X.mg f)
abbrev EB (X : Cx) (e : Expr) (f : Co Opd) : Prop := PE X e (rdB X.K X.mg f)
abbrev EF (X : Cx) (e : Expr) (f : Co D) : Prop := PE X e (rdF X.K X.mg f)
abbrev ET (X : Cx) (e : Expr) (f : Co Bool) : Prop := PT X e (rdT X.K X.mg f)
abbrev EA (X : Cx) (es : List Expr) (f : Co (List D)) : Prop := PA X es (rdA X.K X.mg f)
abbrev EBs (X : Cx) (es : List Expr) (f : Co (List Opd)) : Prop := PA X es (rdBs X.K X.mg f)
abbrev SS (X : Cx) (st : Stmt) (f : Co Flow') : Prop := PS X st (rdS X.K X.mg f)
abbrev SSs (X : Cx) (st : List Stmt) (f : Co Flow') : Prop := PSs X st (rdS X.K X.mg f)
theorem PE.imp {X : Cx} {e : Expr} {t t' : TE} (h : PE X e t) (i : ∀ σ H Q, t' σ H Q → t σ H Q) : PE X e t' := ⟨fun pins s σ H Q I q => h.run pins s σ H Q I (i σ H Q q)⟩
theorem PT.imp {X : Cx} {e : Expr} {t t' : TT} (h : PT X e t) (i : ∀ σ H Q, t' σ H Q → t σ H Q) : PT X e t' := ⟨fun pins s σ H Q I q => h.run pins s σ H Q I (i σ H Q q)⟩
theorem PW.imp {X : Cx} {e : Expr} {t t' : TT} (h : PW X e t) (i : ∀ σ H Q, t' σ H Q → t σ H Q) : PW X e t' := ⟨fun wh pins s σ H Q I q => h.run wh pins s σ H Q I (i σ H Q q)⟩
theorem PA.imp {X : Cx} {e : List Expr} {t t' : TA} (h : PA X e t) (i : ∀ σ H Q, t' σ H Q → t σ H Q) : PA X e t' := ⟨fun pos pins s σ H Q I q => h.run pos pins s σ H Q I (i σ H Q q)⟩
theorem PS.imp {X : Cx} {e : Stmt} {t t' : TS} (h : PS X e t) (i : ∀ D σ H, t' D σ H → t D σ H) : PS X e t' := ⟨fun pins s σ H D I q => h.run pins s σ H D I (i D σ H q)⟩
theorem PSs.imp {X : Cx} {e : List Stmt} {t t' : TS} (h : PSs X e t) (i : ∀ D σ H, t' D σ H → t D σ H) : PSs X e t' := ⟨fun pins s σ H D I q => h.run pins s σ H D I (i D σ H q)⟩
theorem PI.imp {X : Cx} {tg e : Expr} {t t' : TI} (h : PI X tg e t) (i : ∀ σ H Q, t' σ H Q → t σ H Q) : PI X tg e t' := ⟨fun pins s σ H Q I q => h.run pins s σ H Q I (i σ H Q q)⟩
section
variable {K : PySem.W.Frag} {mg : Str → Option Value} {W : Wd} {σ : L2.St} {H H1 H2 : Hp} {m m1 m2 : M} {ob1 ob2 : Nat → Addr}
theorem After.refl (S : Sit K mg W σ H m) : After K mg W σ H m W.ob H m := ⟨Ext.refl, S⟩
theorem After.trans (a : After K mg W σ H m ob1 H1 m1) (b : After K mg { W with ob := ob1 } σ H1 m1 ob2 H2 m2) : After K mg W σ H m ob2 H2 m2 := ⟨a.1.trans b.1, b.2⟩
theorem After.rep (a : After K mg W σ H m ob1 H1 m1) {v : V} {d : D} (r : Rep K mg (W.ev m.obs.length) H v d) : Rep K mg ({ W with ob := ob1 }.ev m1.obs.length) H1 v d := r.ext a.1 (W.sub _)
theorem After.repL (a : After K mg W σ H m ob1 H1 m1) {v : List V} {d : List D} (r : RepL K mg (W.ev m.obs.length) H v d) : RepL K mg ({ W with ob := ob1 }.ev m1.obs.length) H1 v d := r.ext a.1 (W.sub _)
theorem After.repO (a : After K mg W σ H m ob1 H1 m1) {v : V} {o : Opd} (r : RepO K mg W σ H m v o) : RepO K mg { W with ob := ob1 } σ H1 m1 v o := by
  cases o with
  | val d => exact a.rep r
  | slot i => exact r
theorem After.same (S : Sit K mg W σ H m) (x : Same H H1) : After K mg W σ H m W.ob H1 m := ⟨.same x, S.same x⟩
theorem RepO.view (S : Sit K mg W σ H m) {v : V} {o : Opd} {d : D} (r : RepO K mg W σ H m v o) (g : o.get m = some d) : RepV K mg (W.ev m.obs.length) H v d := by
  cases o with
  | val e =>
    cases e <;> first
      | (cases g; exact .of r)
      | skip
    rename_i n
    have r' : Rep K mg (W.ev m.obs.length) H v (.obj n) := r
    cases r' with
    | obj _ hn =>
      have e : m.obs[n]? = some m.obs[n] := List.getElem?_eq_getElem hn
      have g' : (m.obs[n]?).map D.lst = some d := g
      rw [e] at g'; cases g'
      exact .cell (S.ob n _ e)
  | slot i =>
    obtain ⟨a, ho, rfl⟩ := r
    have g' : (match m.env[i]? with | some (.ow d) => some d | _ => none) = some d := g
    split at g'
    · rename_i e he
      cases g'
      obtain ⟨b, hb, _, c⟩ := S.ow i _ he
      have ho' : W.own i = some a := ho
      rw [ho'] at hb; cases hb
      exact .cell c
    · cases g'
theorem RepV.lst {E : Ev} {v : V} {ds : List D} (r : RepV K mg E H v (.lst ds)) : ∃ a vs, v = .ref a ∧ H a = some (.lst vs) ∧ RepL K mg E H vs ds := by
  cases r with
  | of r => cases r with | lst h n r => exact ⟨_, _, rfl, h, r⟩
  | cell c => obtain ⟨vs, h, r⟩ := c; exact ⟨_, vs, rfl, h, r⟩
theorem RepV.tup {E : Ev} {v : V} {ds : List D} (r : RepV K mg E H v (.tup ds)) : ∃ a vs, v = .ref a ∧ H a = some (.tup vs) ∧ RepL K mg E H vs ds := by
  cases r with
  | of r => cases r with | tup h r => exact ⟨_, _, rfl, h, r⟩
  | cell c => exact c.elim
theorem RepV.xt {E : Ev} {v : V} {ds : List D} (r : RepV K mg E H v (.xt ds)) : ∃ a o vs, v = .ref a ∧ H a = some (.frz o (.tup vs)) ∧ o.dict = none ∧ RepL K mg E H vs ds := by
  cases r with
  | of r => cases r with | xt h k r => exact ⟨_, _, _, rfl, h, k, r⟩
  | cell c => exact c.elim
theorem RepV.int {E : Ev} {v : V} {i : Int} (r : RepV K mg E H v (.int i)) : v = .int i := by
  cases r with
  | of r => cases r; rfl
  | cell c => exact c.elim
theorem RepV.bl {E : Ev} {v : V} {i : Bool} (r : RepV K mg E H v (.bl i)) : v = .bl i := by
  cases r with
  | of r => cases r; rfl
  | cell c => exact c.elim
theorem RepV.str {E : Ev} {v : V} {i : Str} (r : RepV K mg E H v (.str i)) : v = .str i := by
  cases r with
  | of r => cases r; rfl
  | cell c => exact c.elim
theorem RepV.non {E : Ev} {v : V} (r : RepV K mg E H v .non) : v = .non := by
  cases r with
  | of r => cases r; rfl
  | cell c => exact c.elim
theorem RepV.scr {E : Ev} {v : V} {ns : List Int} (r : RepV K mg E H v (.scr ns)) : ∃ a, v = .ref a ∧ SqL K H a (ns.map V.int) := by
  cases r with
  | of r =>
    cases r with
    | scr _ h n => exact ⟨_, rfl, .inl h⟩
    | scrK _ h => exact ⟨_, rfl, h H⟩
  | cell c => exact c.elim
end
def addD : D → D → Option D
  | .int i, .int j => some (.int (i + j))
  | .str x, .str y => if x.length + y.length ≤ sizeLine then some (.str (x ++ y)) else none
  | .lst x, .lst y => if x.length + y.length ≤ sizeLine then some (.lst (x ++ y)) else none
  | .tup x, .tup y => if x.length + y.length ≤ sizeLine then some (.tup (x ++ y)) else none
  | _, _ => none
def subD : D → D → Option D
  | .int i, .int j => some (.int (i - j))
  | _, _ => none
instance {i j : Int} : Decidable (CMulW i j) := inferInstanceAs (Decidable (_ < _))
instance {i j : Int} : Decidable (CDivW i j) := inferInstanceAs (Decidable (_ ∧ _))
instance {i j : Int} : Decidable (CPow i j) := inferInstanceAs (Decidable (_ ∧ _ ∧ _))
def divD : D → D → Option D
  | .int i, .int j => if CDivW i j then some (.int (i / j)) else none
  | _, _ => none
def modD : D → D → Option D
  | .int i, .int j => if 0 < j then some (.int (i % j)) else none
  | _, _ => none
def powD : D → D → Option D
  | .int i, .int j => if CPow i j then some (.int (i ^ j.toNat)) else none
  | _, _ => none
def OpD (K : PySem.W.Frag) (mg : Str → Option Value) (g : D → D → Option D) (r : R2) : Prop :=
  ∀ (E : Ev) (H : Hp) (x y : V) (d1 d2 d : D) (Q : VK), (∀ a, E.N a → ∃ o, H a = some o) → RepV K mg E H x d1 → RepV K mg E H y d2 → g d1 d2 = some d →
    (∀ v H', Same H H' → Rep K mg E H' v d → Q v H') → r x y H Q
theorem same_new {H : Hp} {p : Addr} (h : H p = none) (o : HO) : Same H (upd H p o) := fun b u q => by rw [upd_ne (ne_of_none q h)]; exact q
section
variable {K : PySem.W.Frag} {mg : Str → Option Value} {E : Ev} {H : Hp} {X : Cx}
theorem Ev.le_mx (E : Ev) (P : Addr → Prop) : E.Le { E with Mx := P } := ⟨Nat.le_refl _, fun _ _ => rfl, fun _ h => h⟩
theorem Ev.mx_le (E : Ev) (P : Addr → Prop) : Ev.Le { E with Mx := P } E := ⟨Nat.le_refl _, fun _ _ => rfl, fun _ h => h⟩
theorem Rep.up {H' : Hp} {v : V} {d : D} (x : Same H H') (r : Rep K mg E H v d) : Rep K mg E H' v d :=
  Rep.le (E.mx_le _) (Rep.ext (E' := { E with Mx := fun _ => False }) (.same x) (fun _ z => z.elim) (Rep.le (E.le_mx fun _ => False) r))
theorem RepL.up {H' : Hp} {v : List V} {d : List D} (x : Same H H') (r : RepL K mg E H v d) : RepL K mg E H' v d :=
  RepL.le (E.mx_le _) (RepL.ext (E' := { E with Mx := fun _ => False }) (.same x) (fun _ z => z.elim) (RepL.le (E.le_mx fun _ => False) r))
theorem opd_sub : OpD K mg subD (rI0 fun i j => .int (i - j)) := fun E H x y d1 d2 d Q hN r1 r2 g q => by
  unfold subD at g
  split at g
  · cases g
    exact ⟨_, _, r1.int, r2.int, q _ _ (Same.refl _) (.int _)⟩
  · cases g
theorem opd_div : OpD K mg divD (rI CDivW fun i j => .int (i / j)) := fun E H x y d1 d2 d Q hN r1 r2 g q => by
  unfold divD at g
  split at g
  · split at g
    · cases g
      rename_i h
      exact ⟨_, _, r1.int, r2.int, h, q _ _ (Same.refl _) (.int _)⟩
    · cases g
  · cases g
theorem opd_mod : OpD K mg modD (rI (fun _ j => 0 < j) fun i j => .int (i % j)) := fun E H x y d1 d2 d Q hN r1 r2 g q => by
  unfold modD at g
  split at g
  · split at g
    · cases g
      rename_i h
      exact ⟨_, _, r1.int, r2.int, h, q _ _ (Same.refl _) (.int _)⟩
    · cases g
  · cases g
theorem opd_pow : OpD K mg powD (rI CPow fun i j => .int (i ^ j.toNat)) := fun E H x y d1 d2 d Q hN r1 r2 g q => by
  unfold powD at g
  split at g
  · split at g
    · cases g
      rename_i h
      exact ⟨_, _, r1.int, r2.int, h, q _ _ (Same.refl _) (.int _)⟩
    · cases g
  · cases g
theorem RepL.nil_iff {vs : List V} {ds : List D} (r : RepL K mg E H vs ds) : vs = [] ↔ ds = [] := by
  cases r <;> simp
theorem Rep.newL {p : Addr} {vs : List V} {ds : List D} (hN : ∀ a, E.N a → ∃ o, H a = some o) (hp : H p = none) (r : RepL K mg E H vs ds) : Rep K mg E (upd H p (.lst vs)) (.ref p) (.lst ds) :=
  .lst upd_same (fun z => by obtain ⟨o, e⟩ := hN _ z; rw [hp] at e; cases e) (r.up (same_new hp _))
theorem Rep.newT {p : Addr} {vs : List V} {ds : List D} (hp : H p = none) (r : RepL K mg E H vs ds) : Rep K mg E (upd H p (.tup vs)) (.ref p) (.tup ds) :=
  .tup upd_same (r.up (same_new hp _))
def rAddAll (K : PySem.W.Frag) : R2 := fun x y H Q => (rI0 (fun i j => .int (i + j)) x y H Q ∨ (fun x y H Q => ∃ i j, x = V.str i ∧ y = V.str j ∧ i.length + j.length ≤ sizeLine ∧ Q (V.str (i ++ j)) H) x y H Q) ∨ (rCat x y H Q ∨ rCatA K x y H Q)
theorem op_addAll : OpR X (binaryOp .Add) (rAddAll X.K) := OpR.or (OpR.or op_add op_add_str) (OpR.or op_cat op_catA)
theorem opd_add : OpD K mg addD (rAddAll K) := fun E H x y d1 d2 d Q hN r1 r2 g q => by
  unfold addD at g
  split at g
  · cases g
    exact .inl (.inl ⟨_, _, r1.int, r2.int, q _ _ (Same.refl _) (.int _)⟩)
  · split at g
    · cases g
      rename_i h
      exact .inl (.inr ⟨_, _, r1.str, r2.str, h, q _ _ (Same.refl _) (.str _)⟩)
    · cases g
  · split at g
    · cases g
      rename_i h
      obtain ⟨a, vs, rfl, ha, ra⟩ := r1.lst
      obtain ⟨b, ws, rfl, hb, rb⟩ := r2.lst
      exact .inr (.inl ⟨a, b, vs, ws, rfl, rfl, ha, hb, by rw [ra.length, rb.length]; exact h, fun p hp => q _ _ (same_new hp _) (.newL hN hp (ra.append rb))⟩)
    · cases g
  · split at g
    · cases g
      rename_i h
      obtain ⟨a, vs, rfl, ha, ra⟩ := r1.tup
      obtain ⟨b, ws, rfl, hb, rb⟩ := r2.tup
      refine .inr (.inr ⟨a, b, vs, ws, rfl, rfl, SqT.of ha, SqT.of hb, by rw [ra.length, rb.length]; exact h, fun e => ?_, fun _ e => ?_, fun _ _ p hp => q _ _ (same_new hp _) (.newT hp (ra.append rb))⟩)
      · rw [ra.nil_iff] at e
        subst e
        exact q _ _ (Same.refl _) (.tup hb rb)
      · rw [rb.nil_iff] at e
        subst e
        rw [List.append_nil] at q
        exact q _ _ (Same.refl _) (.tup ha ra)
    · cases g
  · cases g
end
end PD
namespace PD
open PySem PySem.Spec PyProof.Rows L2
variable [TabC]
theorem tuple_mulW1 (l : Addr) (items : Array Value) (n : Nat) (dd : Option Addr) (sl : Array (Option Value)) (u : Tok) :
    Meets (Builtin.«tuple.__mul__» ⟨[.ref l, .int 1 u], []⟩) (fun _ R s => s.heap.get? l = some { cls := .type "tuple", dict := dd, data := .seq items n, slots := sl } ∧
      R (.ok (.ret (Value.ref l))) s) :=
  .of_wp fun prog w A R s h => by
    obtain ⟨hp, g, d, tk, os⟩ := s
    obtain ⟨hl, h⟩ := h
    have f1 := AutoSeq1.idx_int
    wp_walk using wpAny_loadPart' hl
    exact ⟨_, rfl, h⟩
section
variable {X : Cx}
def rRepT1 (K : PySem.W.Frag) : R2 := fun x y H Q => ∃ l xs, x = .ref l ∧ y = .int 1 ∧ SqT K H l xs ∧ Q (.ref l) H
theorem op_repT1 : OpR X (binaryOp .Mult) (rRepT1 X.K) := by
  intro pins s σ H x y v u Q I rx ry h
  obtain ⟨l, xs, rfl, rfl, hT, q⟩ := h
  cases rx
  obtain ⟨t, rfl⟩ := ry
  obtain ⟨its, r, ⟨⟨cls, dd, data, sl⟩, ho, hc, n, hd⟩, hs⟩ := I.tuple hT
  simp only at hc hd
  subst hc hd
  refine wpAny_binaryOp_repeat_ref (T := "tuple") (U := "int") (by decide) ⟨_, ho, rfl⟩ (fun s' => typeIs_int s' 1 t) L2.noFill_tuple_mul F.fills_int_mul F.slot_int_rmul L2.repeat_tuple F.slot_int_index.lookup
    (call_meets F.slot_int_rmul (typeIs_int s 1 t) F.entry_int_rmul (F.args_int_rmul_2 _ _) (L2.int_rmul_tuple 1 t l its.toArray n dd sl)
      ⟨ho, rfl, ⟨_, ho, rfl⟩, call_meets F.slot_tuple_mul ⟨_, ho, rfl⟩ F.entry_tuple_mul (F.args_tuple_mul_2 _ _) (tuple_mulW1 l its.toArray n dd sl t) ⟨ho, ?_⟩⟩)
  exact ⟨.ref l, H, I, rfl, q⟩
def repS (x : Str) (k : Int) : Str := ⟨(List.replicate k.toNat x.cps.toList).flatten.toArray⟩
def CRep (x : Str) (k : Int) : Prop := 0 ≤ k ∧ k ≤ 100000 ∧ x.length ≤ 100
instance {x : Str} {k : Int} : Decidable (CRep x k) := inferInstanceAs (Decidable (_ ∧ _ ∧ _))
def rRepS : R2 := fun x y H Q => ∃ s k, x = .str s ∧ y = .int k ∧ CRep s k ∧ Q (.str (repS s k)) H
theorem foldl_arr (x : Array Nat) : ∀ (m : Nat) (acc : Array Nat), (List.replicate m x).foldl (· ++ ·) acc = acc ++ ((List.replicate m x.toList).flatten).toArray
  | 0, acc => by simp
  | m + 1, acc => by
    rw [List.replicate_succ, List.foldl_cons, foldl_arr x m, List.replicate_succ, List.flatten_cons]
    apply Array.ext'
    simp
theorem op_repS : OpR X (binaryOp .Mult) rRepS := by
  intro pins s σ H x y v u Q I rx ry h
  obtain ⟨z, k, rfl, rfl, ⟨h0, h1, h2⟩, q⟩ := h
  obtain ⟨t, rfl⟩ := rx
  obtain ⟨t', rfl⟩ := ry
  have hl : z.length * k.toNat ≤ 10000000 := by
    have : z.length * k.toNat ≤ 100 * 100000 := Nat.mul_le_mul h2 (by omega)
    omega
  refine PySem.P.mul_str (by rw [decide_eq_false (by omega), decide_eq_false (by omega)]; rfl) (fun a b => ?_) (fun _ _ => ?_) ?_
  · have hk : 1 ≤ k := by omega
    have e : ((2 : Int) ^ 63 - 1) / k ≥ (2 ^ 63 - 1) / 100000 := Int.le_ediv_of_mul_le (by omega) (by
      have : ((2 : Int) ^ 63 - 1) / 100000 * k ≤ (2 ^ 63 - 1) / 100000 * 100000 := Int.mul_le_mul_of_nonneg_left h1 (by decide)
      have h3 : ((2 : Int) ^ 63 - 1) / 100000 * 100000 ≤ 2 ^ 63 - 1 := by decide
      omega)
    have e2 : ((2 : Int) ^ 63 - 1) / 100000 ≥ 100 := by decide
    omega
  · unfold Builtin.Str.tooLong
    rw [sizeLine_eq]
    exact decide_eq_false (by omega)
  · have key : ∀ (z' : Str), z'.length ≤ sizeLine → z' = repS z k → (Made.str z').post (EP X pins σ Q) s := fun z' hz e => by
      subst e
      exact ⟨hz, ⟨.str (repS z k), H, I.tok _, ⟨_, rfl⟩, q⟩⟩
    split
    · refine key _ (by decide) ?_
      have : k = 0 := by omega
      subst this
      rfl
    · split
      · rename_i hn hc
        refine ⟨.str z, H, I, ⟨t, rfl⟩, ?_⟩
        have e : repS z k = z := by
          unfold repS
          rw [Bool.or_eq_true] at hc
          rcases hc with hc | hc
          · have : k = 1 := by simpa using hc
            subst this
            simp
          · have : z.cps.toList = [] := by
              have h5 : z.length = 0 := by simpa using hc
              exact List.eq_nil_of_length_eq_zero (by rw [Array.length_toList]; exact h5)
            rw [this]
            have h6 : z.cps = #[] := by apply Array.ext'; simpa using this
            cases z
            simp at h6
            subst h6
            simp
        rw [← e]
        exact q
      · refine key _ ?_ ?_
        · rw [foldl_arr]
          show Array.size _ ≤ _
          rw [sizeLine_eq]
          simp
          rw [Nat.mul_comm]
          have : z.cps.size * k.toNat ≤ 10000000 := hl
          omega
        · unfold repS
          rw [foldl_arr]
          simp
def mulD : D → D → Option D
  | .int i, .int j => if CMulW i j then some (.int (i * j)) else none
  | .str x, .int k => if CRep x k then some (.str (repS x k)) else none
  | .lst xs, .int k => if 0 ≤ k ∧ k ≤ 100000 ∧ xs.length ≤ 100 then some (.lst (List.replicate k.toNat xs).flatten) else none
  | .tup xs, .int k => if 1 ≤ k ∧ k ≤ 1000 ∧ xs.length ≤ 1000 ∧ 0 < xs.length then some (.tup (List.replicate k.toNat xs).flatten) else none
  | _, _ => none
def rMulAll (K : PySem.W.Frag) : R2 := fun x y H Q => (rI CMulW (fun i j => .int (i * j)) x y H Q ∨ rRepS x y H Q) ∨ rRep x y H Q ∨ (rRepT K x y H Q ∨ rRepT1 K x y H Q)
theorem op_mulAll : OpR X (binaryOp .Mult) (rMulAll X.K) := OpR.or (OpR.or op_mulW op_repS) (OpR.or op_rep (OpR.or op_repT op_repT1))
end
section
variable {K : PySem.W.Frag} {mg : Str → Option Value}
theorem opd_mul : OpD K mg mulD (rMulAll K) := fun E H x y d1 d2 d Q hN r1 r2 g q => by
  unfold mulD at g
  split at g
  · split at g
    · cases g
      rename_i h
      exact .inl (.inl ⟨_, _, r1.int, r2.int, h, q _ _ (Same.refl _) (.int _)⟩)
    · cases g
  · split at g
    · cases g
      rename_i h
      exact .inl (.inr ⟨_, _, r1.str, r2.int, h, q _ _ (Same.refl _) (.str _)⟩)
    · cases g
  · split at g
    · cases g
      rename_i k h
      obtain ⟨a, vs, rfl, ha, ra⟩ := r1.lst
      refine .inr (.inl ⟨a, k, vs, rfl, r2.int, ha, by omega, by omega, ?_, fun p hp => q _ _ (same_new hp _) (.newL hN hp (ra.rep _))⟩)
      rw [ra.length, sizeLine_eq]
      have : (_ : List D).length * k.toNat ≤ 100 * 100000 := Nat.mul_le_mul h.2.2 (by omega)
      exact Nat.le_trans this (by decide)
    · cases g
  · split at g
    · cases g
      rename_i k h
      obtain ⟨a, vs, rfl, ha, ra⟩ := r1.tup
      refine .inr (.inr ?_)
      have hne : vs ≠ [] := fun e => by
        rw [ra.nil_iff] at e
        rw [e] at h
        exact absurd h.2.2.2 (Nat.lt_irrefl 0)
      by_cases h1 : k = 1
      · subst h1
        refine .inr ⟨a, vs, rfl, r2.int, SqT.of ha, q _ _ (Same.refl _) ?_⟩
        simpa using Rep.tup ha ra
      · exact .inl ⟨a, k, vs, rfl, r2.int, SqT.of ha, hne, by omega, by omega, by rw [ra.length]; exact h.2.2.1, fun p hp => q _ _ (same_new hp _) (.newT hp (ra.rep _))⟩
    · cases g
  · cases g
end
end PD
namespace PD
open PySem PySem.Spec PyProof.Rows L2
variable [TabC]
theorem Co.bind_ok {α β : Type} {c : Co α} {k : α → Co β} {m m' : M} {b : β} (h : Co.bind c k m = .ok b m') : ∃ a m1, c m = .ok a m1 ∧ k a m1 = .ok b m' := by
  unfold Co.bind at h
  split at h
  · rename_i a m1 e; exact ⟨a, m1, e, h⟩
  · cases h
def Opd1 (g : D → Option D) (o1 : Opd) : Co D := fun m => match o1.get m with
  | some d1 => match g d1 with
    | some d => .ok d m
    | none => .no
  | none => .no
def Opd2 (g : D → D → Option D) (o1 o2 : Opd) : Co D := fun m => match o1.get m with
  | some d1 => match o2.get m with
    | some d2 => match g d1 d2 with
      | some d => .ok d m
      | none => .no
    | none => .no
  | none => .no
theorem Opd1.ok {g : D → Option D} {o1 : Opd} {m m' : M} {d : D} (h : Opd1 g o1 m = .ok d m') : ∃ d1, o1.get m = some d1 ∧ g d1 = some d ∧ m' = m := by
  unfold Opd1 at h
  cases e1 : o1.get m with
  | none => rw [e1] at h; cases h
  | some d1 =>
    rw [e1] at h
    simp only at h
    cases e3 : g d1 with
    | none => rw [e3] at h; cases h
    | some d3 => rw [e3] at h; cases h; exact ⟨_, rfl, e3, rfl⟩
theorem Opd2.ok {g : D → D → Option D} {o1 o2 : Opd} {m m' : M} {d : D} (h : Opd2 g o1 o2 m = .ok d m') : ∃ d1 d2, o1.get m = some d1 ∧ o2.get m = some d2 ∧ g d1 d2 = some d ∧ m' = m := by
  unfold Opd2 at h
  cases e1 : o1.get m with
  | none => rw [e1] at h; cases h
  | some d1 =>
    rw [e1] at h
    simp only at h
    cases e2 : o2.get m with
    | none => rw [e2] at h; cases h
    | some d2 =>
      rw [e2] at h
      simp only at h
      cases e3 : g d1 d2 with
      | none => rw [e3] at h; cases h
      | some d3 => rw [e3] at h; cases h; exact ⟨_, _, rfl, rfl, e3, rfl⟩
def eOp1 (g : D → Option D) (f1 : Co Opd) : Co D := Co.bind f1 fun o1 => Opd1 g o1
def eOp (g : D → D → Option D) (f1 f2 : Co Opd) : Co D := Co.bind f1 fun o1 => Co.bind f2 fun o2 => Opd2 g o1 o2
def vB (f : Co D) : Co Opd := Co.bind f fun d => Co.ret (.val d)
def toB (d : D) : Co Bool := fun m => match d with
  | .bl b => .ok b m
  | _ => .no
def tB' (f : Co D) : Co Bool := Co.bind f toB
section
variable {X : Cx} {a b c e : Expr} {pos : Pos} {f f1 f2 f3 : Co D} {g1 g2 g3 : Co Opd}
theorem EB.of (h : EE X e f) : EB X e (vB f) := PE.imp h fun σ H Q ⟨W, m, S, o, m', hf, q⟩ => by
  obtain ⟨d, m1, e1, e2⟩ := Co.bind_ok hf
  cases e2
  exact ⟨W, m, S, d, _, e1, fun v ob' H' A r => q v ob' H' A r⟩
theorem bin2 {g : D → D → Option D} {r : R2} {σ : L2.St} {H : Hp} {Q : VK} {ta tb : TE} (hg : OpD X.K X.mg g r) (ha : ∀ Q, rdB X.K X.mg g1 σ H Q → ta σ H Q) (hb : ∀ H Q, rdB X.K X.mg g2 σ H Q → tb σ H Q)
    (h : rdE X.K X.mg (eOp g g1 g2) σ H Q) : ta σ H fun x H1 => tb σ H1 fun y H2 => r x y H2 Q := by
  obtain ⟨W, m, S, d, m', hf, q⟩ := h
  obtain ⟨o1, m1, e1, hf⟩ := Co.bind_ok hf
  obtain ⟨o2, m2, e2, hf⟩ := Co.bind_ok hf
  obtain ⟨d1, d2, k1, k2, k3, rfl⟩ := Opd2.ok hf
  refine ha _ ⟨W, m, S, o1, m1, e1, fun x ob1 H1 A1 r1 => ?_⟩
  refine hb _ _ ⟨_, m1, A1.2, o2, m', e2, fun y ob2 H2 A2 r2 => ?_⟩
  have A := A1.trans A2
  refine hg _ H2 x y d1 d2 d Q (fun a z => A.2.dom z) ((A2.repO r1).view A.2 k1) (r2.view A.2 k2) k3 fun v H' sm rv => ?_
  exact q v ob2 H' (A.trans (.same A.2 sm)) rv
theorem ee_op {op : Operator} {r : R2} {g : D → D → Option D} (ho : OpR X (binaryOp op) r) (hg : OpD X.K X.mg g r) (ha : EB X a g1) (hb : EB X b g2) : EE X (.BinOp a op b pos) (eOp g g1 g2) :=
  PE.imp (pe_op ho ha hb) fun σ H Q h => bin2 hg (fun _ q => q) (fun _ _ q => q) h
theorem ee_cmp {op : CmpOp} {r : R2} {g : D → D → Option D} (ho : OpR X (compareOp op) r) (hg : OpD X.K X.mg g r) (ha : EB X a g1) (hb : EB X b g2)
    (hm : behindInMarks op b = false := by first | exact nobehind _ (by decide) (by decide) | rfl) : EE X (.Compare a [op] [b] pos) (eOp g g1 g2) :=
  PE.imp (pe_cmpR ho ha hb hm) fun σ H Q h => bin2 hg (fun _ q => q) (fun _ _ q => q) h
theorem rdT_of {σ : L2.St} {H : Hp} {Q : Bool → Hp → Prop} (h : rdT X.K X.mg (tB' f) σ H Q) : rdE X.K X.mg f σ H fun v H' => ∃ c, v = .bl c ∧ Q c H' := by
  obtain ⟨W, m, S, b, m', hf, q⟩ := h
  obtain ⟨d, m1, e1, e2⟩ := Co.bind_ok hf
  unfold toB at e2
  split at e2
  · cases e2
    refine ⟨W, m, S, _, _, e1, fun v ob' H' A r => ?_⟩
    cases r
    exact ⟨b, rfl, q ob' H' A⟩
  · cases e2
theorem et_cmp {op : CmpOp} {r : R2} {g : D → D → Option D} (ho : OpR X (compareOp op) r) (hg : OpD X.K X.mg g r) (ha : EB X a g1) (hb : EB X b g2)
    (hm : behindInMarks op b = false := by first | exact nobehind _ (by decide) (by decide) | rfl) : ET X (.Compare a [op] [b] pos) (tB' (eOp g g1 g2)) :=
  PT.imp (pt_cmpR ho ha hb hm) fun σ H Q h => bin2 hg (fun _ q => q) (fun _ _ q => q) (rdT_of h)
theorem et_val (h : EE X e f) (he : ∀ whole, isTrue e X.env whole = (do let v ← whole; standAt e.pos; holding [v] (truthy v)) := by intro _; rfl) : ET X e (tB' f) :=
  PT.imp (pt_val h he) fun σ H Q q => rdT_of q
def tAnd' (t u : Co Bool) : Co Bool := Co.bind t fun c => if c = true then u else Co.ret false
def tOr' (t u : Co Bool) : Co Bool := Co.bind t fun c => if c = true then Co.ret true else u
def tNot' (t : Co Bool) : Co Bool := Co.bind t fun c => Co.ret !c
abbrev EW (X : Cx) (e : Expr) (f : Co Bool) : Prop := PW X e (rdT X.K X.mg f)
theorem EW.et {t : Co Bool} (h : EW X e t) : ET X e t := PW.pt h
variable {t1 t2 : Co Bool} {rest : List Expr}
theorem ew_and1 (ha : ET X a t1) : EW X (.BoolOp .And [a] pos) t1 := pw_and1 ha
theorem ew_or1 (ha : ET X a t1) : EW X (.BoolOp .Or [a] pos) t1 := pw_or1 ha
theorem ew_and (ha : ET X a t1) (hb : EW X (.BoolOp .And (b :: rest) pos) t2) : EW X (.BoolOp .And (a :: b :: rest) pos) (tAnd' t1 t2) :=
  PW.imp (pw_and ha hb) fun σ H Q ⟨W, m, S, d, m', hf, q⟩ => by
    obtain ⟨c, m1, e1, e2⟩ := Co.bind_ok hf
    refine ⟨W, m, S, c, m1, e1, fun ob' H' A => ?_⟩
    cases c with
    | true => exact ⟨_, m1, A.2, d, m', e2, fun ob2 H2 A2 => q ob2 H2 (A.trans A2)⟩
    | false =>
      cases e2
      exact q ob' H' A
theorem ew_or (ha : ET X a t1) (hb : EW X (.BoolOp .Or (b :: rest) pos) t2) : EW X (.BoolOp .Or (a :: b :: rest) pos) (tOr' t1 t2) :=
  PW.imp (pw_or ha hb) fun σ H Q ⟨W, m, S, d, m', hf, q⟩ => by
    obtain ⟨c, m1, e1, e2⟩ := Co.bind_ok hf
    refine ⟨W, m, S, c, m1, e1, fun ob' H' A => ?_⟩
    cases c with
    | false => exact ⟨_, m1, A.2, d, m', e2, fun ob2 H2 A2 => q ob2 H2 (A.trans A2)⟩
    | true =>
      cases e2
      exact q ob' H' A
theorem et_not (ha : ET X a t1) : ET X (.UnaryOp .Not a pos) (tNot' t1) :=
  PT.imp (pt_not ha) fun σ H Q ⟨W, m, S, d, m', hf, q⟩ => by
    obtain ⟨c, m1, e1, e2⟩ := Co.bind_ok hf
    cases e2
    exact ⟨W, m, S, c, _, e1, fun ob' H' A => q ob' H' A⟩
def eAnd (f1 f2 : Co D) : Co D := Co.bind (tB' f1) fun c => if c = true then f2 else Co.ret (.bl false)
def eOr (f1 f2 : Co D) : Co D := Co.bind (tB' f1) fun c => if c = true then Co.ret (.bl true) else f2
def eNot (f1 : Co D) : Co D := Co.bind (tB' f1) fun c => Co.ret (.bl !c)
theorem ee_one {op} (h : EE X a f) : EE X (.BoolOp op [a] pos) f := pe_one h
theorem rdE_bl {k : Bool → Co D} {σ : L2.St} {H : Hp} {Q : VK} (h : rdE X.K X.mg (Co.bind (tB' f) k) σ H Q) :
    rdE X.K X.mg f σ H fun v H1 => ∃ c, v = .bl c ∧ rdE X.K X.mg (k c) σ H1 Q := by
  obtain ⟨W, m, S, d, m', hf, q⟩ := h
  obtain ⟨c, m1, e1, e2⟩ := Co.bind_ok hf
  obtain ⟨d1, m2, e3, e4⟩ := Co.bind_ok e1
  unfold toB at e4
  split at e4
  · cases e4
    refine ⟨W, m, S, _, _, e3, fun v ob' H' A r => ?_⟩
    cases r
    exact ⟨c, rfl, _, m1, A.2, d, m', e2, fun v ob2 H2 A2 r2 => q v ob2 H2 (A.trans A2) r2⟩
  · cases e4
theorem rdE_ret {d : D} {σ : L2.St} {H : Hp} {Q : VK} (h : rdE X.K X.mg (Co.ret d) σ H Q) (v : V) (r : ∀ (E : Ev), Rep X.K X.mg E H v d) : Q v H := by
  obtain ⟨W, m, S, d', m', hf, q⟩ := h
  cases hf
  exact q v W.ob H (.refl S) (r _)
theorem ee_and (ha : EE X a f1) (hb : EE X (.BoolOp .And (b :: rest) pos) f2) : EE X (.BoolOp .And (a :: b :: rest) pos) (eAnd f1 f2) :=
  PE.imp (pe_and ha hb) fun σ H Q h => by
    have h' := rdE_bl (k := fun c => if c = true then f2 else Co.ret (.bl false)) h
    obtain ⟨W, m, S, d, m', hf, q⟩ := h'
    refine ⟨W, m, S, d, m', hf, fun v ob' H' A r => ?_⟩
    obtain ⟨c, e, q⟩ := q v ob' H' A r
    refine ⟨c, e, ?_⟩
    cases c with
    | true => exact q
    | false => exact rdE_ret q _ fun _ => .bl _
theorem ee_not (ha : EE X a f1) : EE X (.UnaryOp .Not a pos) (eNot f1) :=
  PE.imp (pe_not ha) fun σ H Q h => by
    have h' := rdE_bl (k := fun c => Co.ret (.bl !c)) h
    obtain ⟨W, m, S, d, m', hf, q⟩ := h'
    refine ⟨W, m, S, d, m', hf, fun v ob' H' A r => ?_⟩
    obtain ⟨c, e, q⟩ := q v ob' H' A r
    exact ⟨c, e, rdE_ret q _ fun _ => .bl _⟩
def eIf (t : Co Bool) (f1 f2 : Co D) : Co D := Co.bind t fun c => if c = true then f1 else f2
theorem ee_if (hc : ET X c t1) (ha : EE X a f1) (hb : EE X b f2) : EE X (.IfExp c a b pos) (eIf t1 f1 f2) :=
  PE.imp (pe_ifExp hc ha hb) fun σ H Q ⟨W, m, S, d, m', hf, q⟩ => by
    obtain ⟨c, m1, e1, e2⟩ := Co.bind_ok hf
    refine ⟨W, m, S, c, m1, e1, fun ob' H' A => ?_⟩
    cases c with
    | true => exact ⟨_, m1, A.2, d, m', e2, fun v ob2 H2 A2 r2 => q v ob2 H2 (A.trans A2) r2⟩
    | false => exact ⟨_, m1, A.2, d, m', e2, fun v ob2 H2 A2 r2 => q v ob2 H2 (A.trans A2) r2⟩
def eChain (p q : D → D → Option D) (g1 g2 g3 : Co Opd) : Co D := Co.bind g1 fun o1 => Co.bind g2 fun o2 => Co.bind (tB' (Opd2 p o1 o2)) fun c => if c = true then Co.bind g3 fun o3 => Opd2 q o2 o3 else Co.ret (.bl false)
theorem chain_rd {p q : D → D → Option D} {r r' : R2} (hp : OpD X.K X.mg p r) (hq : OpD X.K X.mg q r') {σ : L2.St} {H : Hp} {Q : VK} (h : rdE X.K X.mg (eChain p q g1 g2 g3) σ H Q) :
    tChain r r' (rdB X.K X.mg g1) (rdB X.K X.mg g2) (rdB X.K X.mg g3) σ H Q := by
  obtain ⟨W, m, S, d, m', hf, qq⟩ := h
  obtain ⟨o1, m1, e1, hf⟩ := Co.bind_ok hf
  obtain ⟨o2, m2, e2, hf⟩ := Co.bind_ok hf
  obtain ⟨k, m3, e3, hf⟩ := Co.bind_ok hf
  obtain ⟨d1, m4, e4, e5⟩ := Co.bind_ok e3
  obtain ⟨x1, x2, k1, k2, k3, rfl⟩ := Opd2.ok e4
  refine ⟨W, m, S, o1, m1, e1, fun x ob1 H1 A1 r1 => ?_⟩
  refine ⟨_, m1, A1.2, o2, m4, e2, fun y ob2 H2 A2 r2 => ?_⟩
  have A := A1.trans A2
  refine hp _ H2 x y x1 x2 d1 _ (fun a z => A.2.dom z) ((A2.repO r1).view A.2 k1) (r2.view A.2 k2) k3 fun v H' sm rv => ?_
  have A' := A.trans (.same A.2 sm)
  unfold toB at e5
  split at e5
  · cases e5
    cases rv
    refine ⟨k, rfl, ?_⟩
    cases k with
    | true =>
      obtain ⟨o3, m5, e6, hf⟩ := Co.bind_ok hf
      obtain ⟨y1, y2, j1, j2, j3, rfl⟩ := Opd2.ok hf
      refine ⟨_, m3, A'.2, o3, m', e6, fun z ob3 H3 A3 r3 => ?_⟩
      have A4 := A'.trans A3
      refine hq _ H3 y z y1 y2 d Q (fun a z => A4.2.dom z) ((A3.repO ((After.same A.2 sm).repO r2)).view A4.2 j1) (r3.view A4.2 j2) j3 fun v H'' sm rv => ?_
      exact qq v ob3 H'' (A4.trans (.same A4.2 sm)) rv
    | false =>
      cases hf
      exact qq _ ob2 H' A' (.bl _)
  · cases e5
theorem ee_chain {op op' : CmpOp} {r r' : R2} {p q : D → D → Option D} (ho : OpR X (compareOp op) r) (hp : OpD X.K X.mg p r) (ho' : OpR X (compareOp op') r') (hq : OpD X.K X.mg q r') (ha : EB X a g1) (hb : EB X b g2) (hc : EB X c g3) (hm : lastMarks [op, op'] [b, c] = false := by rfl) :
    EE X (.Compare a [op, op'] [b, c] pos) (eChain p q g1 g2 g3) := PE.imp (pe_chain ho ho' ha hb hc (hm := hm)) fun σ H Q h => chain_rd hp hq h
theorem et_chain {op op' : CmpOp} {r r' : R2} {p q : D → D → Option D} (ho : OpR X (compareOp op) r) (hp : OpD X.K X.mg p r) (ho' : OpR X (compareOp op') r') (hq : OpD X.K X.mg q r') (ha : EB X a g1) (hb : EB X b g2) (hc : EB X c g3) (hm : lastMarks [op, op'] [b, c] = false := by rfl) :
    ET X (.Compare a [op, op'] [b, c] pos) (tB' (eChain p q g1 g2 g3)) := PT.imp (pt_chain ho ho' ha hb hc (hm := hm)) fun σ H Q h => chain_rd hp hq (rdT_of h)
def vPl (i : Nat) : Co D := fun m => match m.env[i]? with
  | some (.pl d) => .ok d m
  | _ => .no
theorem ee_var (i : Nat) {x : Str} {pos : Pos} (hN : X.N[i]? = some x := by rfl) (hv : Vis X.env.scope x := by first | exact Or.inl rfl | exact Or.inr (Or.inl rfl) | exact Or.inr (Or.inr rfl)) (hd : (x == ("__debug__" : Str)) = false := by decide)
    (hcd : (x == ("__classdict__" : Str)) = false := by decide) : EE X (.Name x pos) (vPl i) := PE.imp (pe_var hN hv hd hcd) fun σ H Q ⟨W, m, S, d, m', hf, q⟩ => by
  unfold vPl at hf
  split at hf
  · rename_i e he
    cases hf
    obtain ⟨v, e1, r⟩ := S.pl i _ he
    exact ⟨v, e1, q v W.ob H (.refl S) r⟩
  · cases hf
theorem ee_c {v : V} {d : D} (h : PE X e (tC v)) (r : ∀ E H, Rep X.K X.mg E H v d) : EE X e (Co.ret d) := PE.imp h fun σ H Q q => rdE_ret q v fun _ => r _ _
theorem ee_int {i j pos} : EE X (.Constant (.int i) j pos) (Co.ret (.int i)) := ee_c pe_int fun _ _ => .int _
theorem ee_bl {i j pos} : EE X (.Constant (.bool i) j pos) (Co.ret (.bl i)) := ee_c pe_bl fun _ _ => .bl _
theorem ee_str {x j pos} : EE X (.Constant (.str x) j pos) (Co.ret (.str x)) := ee_c pe_str fun _ _ => .str _
theorem ee_gInt {x : Str} {i : Int} {t : Tok} {pos : Pos} (hm : X.mg x = some (.int i t)) (hg : Gl X x := by rfl) (hd : (x == ("__debug__" : Str)) = false := by decide) : EE X (.Name x pos) (Co.ret (.int i)) :=
  ee_c (pe_glob (v := .int i) hg hm ⟨t, rfl⟩ hd) fun _ _ => .int _
theorem ee_ty {x : Str} {n : String} {pos : Pos} (hm : X.mg x = none) (hv : bootBuiltins x = some (.type n)) (hg : Gl X x := by rfl) (hn : x ≠ "__name__" := by decide) (hd : (x == ("__debug__" : Str)) = false := by decide) : EE X (.Name x pos) (Co.ret (.ty n)) :=
  ee_c (pe_bltn (v := .ty n) hg hm hv rfl hn hd) fun _ _ => .ty _
end
end PD
namespace PD
open PySem PySem.Spec PyProof.Rows L2
variable [TabC]
def cmpI (p : Int → Int → Bool) : D → D → Option D
  | .int i, .int j => some (.bl (p i j))
  | _, _ => none
section
variable {K : PySem.W.Frag} {mg : Str → Option Value} {E : Ev} {H : Hp} {X : Cx}
theorem opd_cmpI (p : Int → Int → Bool) : OpD K mg (cmpI p) (rI0 fun i j => .bl (p i j)) := fun E H x y d1 d2 d Q hN r1 r2 g q => by
  unfold cmpI at g
  split at g
  · cases g
    exact ⟨_, _, r1.int, r2.int, q _ _ (Same.refl _) (.bl _)⟩
  · cases g
end
abbrev ltI : D → D → Option D := cmpI fun i j => decide (i < j)
abbrev leI : D → D → Option D := cmpI fun i j => decide (i ≤ j)
abbrev gtI : D → D → Option D := cmpI fun i j => decide (j < i)
abbrev geI : D → D → Option D := cmpI fun i j => decide (j ≤ i)
mutual
def D.toP : D → Option PyData
  | .non => some .none
  | .bl b => some (.bool b)
  | .int i => some (.int i)
  | .str x => some (.str x)
  | .tup xs => (D.toPs xs).map .tuple
  | .xt xs => (D.toPs xs).map .tuple
  | .lst xs => (D.toPs xs).map .list
  | _ => none
def D.toPs : List D → Option (List PyData)
  | [] => some []
  | d :: ds => (D.toP d).bind fun p => (D.toPs ds).map fun ps => p :: ps
end
section
variable {K : PySem.W.Frag} {mg : Str → Option Value} {E : Ev} {H : Hp} {X : Cx}
mutual
theorem Rep.dp : ∀ {v : V} {d : D} {p : PyData}, Rep K mg E H v d → d.toP = some p → Dp K H v p
  | _, _, p, .non, h => by simp only [D.toP] at h; cases h; exact .non
  | _, _, p, .bl b, h => by simp only [D.toP] at h; cases h; exact .bl _
  | _, _, p, .int b, h => by simp only [D.toP] at h; cases h; exact .int _
  | _, _, p, .str b, h => by simp only [D.toP] at h; cases h; exact .str _
  | _, _, p, .tup e r, h => by
    simp only [D.toP] at h
    obtain ⟨ps, h1, h2⟩ := Option.map_eq_some_iff.mp h
    cases h2
    exact .tup (SqT.of e) (RepL.dp r h1)
  | _, _, p, .xt e _ r, h => by
    simp only [D.toP] at h
    obtain ⟨ps, h1, h2⟩ := Option.map_eq_some_iff.mp h
    cases h2
    exact .tup (.inl (.inr ⟨_, e⟩)) (RepL.dp r h1)
  | _, _, p, .lst e n r, h => by
    simp only [D.toP] at h
    obtain ⟨ps, h1, h2⟩ := Option.map_eq_some_iff.mp h
    cases h2
    exact .lst (SqL.of e) (RepL.dp r h1)
  | _, _, p, .ty n, h => by simp only [D.toP] at h; cases h
  | _, _, p, .dk _ _ _ _, h => by simp only [D.toP] at h; cases h
  | _, _, p, .dt _ _ _ _, h => by simp only [D.toP] at h; cases h
  | _, _, p, .scr _ _ _, h => by simp only [D.toP] at h; cases h
  | _, _, p, .scrK _ _, h => by simp only [D.toP] at h; cases h
  | _, _, p, .obj _ _, h => by simp only [D.toP] at h; cases h
  | _, _, p, .fn _ _, h => by simp only [D.toP] at h; cases h
  | _, _, p, .lam _ _ _ _ _, h => by simp only [D.toP] at h; cases h
theorem RepL.dp : ∀ {v : List V} {d : List D} {p : List PyData}, RepL K mg E H v d → D.toPs d = some p → DpAll K H v p
  | _, _, p, .nil, h => by simp only [D.toPs] at h; cases h; exact .nil
  | _, _, p, .cons r t, h => by
    simp only [D.toPs] at h
    obtain ⟨q, h1, h2⟩ := Option.bind_eq_some_iff.mp h
    obtain ⟨qs, h3, h4⟩ := Option.map_eq_some_iff.mp h2
    cases h4
    exact .cons (Rep.dp r h1) (RepL.dp t h3)
end
theorem RepV.dp {v : V} {d : D} {p : PyData} (r : RepV K mg E H v d) (h : d.toP = some p) : Dp K H v p := by
  cases r with
  | of r => exact r.dp h
  | cell c =>
    cases d <;> first
      | exact c.elim
      | (simp only [D.toP] at h; cases h; done)
      | (obtain ⟨vs, e, r⟩ := c
         simp only [D.toP] at h
         obtain ⟨ps, h1, h2⟩ := Option.map_eq_some_iff.mp h
         cases h2
         exact .lst (SqL.of e) (r.dp h1))
def eqB (a b : D) : Option Bool := (a.toP).bind fun p => (b.toP).bind fun q => if SeqAt.shaped p = true ∧ SeqAt.shaped q = true then some (PyData.eqv p q) else none
def eqD (a b : D) : Option D := (eqB a b).map .bl
def neD (a b : D) : Option D := (eqB a b).map fun c => .bl !c
theorem eqB_some {a b : D} {c : Bool} (h : eqB a b = some c) : ∃ p q, a.toP = some p ∧ b.toP = some q ∧ SeqAt.shaped p = true ∧ SeqAt.shaped q = true ∧ c = PyData.eqv p q := by
  unfold eqB at h
  obtain ⟨p, h1, h⟩ := Option.bind_eq_some_iff.mp h
  obtain ⟨q, h2, h⟩ := Option.bind_eq_some_iff.mp h
  split at h
  · rename_i hs
    cases h
    exact ⟨p, q, h1, h2, hs.1, hs.2, rfl⟩
  · cases h
theorem opd_eq : OpD K mg eqD (rEqD K) := fun E H x y d1 d2 d Q hN r1 r2 g q => by
  obtain ⟨c, h, e⟩ := Option.map_eq_some_iff.mp g
  obtain ⟨p, p2, h1, h2, s1, s2, rfl⟩ := eqB_some h
  subst e
  exact ⟨p, p2, r1.dp h1, r2.dp h2, s1, s2, q _ _ (Same.refl _) (.bl _)⟩
theorem opd_ne : OpD K mg neD (rNeD K) := fun E H x y d1 d2 d Q hN r1 r2 g q => by
  obtain ⟨c, h, e⟩ := Option.map_eq_some_iff.mp g
  obtain ⟨p, p2, h1, h2, s1, s2, rfl⟩ := eqB_some h
  subst e
  exact ⟨p, p2, r1.dp h1, r2.dp h2, s1, s2, q _ _ (Same.refl _) (.bl _)⟩
def isD : D → D → Option D
  | .bl a, .bl b => some (.bl (decide (a = b)))
  | .non, .non => some (.bl true)
  | _, .non => some (.bl false)
  | _, _ => none
def isnotD (a b : D) : Option D := (isD a b).bind fun
  | .bl c => some (.bl !c)
  | _ => none
def rIsnot : R2 := fun x y H Q => (y = .non ∧ Q (.bl (!decide (x = .non))) H) ∨ ∃ a b, x = .bl a ∧ y = .bl b ∧ Q (.bl (!decide (a = b))) H
theorem op_isnotAll : OpR X (compareOp .IsNot) rIsnot := OpR.or op_notN op_isnot_bl
theorem RepV.non_iff {v : V} {d : D} (r : RepV K mg E H v d) : v = .non ↔ d = .non := by
  cases r with
  | of r => cases r <;> simp
  | cell c =>
    constructor
    · intro h; cases h
    · intro h; subst h; exact c.elim
theorem isD_some {a b d : D} (h : isD a b = some d) : (∃ x y, a = .bl x ∧ b = .bl y ∧ d = .bl (decide (x = y))) ∨ (b = .non ∧ ((a = .non ∧ d = .bl true) ∨ (a ≠ .non ∧ d = .bl false))) := by
  unfold isD at h
  split at h
  · cases h; exact .inl ⟨_, _, rfl, rfl, rfl⟩
  · cases h; exact .inr ⟨rfl, .inl ⟨rfl, rfl⟩⟩
  · cases h
    rename_i hn
    exact .inr ⟨rfl, .inr ⟨hn, rfl⟩⟩
  · cases h
theorem opd_isnot : OpD K mg isnotD rIsnot := fun E H x y d1 d2 d Q hN r1 r2 g q => by
  obtain ⟨e, h, g⟩ := Option.bind_eq_some_iff.mp g
  rcases isD_some h with ⟨a, b, rfl, rfl, rfl⟩ | ⟨rfl, ⟨rfl, rfl⟩ | ⟨hn, rfl⟩⟩
  · cases g
    exact .inr ⟨a, b, r1.bl, r2.bl, q _ _ (Same.refl _) (.bl _)⟩
  · cases g
    refine .inl ⟨r2.non, ?_⟩
    rw [decide_eq_true r1.non]
    exact q _ _ (Same.refl _) (.bl _)
  · cases g
    refine .inl ⟨r2.non, ?_⟩
    rw [decide_eq_false fun z => hn (r1.non_iff.mp z)]
    exact q _ _ (Same.refl _) (.bl _)
def ixD : D → D → Option D
  | .lst xs, .int i => atI xs i
  | .tup xs, .int i => atI xs i
  | .xt xs, .int i => atI xs i
  | .scr ns, .int i => (atI ns i).map .int
  | .str z, .int i => if z.length ≤ sizeLine then (atI z.cps.toList i).map fun c => .str ⟨#[c]⟩ else none
  | _, _ => none
theorem RepL.atI {vs : List V} {ds : List D} {i : Int} {d : D} (r : RepL K mg E H vs ds) (h : atI ds i = some d) : ∃ v, L2.atI vs i = some v ∧ Rep K mg E H v d := by
  unfold L2.atI at h ⊢
  obtain ⟨j, h1, h2⟩ := Option.bind_eq_some_iff.mp h
  obtain ⟨v, h3, h4⟩ := r.get' h2
  rw [r.length]
  exact ⟨v, Option.bind_eq_some_iff.mpr ⟨j, h1, h3⟩, h4⟩
theorem atI_map {α β : Type} (f : α → β) (xs : List α) (i : Int) : atI (xs.map f) i = (atI xs i).map f := by
  unfold L2.atI
  rw [List.length_map]
  cases ixN xs.length i with
  | none => rfl
  | some j => simp
theorem opd_ix : OpD K mg ixD (rIx K) := fun E H x y d1 d2 d Q hN r1 r2 g q => by
  unfold ixD at g
  split at g
  · obtain ⟨a, vs, rfl, ha, ra⟩ := r1.lst
    obtain ⟨v, hv, rv⟩ := ra.atI g
    exact .inl ⟨a, vs, _, v, rfl, r2.int, SqL.of ha, hv, q _ _ (Same.refl _) rv⟩
  · obtain ⟨a, vs, rfl, ha, ra⟩ := r1.tup
    obtain ⟨v, hv, rv⟩ := ra.atI g
    exact .inr (.inl ⟨a, vs, _, v, rfl, r2.int, SqT.of ha, hv, q _ _ (Same.refl _) rv⟩)
  · obtain ⟨a, o, vs, rfl, ha, _, ra⟩ := r1.xt
    obtain ⟨v, hv, rv⟩ := ra.atI g
    exact .inr (.inl ⟨a, vs, _, v, rfl, r2.int, .inl (.inr ⟨o, ha⟩), hv, q _ _ (Same.refl _) rv⟩)
  · obtain ⟨a, rfl, ha⟩ := r1.scr
    obtain ⟨n, h1, h2⟩ := Option.map_eq_some_iff.mp g
    subst h2
    exact .inl ⟨a, _, _, .int n, rfl, r2.int, ha, by rw [atI_map, h1]; rfl, q _ _ (Same.refl _) (.int _)⟩
  · split at g
    · rename_i hz
      obtain ⟨n, h1, h2⟩ := Option.map_eq_some_iff.mp g
      subst h2
      exact .inr (.inr ⟨_, _, n, r1.str, r2.int, hz, h1, q _ _ (Same.refl _) (.str _)⟩)
    · cases g
  · cases g
def D.flat : D → Bool
  | .non => true | .bl _ => true | .int _ => true | .str _ => true
  | _ => false
def D.eqF : D → D → Bool
  | .non, .non => true
  | .bl a, .bl b => a == b
  | .bl a, .int b => (if a then 1 else 0) == b
  | .int a, .bl b => a == (if b then 1 else 0)
  | .int a, .int b => a == b
  | .str a, .str b => a == b
  | _, _ => false
def inFlat (x : D) (xs : List D) : Option Bool := if x.flat && xs.all D.flat then some (xs.any fun y => D.eqF y x) else none
def inB : D → D → Option Bool
  | x, .lst xs => if x.flat then inFlat x xs else (x.toP).bind fun p => (D.toPs xs).bind fun ps => if SeqAt.shaped p = true ∧ SeqAt.shaped (.list ps) = true then some (ps.any fun z => PyData.eqv z p) else none
  | x, .tup xs => inFlat x xs
  | x, .xt xs => inFlat x xs
  | .str x, .str y => some (!(Builtin.Str.occurrences y x 0 y.length 1).isEmpty)
  | _, _ => none
def inD (a b : D) : Option D := (inB a b).map .bl
def notInD (a b : D) : Option D := (inB a b).map fun c => .bl !c
theorem Rep.flat {v : V} {d : D} (r : Rep K mg E H v d) (h : d.flat = true) : flatV v = true := by
  cases r <;> first | rfl | cases h
theorem Rep.eqF {v w : V} {d e : D} (r : Rep K mg E H v d) (s : Rep K mg E H w e) (h : d.flat = true) (k : e.flat = true) : eqV v w = D.eqF d e := by
  cases r <;> first | (cases h; done) | (cases s <;> first | (cases k; done) | rfl)
theorem RepL.flat : ∀ {v : List V} {d : List D}, RepL K mg E H v d → d.all D.flat = true → v.all flatV = true
  | _, _, .nil, _ => rfl
  | _, _, .cons r t, h => by
    rw [List.all_cons, Bool.and_eq_true] at h ⊢
    exact ⟨r.flat h.1, RepL.flat t h.2⟩
theorem RepL.inV {v : V} {d : D} (r : Rep K mg E H v d) (k : d.flat = true) : ∀ {vs : List V} {ds : List D}, RepL K mg E H vs ds → ds.all D.flat = true → L2.inV v vs = ds.any fun y => D.eqF y d
  | _, _, .nil, _ => rfl
  | _, _, .cons s t, h => by
    rw [List.all_cons, Bool.and_eq_true] at h
    have ih := RepL.inV r k t h.2
    unfold L2.inV at ih ⊢
    rw [List.any_cons, List.any_cons, ih, s.eqF r h.1 k]
theorem inFlat_some {x : D} {xs : List D} {c : Bool} (h : inFlat x xs = some c) : x.flat = true ∧ xs.all D.flat = true ∧ c = xs.any fun y => D.eqF y x := by
  unfold inFlat at h
  split at h
  · rename_i hh
    rw [Bool.and_eq_true] at hh
    cases h
    exact ⟨hh.1, hh.2, rfl⟩
  · cases h
theorem RepV.rep_flat {v : V} {d : D} (r : RepV K mg E H v d) (h : d.flat = true) : Rep K mg E H v d := by
  cases r with
  | of r => exact r
  | cell c => cases d <;> first | exact c.elim | cases h
def rInAll (K : PySem.W.Frag) (neg : Bool) (r : R2) (s : R2) : R2 := fun x y H Q => rIn K neg x y H Q ∨ r x y H Q ∨ s x y H Q
def rInS' (neg : Bool) : R2 := fun x y H Q => ∃ i j, x = .str i ∧ y = .str j ∧ Q (.bl (if neg then !(!(Builtin.Str.occurrences j i 0 j.length 1).isEmpty) else !(Builtin.Str.occurrences j i 0 j.length 1).isEmpty)) H
theorem op_inAll (hu : X.A.units + 65 < cLine) : OpR X (compareOp .In) (rInAll X.K false (rInD X.K) (rInS' false)) := OpR.or op_in_seq (OpR.or (op_inD hu) op_in_str)
theorem op_notInAll (hu : X.A.units + 65 < cLine) : OpR X (compareOp .NotIn) (rInAll X.K true (rNotInD X.K) (rInS' true)) := OpR.or op_notIn_seq (OpR.or (op_notInD hu) op_notIn_str)
theorem in_core {x y : V} {d1 d2 : D} {c : Bool} (r1 : RepV K mg E H x d1) (r2 : RepV K mg E H y d2) (g : inB d1 d2 = some c) :
    (∃ p xs, y = .ref p ∧ (SqL K H p xs ∨ SqT K H p xs) ∧ flatV x = true ∧ xs.all flatV = true ∧ c = L2.inV x xs) ∨
    (∃ d ds, Dp K H x d ∧ Dp K H y (.list ds) ∧ SeqAt.shaped d = true ∧ SeqAt.shaped (.list ds) = true ∧ c = ds.any fun z => PyData.eqv z d) ∨
    ∃ i j, x = .str i ∧ y = .str j ∧ c = !(Builtin.Str.occurrences j i 0 j.length 1).isEmpty := by
  unfold inB at g
  split at g
  · rename_i xs
    obtain ⟨a, vs, rfl, ha, ra⟩ := r2.lst
    split at g
    · obtain ⟨h1, h2, rfl⟩ := inFlat_some g
      have rr := r1.rep_flat h1
      exact .inl ⟨a, vs, rfl, .inl (SqL.of ha), rr.flat h1, ra.flat h2, (RepL.inV rr h1 ra h2).symm⟩
    · obtain ⟨p, h1, g⟩ := Option.bind_eq_some_iff.mp g
      obtain ⟨ps, h2, g⟩ := Option.bind_eq_some_iff.mp g
      split at g
      · rename_i hs
        cases g
        exact .inr (.inl ⟨p, ps, r1.dp h1, .lst (SqL.of ha) (ra.dp h2), hs.1, hs.2, rfl⟩)
      · cases g
  · obtain ⟨a, vs, rfl, ha, ra⟩ := r2.tup
    obtain ⟨h1, h2, rfl⟩ := inFlat_some g
    have rr := r1.rep_flat h1
    exact .inl ⟨a, vs, rfl, .inr (SqT.of ha), rr.flat h1, ra.flat h2, (RepL.inV rr h1 ra h2).symm⟩
  · obtain ⟨a, o, vs, rfl, ha, _, ra⟩ := r2.xt
    obtain ⟨h1, h2, rfl⟩ := inFlat_some g
    have rr := r1.rep_flat h1
    exact .inl ⟨a, vs, rfl, .inr (.inl (.inr ⟨o, ha⟩)), rr.flat h1, ra.flat h2, (RepL.inV rr h1 ra h2).symm⟩
  · cases g
    exact .inr (.inr ⟨_, _, r1.str, r2.str, rfl⟩)
  · cases g
theorem opd_in : OpD K mg inD (rInAll K false (rInD K) (rInS' false)) := fun E H x y d1 d2 d Q hN r1 r2 g q => by
  obtain ⟨c, h, e⟩ := Option.map_eq_some_iff.mp g
  subst e
  have q := q _ _ (Same.refl _) (.bl c)
  rcases in_core r1 r2 h with ⟨p, xs, e1, e2, e3, e4, rfl⟩ | ⟨p, ps, e1, e2, e3, e4, rfl⟩ | ⟨i, j, e1, e2, rfl⟩
  · exact .inl ⟨p, xs, e1, e2, e3, e4, q⟩
  · exact .inr (.inl ⟨p, ps, e1, e2, e3, e4, q⟩)
  · exact .inr (.inr ⟨i, j, e1, e2, q⟩)
theorem opd_notIn : OpD K mg notInD (rInAll K true (rNotInD K) (rInS' true)) := fun E H x y d1 d2 d Q hN r1 r2 g q => by
  obtain ⟨c, h, e⟩ := Option.map_eq_some_iff.mp g
  subst e
  have q := q _ _ (Same.refl _) (.bl !c)
  rcases in_core r1 r2 h with ⟨p, xs, e1, e2, e3, e4, rfl⟩ | ⟨p, ps, e1, e2, e3, e4, rfl⟩ | ⟨i, j, e1, e2, rfl⟩
  · exact .inl ⟨p, xs, e1, e2, e3, e4, q⟩
  · exact .inr (.inl ⟨p, ps, e1, e2, e3, e4, q⟩)
  · exact .inr (.inr ⟨i, j, e1, e2, q⟩)
end
end PD
namespace PD
open PySem PySem.Spec PyProof.Rows L2
variable [TabC]
section
variable {K : PySem.W.Frag} {mg : Str → Option Value} {W : Wd} {σ : L2.St} {H H' H1 : Hp} {m m1 : M} {ob1 : Nat → Addr}
theorem Wd.add_le (W : Wd) (p : Addr) (no : Nat) : ((W.add p).ev no).Le (W.ev no) := ⟨Nat.le_refl _, fun _ _ => rfl, fun a h => h.elim (fun h => .inl (.inl h)) .inr⟩
theorem Cell.up {E : Ev} {a : Addr} {d : D} (x : Same H H') (c : Cell K mg E H a d) : Cell K mg E H' a d := by
  cases d <;> first
    | exact c.elim
    | (obtain ⟨vs, h, r⟩ := c; exact ⟨vs, x _ _ h, r.up x⟩)
    | (obtain ⟨vs, h, l, r⟩ := c; exact ⟨vs, x _ _ h, l, r.up x⟩)
theorem Sit.add {p : Addr} (S : Sit K mg W σ H m) (hp : H p = none) (x : Same H H') (ho : ∃ o, H' p = some o) : Sit K mg (W.add p) σ H' m := by
  have S' := S.same x
  have nw : ∀ a, ((W.add p).ev m.obs.length).N a → (W.ev m.obs.length).N a ∨ H a = none := fun a h => by
    rcases h with (h | rfl) | h
    · exact .inl (.inl h)
    · exact .inr hp
    · exact .inl (.inr h)
  refine ⟨S.len, ?_, fun i d h => ?_, fun i d h => ?_, S.owi, S.inj, fun n ds h => ?_, S.obi, S.obo, fun a h => ?_, fun i a h z => ?_, S'.tab⟩
  · have e := S'.ext
    refine ⟨e.no, e.ob, fun a h => ?_, e.m2, e.dm, e.keep0, e.tup, e.frz, e.tbl⟩
    rcases nw a h with h | h
    · exact e.n2 a h
    · exact .inr (S.ext.nn h)
  · obtain ⟨v, e, r⟩ := S.pl i d h
    exact ⟨v, e, (r.new nw).up x⟩
  · obtain ⟨a, e, e2, c⟩ := S.ow i d h
    exact ⟨a, e, e2, (c.new nw).up x⟩
  · exact ((S.ob n ds h).new nw).up x
  · rcases h with h | rfl
    · exact S'.n0 a h
    · exact ho
  · rcases z with z | rfl
    · exact S.o0 i a h z
    · exact S.fresh hp (.inr (.inl ⟨i, h⟩))
theorem Sit.forget {p : Addr} (S : Sit K mg (W.add p) σ H m) : Sit K mg W σ H m :=
  ⟨S.len, ⟨S.ext.no, S.ext.ob, fun a h => S.ext.n2 a (h.elim (fun h => .inl (.inl h)) .inr), S.ext.m2, S.ext.dm, S.ext.keep0, S.ext.tup, S.ext.frz, S.ext.tbl⟩, fun i d h => let ⟨v, e, r⟩ := S.pl i d h; ⟨v, e, r.le (W.add_le _ _)⟩,
    fun i d h => let ⟨a, e, e2, c⟩ := S.ow i d h; ⟨a, e, e2, c.le (W.add_le _ _)⟩, S.owi, S.inj, fun n ds h => (S.ob n ds h).le (W.add_le _ _), S.obi, S.obo, fun a h => S.n0 a (.inl h), fun i a h z => S.o0 i a h (.inl z), S.tab⟩
theorem Ev.add_new {p : Addr} {no : Nat} (hp : H p = none) : ∀ a, ((W.add p).ev no).N a → (W.ev no).N a ∨ H a = none := fun a h => by
  rcases h with (h | rfl) | h
  · exact .inl (.inl h)
  · exact .inr hp
  · exact .inl (.inr h)
theorem fin_lst {Q : VK} {ds : List D} {vs : List V} {p : Addr} (A : After K mg W σ H m ob1 H1 m1) (hp : H1 p = none) (r : RepL K mg ({ W with ob := ob1 }.ev m1.obs.length) H1 vs ds)
    (q : ∀ a ob' H', H a = none → Ext (W.ev m.obs.length) H ({ W with ob := ob' }.ev m1.obs.length) H' → ¬ ({ W with ob := ob' }.ev m1.obs.length).N a → Sit K mg ({ W with ob := ob' }.add a) σ H' m1 →
      Cell K mg (({ W with ob := ob' }.add a).ev m1.obs.length) H' a (.lst ds) → Q (.ref a) H') : Q (.ref p) (upd H1 p (.lst vs)) := by
  have sm := same_new hp (.lst vs)
  exact q p ob1 _ (A.1.nn hp) (A.1.trans (.same sm)) (A.2.fresh hp) (A.2.add hp sm ⟨_, upd_same⟩) ⟨vs, upd_same, (r.new (Ev.add_new hp)).up sm⟩
theorem fin_dk {Q : VK} {kds : List (Key × D)} {kvs : List (Key × V)} {p : Addr} (A : After K mg W σ H m ob1 H1 m1) (hp : H1 p = none) (l : kvs.map (·.1) = kds.map (·.1)) (r : RepL K mg ({ W with ob := ob1 }.ev m1.obs.length) H1 (kvs.map (·.2)) (kds.map (·.2)))
    (q : ∀ a ob' H', H a = none → Ext (W.ev m.obs.length) H ({ W with ob := ob' }.ev m1.obs.length) H' → ¬ ({ W with ob := ob' }.ev m1.obs.length).N a → Sit K mg ({ W with ob := ob' }.add a) σ H' m1 →
      Cell K mg (({ W with ob := ob' }.add a).ev m1.obs.length) H' a (.dk kds) → Q (.ref a) H') : Q (.ref p) (upd H1 p (.dK kvs)) := by
  have sm := same_new hp (.dK kvs)
  exact q p ob1 _ (A.1.nn hp) (A.1.trans (.same sm)) (A.2.fresh hp) (A.2.add hp sm ⟨_, upd_same⟩) ⟨kvs, upd_same, l, (r.new (Ev.add_new hp)).up sm⟩
theorem fin_dt {Q : VK} {kds : List (List Key × D)} {kvs : List (List Key × V)} {p : Addr} (A : After K mg W σ H m ob1 H1 m1) (hp : H1 p = none) (l : kvs.map (·.1) = kds.map (·.1)) (r : RepL K mg ({ W with ob := ob1 }.ev m1.obs.length) H1 (kvs.map (·.2)) (kds.map (·.2)))
    (q : ∀ a ob' H', H a = none → Ext (W.ev m.obs.length) H ({ W with ob := ob' }.ev m1.obs.length) H' → ¬ ({ W with ob := ob' }.ev m1.obs.length).N a → Sit K mg ({ W with ob := ob' }.add a) σ H' m1 →
      Cell K mg (({ W with ob := ob' }.add a).ev m1.obs.length) H' a (.dt kds) → Q (.ref a) H') : Q (.ref p) (upd H1 p (.dT kvs)) := by
  have sm := same_new hp (.dT kvs)
  exact q p ob1 _ (A.1.nn hp) (A.1.trans (.same sm)) (A.2.fresh hp) (A.2.add hp sm ⟨_, upd_same⟩) ⟨kvs, upd_same, l, (r.new (Ev.add_new hp)).up sm⟩
end
section
variable {X : Cx} {a b c e : Expr} {es : List Expr} {pos : Pos} {f f1 f2 f3 : Co D} {g1 g2 g3 : Co Opd} {fs : Co (List D)} {gs : Co (List Opd)}
theorem EE.ofF (h : EF X e f) : EE X e f := PE.imp h fun σ H Q ⟨W, m, S, d, m', hf, q⟩ => ⟨W, m, S, d, m', hf, fun a ob' H' _ x n S' c =>
  q _ ob' H' ⟨x, S'.forget⟩ (Cell.rep n (c.le (Wd.add_le _ _ _)))⟩
def eCons (f : Co D) (fs : Co (List D)) : Co (List D) := Co.bind f fun d => Co.bind fs fun ds => Co.ret (d :: ds)
def bCons (f : Co Opd) (fs : Co (List Opd)) : Co (List Opd) := Co.bind f fun d => Co.bind fs fun ds => Co.ret (d :: ds)
theorem ea_nil : EA X [] (Co.ret []) := PA.imp pa_nil fun σ H Q ⟨W, m, S, d, m', hf, q⟩ => by
  cases hf
  exact q _ W.ob H (.refl S) .nil
theorem ea_cons (ha : EE X e f) (hr : EA X es fs) (hs : starEach (e :: es) X.env = (false, eval e X.env) :: starEach es X.env := by rfl) : EA X (e :: es) (eCons f fs) :=
  PA.imp (pa_cons ha hr hs) fun σ H Q ⟨W, m, S, d, m', hf, q⟩ => by
    obtain ⟨d1, m1, e1, hf⟩ := Co.bind_ok hf
    obtain ⟨ds, m2, e2, hf⟩ := Co.bind_ok hf
    cases hf
    exact ⟨W, m, S, d1, m1, e1, fun v ob1 H1 A1 r1 => ⟨_, m1, A1.2, ds, _, e2, fun vs ob2 H2 A2 r2 => q _ ob2 H2 (A1.trans A2) (.cons (A2.rep r1) r2)⟩⟩
theorem ebs_nil : EBs X [] (Co.ret []) := PA.imp pa_nil fun σ H Q ⟨W, m, S, d, m', hf, q⟩ => by
  cases hf
  exact q _ W.ob H (.refl S) .nil
theorem ebs_cons (ha : EB X e g1) (hr : EBs X es gs) (hs : starEach (e :: es) X.env = (false, eval e X.env) :: starEach es X.env := by rfl) : EBs X (e :: es) (bCons g1 gs) :=
  PA.imp (pa_cons ha hr hs) fun σ H Q ⟨W, m, S, d, m', hf, q⟩ => by
    obtain ⟨d1, m1, e1, hf⟩ := Co.bind_ok hf
    obtain ⟨ds, m2, e2, hf⟩ := Co.bind_ok hf
    cases hf
    exact ⟨W, m, S, d1, m1, e1, fun v ob1 H1 A1 r1 => ⟨_, m1, A1.2, ds, _, e2, fun vs ob2 H2 A2 r2 => q _ ob2 H2 (A1.trans A2) (.cons (A2.repO r1) r2)⟩⟩
def eTup (fs : Co (List D)) : Co D := Co.bind fs fun ds m => if ds.length ≤ sizeLine then .ok (.tup ds) m else .no
def eLst (fs : Co (List D)) : Co D := Co.bind fs fun ds m => if ds.length ≤ sizeLine then .ok (.lst ds) m else .no
theorem ee_tup {x1} (h : EA X es fs) : EE X (.Tuple es x1 pos) (eTup fs) := PE.imp (pe_tup h) fun σ H Q ⟨W, m, S, d, m', hf, q⟩ => by
  obtain ⟨ds, m1, e1, hf⟩ := Co.bind_ok hf
  split at hf
  · rename_i hz
    cases hf
    refine ⟨W, m, S, ds, _, e1, fun vs ob' H' A r => ⟨by rw [r.length]; exact hz, fun p hp => ?_⟩⟩
    exact q _ ob' _ (A.trans (.same A.2 (same_new hp _))) (.newT hp r)
  · cases hf
theorem ef_lst (h : EA X es fs) : EF X (.List es pos) (eLst fs) := PE.imp (pe_lst h) fun σ H Q ⟨W, m, S, d, m', hf, q⟩ => by
  obtain ⟨ds, m1, e1, hf⟩ := Co.bind_ok hf
  split at hf
  · rename_i hz
    cases hf
    refine ⟨W, m, S, ds, _, e1, fun vs ob' H' A r => ⟨by rw [r.length]; exact hz, fun p hp => ?_⟩⟩
    exact fin_lst A hp r q
  · cases hf
def negD : D → Option D
  | .int i => some (.int (-i))
  | _ => none
def un1 (g : D → Option D) (f : Co D) : Co D := Co.bind f fun d m => match g d with
  | some r => .ok r m
  | none => .no
theorem ee_neg (ha : EE X a f) : EE X (.UnaryOp .USub a pos) (un1 negD f) := PE.imp (pe_un un_neg ha) fun σ H Q ⟨W, m, S, d, m', hf, q⟩ => by
  obtain ⟨d1, m1, e1, hf⟩ := Co.bind_ok hf
  cases d1 <;> first
    | (cases hf; done)
    | skip
  cases hf
  refine ⟨W, m, S, _, _, e1, fun v ob' H' A r => ?_⟩
  cases r
  exact ⟨_, rfl, q _ ob' H' A (.int _)⟩
def asL (f : Co D) : Co D := Co.bind f fun d m => match d with
  | .lst ds => .ok (.lst ds) m
  | _ => .no
theorem asL_ok {m m' : M} {d : D} (h : asL f m = .ok d m') : ∃ ds, d = .lst ds ∧ f m = .ok (.lst ds) m' := by
  obtain ⟨d1, m1, e1, h⟩ := Co.bind_ok h
  cases d1 <;> first
    | (cases h; done)
    | skip
  cases h
  exact ⟨_, rfl, e1⟩
def slD : D → Option Int → Option Int → Option D
  | .lst xs, lo, hi => some (.lst ((xs.drop (HT.sIx xs.length 0 lo)).take (HT.sIx xs.length xs.length hi - HT.sIx xs.length 0 lo)))
  | .tup xs, lo, hi => some (.tup ((xs.drop (HT.sIx xs.length 0 lo)).take (HT.sIx xs.length xs.length hi - HT.sIx xs.length 0 lo)))
  | .str z, lo, hi => if z.length ≤ sizeLine then some (.str (cutS z lo hi)) else none
  | .xt xs, lo, hi => if HT.sIx xs.length 0 lo = 0 ∧ HT.sIx xs.length xs.length hi = xs.length then some (.xt xs) else some (.tup ((xs.drop (HT.sIx xs.length 0 lo)).take (HT.sIx xs.length xs.length hi - HT.sIx xs.length 0 lo)))
  | _, _, _ => none
def ePart (f : Co D) : Co (Option Int) := Co.bind f fun d m => match d with
  | .int i => .ok (some i) m
  | _ => .no
def rdO (K : PySem.W.Frag) (mg : Str → Option Value) (f : Co (Option Int)) : TO := fun σ H Q => ∃ W m, Sit K mg W σ H m ∧ ∃ d m', f m = .ok d m' ∧ ∀ ob' H', After K mg W σ H m ob' H' m' → Q d H'
abbrev EO (X : Cx) (e : Option Expr) (f : Co (Option Int)) : Prop := PO X e (rdO X.K X.mg f)
theorem PO.imp {e : Option Expr} {t t' : TO} (h : PO X e t) (i : ∀ σ H Q, t' σ H Q → t σ H Q) : PO X e t' := ⟨fun pins s σ H Q I q => h.run pins s σ H Q I (i σ H Q q)⟩
theorem eo_none : EO X none (Co.ret none) := PO.imp po_none fun σ H Q ⟨W, m, S, d, m', hf, q⟩ => by
  cases hf
  exact q W.ob H (.refl S)
theorem eo_some (h : EE X e f) : EO X (some e) (ePart f) := PO.imp (po_some h) fun σ H Q ⟨W, m, S, d, m', hf, q⟩ => by
  obtain ⟨d1, m1, e1, hf⟩ := Co.bind_ok hf
  cases d1 <;> first
    | (cases hf; done)
    | skip
  cases hf
  refine ⟨W, m, S, _, _, e1, fun v ob' H' A r => ?_⟩
  cases r
  exact ⟨_, rfl, q ob' H' A⟩
def eSl (g : Co Opd) (lo hi : Co (Option Int)) : Co D := Co.bind g fun o => Co.bind lo fun l => Co.bind hi fun h => Opd1 (fun d => slD d l h) o
def rSlAll (K : PySem.W.Frag) : V → Option Int → Option Int → Hp → VK → Prop := fun x lo hi H Q => rSlL K x lo hi H Q ∨ rSlA K x lo hi H Q ∨ rSlS x lo hi H Q
theorem sl_all : SlR X (rSlAll X.K) := SlR.or sl_list (SlR.or sl_tupA sl_str)
theorem RepL.cut {K : PySem.W.Frag} {mg : Str → Option Value} {E : Ev} {H : Hp} {vs : List V} {ds : List D} (r : RepL K mg E H vs ds) (lo hi : Option Int) :
    RepL K mg E H (cutV vs lo hi) ((ds.drop (HT.sIx ds.length 0 lo)).take (HT.sIx ds.length ds.length hi - HT.sIx ds.length 0 lo)) := by
  unfold cutV
  rw [r.length]
  exact (r.drop _).take _
theorem cut_whole {α : Type} (xs : List α) {i j : Nat} (h : i = 0 ∧ j = xs.length) : (xs.drop i).take (j - i) = xs := by
  obtain ⟨rfl, rfl⟩ := h
  simp
variable {lo hi : Option Expr} {fl fh : Co (Option Int)} {p2 : Pos}
theorem ee_sl (he : EB X e g1) (hl : EO X lo fl) (hh : EO X hi fh) : EE X (.Subscript e (.Slice lo hi none p2) pos) (eSl g1 fl fh) :=
  PE.imp (pe_slice sl_all he hl hh) fun σ H Q ⟨W, m, S, d, m', hf, q⟩ => by
    obtain ⟨o1, m1, e1, hf⟩ := Co.bind_ok hf
    obtain ⟨l, m2, e2, hf⟩ := Co.bind_ok hf
    obtain ⟨u, m3, e3, hf⟩ := Co.bind_ok hf
    obtain ⟨d1, k1, k3, rfl⟩ := Opd1.ok hf
    refine ⟨W, m, S, o1, m1, e1, fun x ob1 H1 A1 r1 => ⟨_, m1, A1.2, l, m2, e2, fun ob2 H2 A2 => ⟨_, m2, A2.2, u, m', e3, fun ob3 H3 A3 => ?_⟩⟩⟩
    have A := (A1.trans A2).trans A3
    have rv := (A3.repO (A2.repO r1)).view A.2 k1
    unfold slD at k3
    split at k3
    · cases k3
      obtain ⟨a, vs, rfl, ha, ra⟩ := rv.lst
      exact .inl ⟨a, vs, rfl, SqL.of ha, fun p hp => q _ ob3 _ (A.trans (.same A.2 (same_new hp _))) (.newL (fun a z => A.2.dom z) hp (ra.cut _ _))⟩
    · cases k3
      obtain ⟨a, vs, rfl, ha, ra⟩ := rv.tup
      refine .inr (.inl ⟨a, vs, rfl, SqT.of ha, fun w => ?_, fun _ p hp => q _ ob3 _ (A.trans (.same A.2 (same_new hp _))) (.newT hp (ra.cut _ _))⟩)
      rw [ra.length] at w
      rw [cut_whole _ w] at q
      exact q _ ob3 H3 A (.tup ha ra)
    · rename_i z
      by_cases hz : z.length ≤ sizeLine
      · rw [if_pos hz] at k3
        cases k3
        exact .inr (.inr ⟨_, rv.str, hz, q _ ob3 H3 A (.str _)⟩)
      · rw [if_neg hz] at k3
        cases k3
    · obtain ⟨a, o, vs, rfl, ha, ka, ra⟩ := rv.xt
      split at k3
      · rename_i w
        cases k3
        refine .inr (.inl ⟨a, vs, rfl, .inl (.inr ⟨o, ha⟩), fun _ => q _ ob3 H3 A (.xt ha ka ra), fun z => ?_⟩)
        rw [ra.length] at z
        exact absurd w z
      · rename_i w
        cases k3
        refine .inr (.inl ⟨a, vs, rfl, .inl (.inr ⟨o, ha⟩), fun z => ?_, fun _ p hp => q _ ob3 _ (A.trans (.same A.2 (same_new hp _))) (.newT hp (ra.cut _ _))⟩)
        rw [ra.length] at z
        exact absurd z w
    · cases k3
end
end PD
namespace PD
open PySem PySem.Spec PyProof.Rows L2
variable [TabC]
inductive RepVs (K : PySem.W.Frag) (mg : Str → Option Value) (E : Ev) (H : Hp) : List V → List D → Prop
  | nil : RepVs K mg E H [] []
  | cons {v : V} {vs : List V} {d : D} {ds : List D} : RepV K mg E H v d → RepVs K mg E H vs ds → RepVs K mg E H (v :: vs) (d :: ds)
def Opd.getAll (m : M) : List Opd → Option (List D)
  | [] => some []
  | o :: os => match o.get m with
    | some d => match Opd.getAll m os with
      | some ds => some (d :: ds)
      | none => none
    | none => none
def CallD (K : PySem.W.Frag) (mg : Str → Option Value) (g : List D → Option D) (r : List V → Hp → VK → Prop) : Prop :=
  ∀ (E : Ev) (H : Hp) (xs : List V) (ds : List D) (d : D) (Q : VK), (∀ a, E.N a → ∃ o, H a = some o) → RepVs K mg E H xs ds → g ds = some d →
    (∀ v H', Same H H' → Rep K mg E H' v d → Q v H') → r xs H Q
def CallF (K : PySem.W.Frag) (mg : Str → Option Value) (g : List D → Option D) (r : List V → Hp → VK → Prop) : Prop :=
  ∀ (E : Ev) (H : Hp) (xs : List V) (ds : List D) (es : List D) (Q : VK), RepVs K mg E H xs ds → g ds = some (.lst es) →
    (∀ p vs, H p = none → RepL K mg E H vs es → Q (.ref p) (upd H p (.lst vs))) → r xs H Q
def eCall (g : List D → Option D) (gs : Co (List Opd)) : Co D := Co.bind gs fun os m => match Opd.getAll m os with
  | some ds => match g ds with
    | some d => .ok d m
    | none => .no
  | none => .no
section
variable {K : PySem.W.Frag} {mg : Str → Option Value} {W : Wd} {σ : L2.St} {H : Hp} {m m' : M} {E : Ev}
theorem RepOs.view (S : Sit K mg W σ H m) : ∀ {vs : List V} {os : List Opd} {ds : List D}, RepOs K mg W σ H m vs os → Opd.getAll m os = some ds → RepVs K mg (W.ev m.obs.length) H vs ds
  | _, _, _, .nil, h => by cases h; exact .nil
  | _, _, ds, .cons (o := o) (os := os) r t, h => by
    unfold Opd.getAll at h
    cases e1 : o.get m with
    | none => rw [e1] at h; cases h
    | some d =>
      rw [e1] at h
      simp only at h
      cases e2 : Opd.getAll m os with
      | none => rw [e2] at h; cases h
      | some es => rw [e2] at h; cases h; exact .cons (r.view S e1) (RepOs.view S t e2)
theorem eCall_ok {g : List D → Option D} {gs : Co (List Opd)} {d : D} (h : eCall g gs m = .ok d m') : ∃ os ds, gs m = .ok os m' ∧ Opd.getAll m' os = some ds ∧ g ds = some d := by
  obtain ⟨os, m1, e1, h⟩ := Co.bind_ok h
  cases e2 : Opd.getAll m1 os with
  | none => rw [e2] at h; cases h
  | some ds =>
    rw [e2] at h
    simp only at h
    cases e3 : g ds with
    | none => rw [e3] at h; cases h
    | some d3 => rw [e3] at h; cases h; exact ⟨os, ds, e1, e2, e3⟩
theorem RepL.ints : ∀ {vs : List V} {ns : List Int}, RepL K mg E H vs (ns.map D.int) → vs = ns.map V.int
  | _, [], .nil => rfl
  | _, n :: ns, .cons r t => by cases r; rw [List.map_cons, RepL.ints t]
theorem RepL.bls : ∀ {vs : List V} {ns : List Bool}, RepL K mg E H vs (ns.map D.bl) → vs = ns.map V.bl
  | _, [], .nil => rfl
  | _, n :: ns, .cons r t => by cases r; rw [List.map_cons, RepL.bls t]
theorem RepL.strs : ∀ {vs : List V} {ns : List Str}, RepL K mg E H vs (ns.map D.str) → vs = ns.map V.str
  | _, [], .nil => rfl
  | _, n :: ns, .cons r t => by cases r; rw [List.map_cons, RepL.strs t]
theorem RepL.ofInts : ∀ (ns : List Int), RepL K mg E H (ns.map V.int) (ns.map D.int)
  | [] => .nil
  | n :: ns => .cons (.int n) (RepL.ofInts ns)
def toInts : List D → Option (List Int)
  | [] => some []
  | .int i :: ds => (toInts ds).map (i :: ·)
  | _ :: _ => none
theorem toInts_some : ∀ {ds : List D} {ns : List Int}, toInts ds = some ns → ds = ns.map D.int
  | [], ns, h => by cases h; rfl
  | d :: ds, ns, h => by
    cases d <;> first
      | (cases h; done)
      | skip
    obtain ⟨ms, h1, h2⟩ := Option.map_eq_some_iff.mp h
    subst h2
    rw [toInts_some h1]
    rfl
def toBls : List D → Option (List Bool)
  | [] => some []
  | .bl i :: ds => (toBls ds).map (i :: ·)
  | _ :: _ => none
theorem toBls_some : ∀ {ds : List D} {ns : List Bool}, toBls ds = some ns → ds = ns.map D.bl
  | [], ns, h => by cases h; rfl
  | d :: ds, ns, h => by
    cases d <;> first
      | (cases h; done)
      | skip
    obtain ⟨ms, h1, h2⟩ := Option.map_eq_some_iff.mp h
    subst h2
    rw [toBls_some h1]
    rfl
@[simp] theorem toInts_map (ns : List Int) : toInts (ns.map D.int) = some ns := by
  induction ns with
  | nil => rfl
  | cons n ns ih => rw [List.map_cons, toInts, ih]; rfl
@[simp] theorem toBls_map (ns : List Bool) : toBls (ns.map D.bl) = some ns := by
  induction ns with
  | nil => rfl
  | cons n ns ih => rw [List.map_cons, toBls, ih]; rfl
def lenD : List D → Option D
  | [.str z] => if z.length ≤ sizeLine then some (.int z.length) else none
  | [.lst xs] => some (.int xs.length)
  | [.tup xs] => some (.int xs.length)
  | [.xt xs] => some (.int xs.length)
  | [.scr xs] => some (.int xs.length)
  | _ => none
theorem cd_len : CallD K mg lenD (fun xs H Q => ∃ x n, xs = [x] ∧ LenV K x H n ∧ Q (.int n) H) := fun E H xs ds d Q hN r g q => by
  unfold lenD at g
  split at g
  · rename_i z
    cases r with | cons r t => cases t; by_cases hz : z.length ≤ sizeLine
                               · rw [if_pos hz] at g; cases g
                                 exact ⟨.str z, z.length, by rw [r.str], ⟨hz, rfl⟩, q _ _ (Same.refl _) (.int _)⟩
                               · rw [if_neg hz] at g; cases g
  · cases g
    cases r with
    | cons r t =>
      cases t
      obtain ⟨a, vs, rfl, ha, ra⟩ := r.lst
      exact ⟨_, _, rfl, .inl ⟨vs, SqL.of ha, ra.length.symm⟩, q _ _ (Same.refl _) (.int _)⟩
  · cases g
    cases r with
    | cons r t =>
      cases t
      obtain ⟨a, vs, rfl, ha, ra⟩ := r.tup
      exact ⟨_, _, rfl, .inr ⟨vs, SqT.of ha, ra.length.symm⟩, q _ _ (Same.refl _) (.int _)⟩
  · cases g
    cases r with
    | cons r t =>
      cases t
      obtain ⟨a, o, vs, rfl, ha, _, ra⟩ := r.xt
      exact ⟨_, _, rfl, .inr ⟨vs, .inl (.inr ⟨o, ha⟩), ra.length.symm⟩, q _ _ (Same.refl _) (.int _)⟩
  · cases g
    cases r with
    | cons r t =>
      cases t
      obtain ⟨a, rfl, ha⟩ := r.scr
      exact ⟨_, _, rfl, .inl ⟨_, ha, (List.length_map _).symm⟩, q _ _ (Same.refl _) (.int _)⟩
  · cases g
def absD : List D → Option D
  | [.int i] => some (.int (if i < 0 then -i else i))
  | _ => none
theorem cd_abs : CallD K mg absD (fun xs H Q => ∃ i, xs = [.int i] ∧ Q (.int (if i < 0 then -i else i)) H) := fun E H xs ds d Q hN r g q => by
  unfold absD at g
  split at g
  · cases g
    cases r with
    | cons r t => cases t; exact ⟨_, by rw [r.int], q _ _ (Same.refl _) (.int _)⟩
  · cases g
def intD : List D → Option D
  | [.int i] => some (.int i)
  | [.bl k] => some (.int (if k then 1 else 0))
  | _ => none
theorem cd_int : CallD K mg intD (fun xs H Q => (∃ i, xs = [.int i] ∧ Q (.int i) H) ∨ ∃ k, xs = [.bl k] ∧ Q (.int (if k then 1 else 0)) H) := fun E H xs ds d Q hN r g q => by
  unfold intD at g
  split at g
  · cases g
    cases r with
    | cons r t => cases t; exact .inl ⟨_, by rw [r.int], q _ _ (Same.refl _) (.int _)⟩
  · cases g
    cases r with
    | cons r t => cases t; exact .inr ⟨_, by rw [r.bl], q _ _ (Same.refl _) (.int _)⟩
  · cases g
def sumD : List D → Option D
  | [.lst xs] => (toInts xs).map fun ns => .int ns.sum
  | _ => none
theorem cd_sum : CallD K mg sumD (rSum K) := fun E H xs ds d Q hN r g q => by
  unfold sumD at g
  split at g
  · obtain ⟨ns, h1, h2⟩ := Option.map_eq_some_iff.mp g
    subst h2
    rw [toInts_some h1] at r
    cases r with
    | cons r t =>
      cases t
      obtain ⟨a, vs, rfl, ha, ra⟩ := r.lst
      have e := ra.ints
      subst e
      exact ⟨a, ns, rfl, SqL.of ha, q _ _ (Same.refl _) (.int _)⟩
  · cases g
def allD : List D → Option D
  | [.lst xs] => (toBls xs).map fun ns => .bl (ns.all id)
  | _ => none
def anyD : List D → Option D
  | [.lst xs] => (toBls xs).map fun ns => .bl (ns.any id)
  | _ => none
theorem cd_all : CallD K mg allD (rAll K) := fun E H xs ds d Q hN r g q => by
  unfold allD at g
  split at g
  · obtain ⟨ns, h1, h2⟩ := Option.map_eq_some_iff.mp g
    subst h2
    rw [toBls_some h1] at r
    cases r with
    | cons r t =>
      cases t
      obtain ⟨a, vs, rfl, ha, ra⟩ := r.lst
      have e := ra.bls
      subst e
      exact ⟨a, ns, rfl, SqL.of ha, q _ _ (Same.refl _) (.bl _)⟩
  · cases g
def tupleD : List D → Option D
  | [.lst xs] => some (.tup xs)
  | [.tup xs] => some (.tup xs)
  | _ => none
theorem cd_tuple : CallD K mg tupleD (fun xs H Q => ∃ p ys, xs = [.ref p] ∧ ((SqL K H p ys ∧ ∀ l, H l = none → Q (.ref l) (upd H l (.tup ys))) ∨ (SqT K H p ys ∧ Q (.ref p) H))) := fun E H xs ds d Q hN r g q => by
  unfold tupleD at g
  split at g
  · cases g
    cases r with
    | cons r t =>
      cases t
      obtain ⟨a, vs, rfl, ha, ra⟩ := r.lst
      exact ⟨a, vs, rfl, .inl ⟨SqL.of ha, fun p hp => q _ _ (same_new hp _) (.newT hp ra)⟩⟩
  · cases g
    cases r with
    | cons r t =>
      cases t
      obtain ⟨a, vs, rfl, ha, ra⟩ := r.tup
      exact ⟨a, vs, rfl, .inr ⟨SqT.of ha, q _ _ (Same.refl _) (.tup ha ra)⟩⟩
  · cases g
def listD : List D → Option D
  | [.lst xs] => some (.lst xs)
  | [.tup xs] => some (.lst xs)
  | [.xt xs] => some (.lst xs)
  | _ => none
theorem cf_list : CallF K mg listD (fun xs H Q => ∃ p ys, xs = [.ref p] ∧ (SqL K H p ys ∨ SqT K H p ys) ∧ ∀ l, H l = none → Q (.ref l) (upd H l (.lst ys))) := fun E H xs ds es Q r g q => by
  unfold listD at g
  split at g
  · cases g
    cases r with
    | cons r t =>
      cases t
      obtain ⟨a, vs, rfl, ha, ra⟩ := r.lst
      exact ⟨a, vs, rfl, .inl (SqL.of ha), fun p hp => q _ _ hp ra⟩
  · cases g
    cases r with
    | cons r t =>
      cases t
      obtain ⟨a, vs, rfl, ha, ra⟩ := r.tup
      exact ⟨a, vs, rfl, .inr (SqT.of ha), fun p hp => q _ _ hp ra⟩
  · cases g
    cases r with
    | cons r t =>
      cases t
      obtain ⟨a, o, vs, rfl, ha, _, ra⟩ := r.xt
      exact ⟨a, vs, rfl, .inr (.inl (.inr ⟨o, ha⟩)), fun p hp => q _ _ hp ra⟩
  · cases g
def insI (x : Int) : List Int → List Int
  | [] => [x]
  | y :: ys => if x ≤ y then x :: y :: ys else y :: insI x ys
def sortI : List Int → List Int
  | [] => []
  | x :: xs => insI x (sortI xs)
theorem insI_perm (x : Int) : ∀ ys : List Int, (insI x ys).Perm (x :: ys)
  | [] => .refl _
  | y :: ys => by
    unfold insI
    split
    · exact .refl _
    · exact ((insI_perm x ys).cons y).trans (.swap x y ys)
theorem sortI_perm : ∀ xs : List Int, (sortI xs).Perm xs
  | [] => .refl _
  | x :: xs => (insI_perm x (sortI xs)).trans ((sortI_perm xs).cons x)
theorem insI_sorted {x : Int} : ∀ {ys : List Int}, ys.Pairwise (· ≤ ·) → (insI x ys).Pairwise (· ≤ ·)
  | [], _ => by simp [insI]
  | y :: ys, h => by
    unfold insI
    split
    · rename_i hxy
      refine .cons (fun a ha => ?_) h
      rcases List.mem_cons.mp ha with rfl | ha
      · exact hxy
      · exact Int.le_trans hxy (List.rel_of_pairwise_cons h ha)
    · rename_i hxy
      refine .cons (fun a ha => ?_) (insI_sorted (List.Pairwise.of_cons h))
      rcases List.mem_cons.mp ((insI_perm x ys).mem_iff.mp ha) with rfl | ha
      · omega
      · exact List.rel_of_pairwise_cons h ha
theorem sortI_sorted : ∀ xs : List Int, (sortI xs).Pairwise (· ≤ ·)
  | [] => .nil
  | x :: xs => insI_sorted (sortI_sorted xs)
theorem sorted_eq : ∀ {xs ys : List Int}, xs.Perm ys → xs.Pairwise (· ≤ ·) → ys.Pairwise (· ≤ ·) → xs = ys
  | [], ys, p, _, _ => (List.Perm.nil_eq p)
  | x :: xs, [], p, _, _ => absurd p.length_eq (by simp)
  | x :: xs, y :: ys, p, hx, hy => by
    have e : x = y := by
      have h1 : y ∈ x :: xs := p.mem_iff.mpr List.mem_cons_self
      have h2 : x ∈ y :: ys := p.mem_iff.mp List.mem_cons_self
      have a : x ≤ y := by
        rcases List.mem_cons.mp h1 with e | h
        · omega
        · exact List.rel_of_pairwise_cons hx h
      have b : y ≤ x := by
        rcases List.mem_cons.mp h2 with e | h
        · omega
        · exact List.rel_of_pairwise_cons hy h
      omega
    subst e
    rw [sorted_eq (List.Perm.cons_inv p) (List.Pairwise.of_cons hx) (List.Pairwise.of_cons hy)]
def keyInts : List (Key × D) → Option (List Int)
  | [] => some []
  | (.inl i, _) :: r => (keyInts r).map (i :: ·)
  | _ => none
theorem keyInts_some : ∀ {kds : List (Key × D)} {ns : List Int}, keyInts kds = some ns → kds.map (·.1) = ns.map Sum.inl
  | [], ns, h => by cases h; rfl
  | (.inl i, _) :: r, ns, h => by
    obtain ⟨ms, h1, h2⟩ := Option.map_eq_some_iff.mp h
    subst h2
    rw [List.map_cons, keyInts_some h1, List.map_cons]
  | (.inr i, _) :: r, ns, h => by cases h
def sortedID : List D → Option D
  | [.lst xs] => (toInts xs).bind fun ns => if ns.length < 64 then some (.lst ((sortI ns).map D.int)) else none
  | [.dk kds] => (keyInts kds).bind fun ns => if ns.length < 64 then some (.lst ((sortI ns).map D.int)) else none
  | _ => none
def rSortedID (K : PySem.W.Frag) : List V → Hp → VK → Prop := fun xs H Q => rSorted K xs H Q ∨ (fun xs H Q => ∃ (a : Addr) (kvs : List (Key × V)) (ks : List Int), xs = [.ref a] ∧ Rd H a (.dK kvs) ∧ kvs.map (·.1) = ks.map Sum.inl ∧ ks.length < 64 ∧ ∀ (ys : List Int) (p : Addr), ys.Perm ks → ys.Pairwise (· ≤ ·) → H p = none → Q (.ref p) (upd H p (.lst (ys.map V.int)))) xs H Q
theorem RepV.dk {v : V} {ds : List (Key × D)} (r : RepV K mg E H v (.dk ds)) : ∃ a kvs, v = .ref a ∧ Rd H a (.dK kvs) ∧ kvs.map (·.1) = ds.map (·.1) ∧ RepL K mg E H (kvs.map (·.2)) (ds.map (·.2)) := by
  cases r with
  | of r => cases r with | dk h n l r => exact ⟨_, _, rfl, h, l, r⟩
  | cell c => obtain ⟨kvs, h, l, r⟩ := c; exact ⟨_, kvs, rfl, .inl h, l, r⟩
theorem RepV.dt {v : V} {ds : List (List Key × D)} (r : RepV K mg E H v (.dt ds)) : ∃ a kvs, v = .ref a ∧ Rd H a (.dT kvs) ∧ kvs.map (·.1) = ds.map (·.1) ∧ RepL K mg E H (kvs.map (·.2)) (ds.map (·.2)) := by
  cases r with
  | of r => cases r with | dt h n l r => exact ⟨_, _, rfl, h, l, r⟩
  | cell c => obtain ⟨kvs, h, l, r⟩ := c; exact ⟨_, kvs, rfl, .inl h, l, r⟩
theorem cf_sorted : CallF K mg sortedID (rSortedID K) := fun E H xs ds es Q r g q => by
  unfold sortedID at g
  split at g
  · obtain ⟨ns, h1, g⟩ := Option.bind_eq_some_iff.mp g
    by_cases hz : ns.length < 64
    · rw [if_pos hz] at g
      cases g
      rw [toInts_some h1] at r
      cases r with
      | cons r t =>
        cases t
        obtain ⟨a, vs, rfl, ha, ra⟩ := r.lst
        have e := ra.ints
        subst e
        refine .inl ⟨a, ns, rfl, SqL.of ha, hz, fun ns' p h1 h2 hp => ?_⟩
        have e := sorted_eq (h1.trans (sortI_perm ns).symm) h2 (sortI_sorted ns)
        subst e
        exact q _ _ hp (.ofInts _)
    · rw [if_neg hz] at g; cases g
  · obtain ⟨ns, h1, g⟩ := Option.bind_eq_some_iff.mp g
    by_cases hz : ns.length < 64
    · rw [if_pos hz] at g
      cases g
      cases r with
      | cons r t =>
        cases t
        obtain ⟨a, kvs, rfl, ha, hl, ra⟩ := r.dk
        refine .inr ⟨a, kvs, ns, rfl, ha, hl.trans (keyInts_some h1), hz, fun ns' p h1 h2 hp => ?_⟩
        have e := sorted_eq (h1.trans (sortI_perm ns).symm) h2 (sortI_sorted ns)
        subst e
        exact q _ _ hp (.ofInts _)
    · rw [if_neg hz] at g; cases g
  · cases g
end
section
variable {X : Cx} {e : Expr} {es : List Expr} {x : Str} {p pos : Pos} {gs : Co (List Opd)} {g : List D → Option D} {id T : String} {r : List V → Hp → VK → Prop}
theorem ee_callB (hc : CallR X (.builtin id) r) (hd : CallD X.K X.mg g r) (hm : X.mg x = none) (hv : bootBuiltins x = some (.builtin id)) (ha : EBs X (e :: es) gs) (hg : Gl X x := by rfl) (hn : x ≠ "__name__" := by decide) (hdb : (x == ("__debug__" : Str)) = false := by decide)
    (he : starEach (e :: es) X.env = (false, eval e X.env) :: starEach es X.env := by rfl) (hpl : (backTo pos (starEach es X.env)).any (·.1) = false := by rfl) : EE X (.Call (.Name x p) (e :: es) [] pos) (eCall g gs) :=
  PE.imp (pe_callB hc hg hm hv ha hn hdb he hpl) fun σ H Q ⟨W, m, S, d, m', hf, q⟩ => by
    obtain ⟨os, ds, e1, e2, e3⟩ := eCall_ok hf
    refine ⟨W, m, S, os, m', e1, fun vs ob' H' A rs => ?_⟩
    exact hd _ H' vs ds d Q (fun a z => A.2.dom z) (rs.view A.2 e2) e3 fun v H2 sm rv => q v ob' H2 (A.trans (.same A.2 sm)) rv
theorem ee_callTy (hc : CallR X (.type T) r) (hd : CallD X.K X.mg g r) (hm : X.mg x = none) (hv : bootBuiltins x = some (.type T)) (ha : EBs X (e :: es) gs) (hg : Gl X x := by rfl) (hn : x ≠ "__name__" := by decide) (hdb : (x == ("__debug__" : Str)) = false := by decide)
    (he : starEach (e :: es) X.env = (false, eval e X.env) :: starEach es X.env := by rfl) (hpl : (backTo pos (starEach es X.env)).any (·.1) = false := by rfl) : EE X (.Call (.Name x p) (e :: es) [] pos) (eCall g gs) :=
  PE.imp (pe_callTy hc hg hm hv ha hn hdb he hpl) fun σ H Q ⟨W, m, S, d, m', hf, q⟩ => by
    obtain ⟨os, ds, e1, e2, e3⟩ := eCall_ok hf
    refine ⟨W, m, S, os, m', e1, fun vs ob' H' A rs => ?_⟩
    exact hd _ H' vs ds d Q (fun a z => A.2.dom z) (rs.view A.2 e2) e3 fun v H2 sm rv => q v ob' H2 (A.trans (.same A.2 sm)) rv
theorem ef_callB (hc : CallR X (.builtin id) r) (hd : CallF X.K X.mg g r) (hm : X.mg x = none) (hv : bootBuiltins x = some (.builtin id)) (ha : EBs X (e :: es) gs) (hg : Gl X x := by rfl) (hn : x ≠ "__name__" := by decide) (hdb : (x == ("__debug__" : Str)) = false := by decide)
    (he : starEach (e :: es) X.env = (false, eval e X.env) :: starEach es X.env := by rfl) (hpl : (backTo pos (starEach es X.env)).any (·.1) = false := by rfl) : EF X (.Call (.Name x p) (e :: es) [] pos) (asL (eCall g gs)) :=
  PE.imp (pe_callB hc hg hm hv ha hn hdb he hpl) fun σ H Q ⟨W, m, S, d, m', hf, q⟩ => by
    obtain ⟨ds', ed, hf2⟩ := asL_ok hf
    subst ed
    obtain ⟨os, ds, e1, e2, e3⟩ := eCall_ok hf2
    refine ⟨W, m, S, os, m', e1, fun vs ob' H' A rs => ?_⟩
    exact hd _ H' vs ds ds' Q (rs.view A.2 e2) e3 fun p vs hp rv => fin_lst A hp rv q
theorem ef_callTy (hc : CallR X (.type T) r) (hd : CallF X.K X.mg g r) (hm : X.mg x = none) (hv : bootBuiltins x = some (.type T)) (ha : EBs X (e :: es) gs) (hg : Gl X x := by rfl) (hn : x ≠ "__name__" := by decide) (hdb : (x == ("__debug__" : Str)) = false := by decide)
    (he : starEach (e :: es) X.env = (false, eval e X.env) :: starEach es X.env := by rfl) (hpl : (backTo pos (starEach es X.env)).any (·.1) = false := by rfl) : EF X (.Call (.Name x p) (e :: es) [] pos) (asL (eCall g gs)) :=
  PE.imp (pe_callTy hc hg hm hv ha hn hdb he hpl) fun σ H Q ⟨W, m, S, d, m', hf, q⟩ => by
    obtain ⟨ds', ed, hf2⟩ := asL_ok hf
    subst ed
    obtain ⟨os, ds, e1, e2, e3⟩ := eCall_ok hf2
    refine ⟨W, m, S, os, m', e1, fun vs ob' H' A rs => ?_⟩
    exact hd _ H' vs ds ds' Q (rs.view A.2 e2) e3 fun p vs hp rv => fin_lst A hp rv q
theorem op_sortedID (hc : X.calm = true) : CallR X (.builtin "sorted") (rSortedID X.K) := CallR.or cr_sorted (call_sortedDI hc)
end
end PD
namespace PD
open PySem PySem.Spec PyProof.Rows L2
variable [TabC]
abbrev Fd := List D → List (List D) → Option (D × List (List D))
structure Ent (K : PySem.W.Frag) (mg : Str → Option Value) (E : Ev) (H : Hp) (obs : List (List D)) : Prop where
  no : E.no = obs.length
  dom : ∀ a, E.N a → ∃ o, H a = some o
  mx : ∀ a, E.Mx a → ∃ n, n < E.no ∧ E.ob n = a
  obN : ∀ n, n < E.no → E.N (E.ob n)
  obM : ∀ n, n < E.no → E.Mx (E.ob n)
  inj : ∀ n k, n < E.no → k < E.no → E.ob n = E.ob k → n = k
  cells : ∀ (n : Nat) (ds : List D), obs[n]? = some ds → Cell K mg E H (E.ob n) (.lst ds)
  tab : TabAll H
def Ev.grow (E : Ev) (ob' : Nat → Addr) (no' : Nat) : Ev where
  N := fun a => E.N a ∨ ∃ n, n < no' ∧ ob' n = a
  Mx := fun a => ∃ n, n < no' ∧ ob' n = a
  ob := ob'
  no := no'
def Ev.addN (E : Ev) (P : Addr → Prop) : Ev := { E with N := fun a => E.N a ∨ P a }
def CEnd (K : PySem.W.Frag) (mg : Str → Option Value) (E : Ev) (H : Hp) (r : D) (obs' : List (List D)) (fr : Bool) (v : V) (ob' : Nat → Addr) (H' : Hp) : Prop :=
  Ext E H (E.grow ob' obs'.length) H' ∧ (∀ n k, n < obs'.length → k < obs'.length → ob' n = ob' k → n = k) ∧
    match fr with
    | false => (∀ (n : Nat) (ds : List D), obs'[n]? = some ds → Cell K mg (E.grow ob' obs'.length) H' (ob' n) (.lst ds)) ∧ Rep K mg (E.grow ob' obs'.length) H' v r
    | true => ∃ a, v = .ref a ∧ H a = none ∧ ¬ (E.grow ob' obs'.length).N a ∧ (∀ (n : Nat) (ds : List D), obs'[n]? = some ds → Cell K mg ((E.grow ob' obs'.length).addN (· = a)) H' (ob' n) (.lst ds)) ∧
        Cell K mg ((E.grow ob' obs'.length).addN (· = a)) H' a r
def spD (K : PySem.W.Frag) (mg : Str → Option Value) (F : Fd) (fr : Bool) : Sp := fun vs H Q _ => ∃ E obs ds r obs', Ent K mg E H obs ∧ RepL K mg E H vs ds ∧ F ds obs = some (r, obs') ∧
  ∀ v ob' H', CEnd K mg E H r obs' fr v ob' H' → Q v H'
section
variable {K : PySem.W.Frag} {mg : Str → Option Value} {W : Wd} {σ : L2.St} {H H' : Hp} {m : M}
def Wd.cal (W : Wd) (no : Nat) : Ev := { (W.ev no) with Mx := fun a => ∃ n, n < no ∧ W.ob n = a }
theorem Sit.ent (S : Sit K mg W σ H m) : Ent K mg (W.cal m.obs.length) H m.obs where
  no := rfl
  dom := fun a h => S.dom h
  mx := fun a h => h
  obN := fun n h => .inr (.inr ⟨n, h, rfl⟩)
  obM := fun n h => ⟨n, h, rfl⟩
  inj := S.obi
  cells := fun n ds h => (S.ob n ds h).le ((W.ev _).le_mx _)
  tab := S.tab
theorem Sit.called {P : Addr → Prop} {ob' : Nat → Addr} {obs' : List (List D)} (S : Sit K mg W σ H m) (x : Ext (W.cal m.obs.length) H ((W.cal m.obs.length).grow ob' obs'.length) H')
    (inj : ∀ n k, n < obs'.length → k < obs'.length → ob' n = ob' k → n = k) (hP : ∀ a, P a → H a = none ∧ ∃ o, H' a = some o)
    (cells : ∀ (n : Nat) (ds : List D), obs'[n]? = some ds → Cell K mg (((W.cal m.obs.length).grow ob' obs'.length).addN P) H' (ob' n) (.lst ds)) :
    Ext (W.ev m.obs.length) H ({ W with ob := ob', N0 := fun b => W.N0 b ∨ P b }.ev obs'.length) H' ∧ Sit K mg { W with ob := ob', N0 := fun b => W.N0 b ∨ P b } σ H' { m with obs := obs' } ∧
      (((W.cal m.obs.length).grow ob' obs'.length).addN P).Le ({ W with ob := ob', N0 := fun b => W.N0 b ∨ P b }.ev obs'.length) := by
  have le : (((W.cal m.obs.length).grow ob' obs'.length).addN P).Le ({ W with ob := ob', N0 := fun b => W.N0 b ∨ P b }.ev obs'.length) := by
    refine ⟨Nat.le_refl _, fun _ _ => rfl, fun a h => ?_⟩
    rcases h with (h | h) | h | h
    · exact .inl (.inl (.inl h))
    · exact .inr h
    · exact .inl (.inl (.inr (.inl h)))
    · exact .inl (.inr h)
  have nomx : ∀ i a, W.own i = some a → ¬ (W.cal m.obs.length).Mx a := fun i a e ⟨n, hn, en⟩ => S.obo n i hn (by rw [en]; exact e)
  have X : Ext (W.ev m.obs.length) H ({ W with ob := ob', N0 := fun b => W.N0 b ∨ P b }.ev obs'.length) H' := by
    refine ⟨x.no, x.ob, fun a h => ?_, fun a h => ?_, x.dm, fun a o n nt h => x.keep0 a o (fun z => n (.inr z)) nt h, x.tup, x.frz, x.tbl⟩
    · rcases h with (h | h) | h | h
      · exact .inl (.inl h)
      · exact .inr (hP a h).1
      · exact .inl (.inr (.inl h))
      · exact x.n2 a (.inr h)
    · rcases h with h | h
      · exact .inl (.inl h)
      · rcases x.m2 a h with h | h
        · exact .inl (.inr h)
        · exact .inr h
  refine ⟨X, ⟨S.len, S.ext.trans X, fun i d h => ?_, fun i d h => ?_, S.owi, S.inj, fun n ds h => (cells n ds h).le le, inj, fun n i hn e => ?_, fun a h => ?_, fun i a e h => ?_, fun P q h => x.tbl P q _ h (S.tab P q h)⟩, le⟩
  · obtain ⟨v, e, r⟩ := S.pl i d h
    exact ⟨v, e, r.ext X (W.sub _)⟩
  · obtain ⟨a, e, e2, c⟩ := S.ow i d h
    exact ⟨a, e, e2, c.ext X (W.sub _) fun o nt q => x.keep0 a o (nomx i a e) nt q⟩
  · have e' : W.own i = some (ob' n) := e
    obtain ⟨d, hd⟩ := S.owi i _ e'
    obtain ⟨b, hb, _, c⟩ := S.ow i d hd
    rw [e'] at hb; cases hb
    rcases x.m2 (ob' n) ⟨n, hn, rfl⟩ with z | z
    · exact nomx i _ e' z
    · obtain ⟨o, ho⟩ := c.dom
      rw [z] at ho; cases ho
  · rcases h with h | h
    · obtain ⟨o, e⟩ := S.n0 a h
      exact x.dm a o e
    · exact (hP a h).2
  · rcases h with h | h
    · exact S.o0 i a e h
    · obtain ⟨d, hd⟩ := S.owi i _ e
      obtain ⟨b, hb, _, c⟩ := S.ow i d hd
      have e' : W.own i = some a := e
      rw [e'] at hb; cases hb
      obtain ⟨o, ho⟩ := c.dom
      rw [(hP a h).1] at ho; cases ho
end
def eFn (F : Fd) (fs : Co (List D)) : Co D := Co.bind fs fun ds m => match F ds m.obs with
  | some (r, obs') => .ok r { m with obs := obs' }
  | none => .no
theorem eFn_ok {F : Fd} {fs : Co (List D)} {m m' : M} {d : D} (h : eFn F fs m = .ok d m') : ∃ ds m1 obs', fs m = .ok ds m1 ∧ F ds m1.obs = some (d, obs') ∧ m' = { m1 with obs := obs' } := by
  obtain ⟨ds, m1, e1, h⟩ := Co.bind_ok h
  cases e2 : F ds m1.obs with
  | none => rw [e2] at h; cases h
  | some p =>
    obtain ⟨r, obs'⟩ := p
    rw [e2] at h
    cases h
    exact ⟨ds, m1, obs', e1, e2, rfl⟩
structure Has (P : Program) (w : World) (K : PySem.W.Frag) (mg : Str → Option Value) (base : Heap) (k : Nat) (x : Str) (F : Fd) (fr : Bool) : Prop where
  ex : ∃ (f : Addr) (fd : FuncData) (ps : List Str), mg x = some (.ref f) ∧ PySem.W.keepIn K (.ref f) = true ∧ FnOk P w K mg base CX0 k f fd ps (spD K mg F fr) ∧ Binds K fd ps []
section
variable {X : Cx} {e : Expr} {es : List Expr} {x : Str} {p pos : Pos} {fs : Co (List D)} {k k' np : Nat} {F : Fd}
theorem call_end {fr : Bool} {W : Wd} {σ : L2.St} {H H' : Hp} {m : M} {r : D} {obs' : List (List D)} {v : V} {ob' : Nat → Addr} (S : Sit X.K X.mg W σ H m) (c : CEnd X.K X.mg (W.cal m.obs.length) H r obs' fr v ob' H') :
    match fr with
    | false => After X.K X.mg W σ H m ob' H' { m with obs := obs' } ∧ Rep X.K X.mg ({ W with ob := ob' }.ev obs'.length) H' v r
    | true => ∃ a, v = .ref a ∧ H a = none ∧ Ext (W.ev m.obs.length) H ({ W with ob := ob' }.ev obs'.length) H' ∧ ¬ ({ W with ob := ob' }.ev obs'.length).N a ∧ Sit X.K X.mg ({ W with ob := ob' }.add a) σ H' { m with obs := obs' } ∧
        Cell X.K X.mg (({ W with ob := ob' }.add a).ev obs'.length) H' a r := by
  obtain ⟨x, inj, c⟩ := c
  cases fr with
  | false =>
    obtain ⟨cells, rv⟩ := c
    have le0 : ((W.cal m.obs.length).grow ob' obs'.length).Le (((W.cal m.obs.length).grow ob' obs'.length).addN fun _ => False) := ⟨Nat.le_refl _, fun _ _ => rfl, fun a h => h.elim id False.elim⟩
    obtain ⟨X', S', le⟩ := S.called (P := fun _ => False) x inj (fun _ h => h.elim) fun n ds h => (cells n ds h).le le0
    have e : ({ W with ob := ob', N0 := fun b => W.N0 b ∨ False } : Wd) = { W with ob := ob' } := by simp
    rw [e] at X' S' le
    exact ⟨⟨X', S'⟩, (rv.le le0).le le⟩
  | true =>
    obtain ⟨a, rfl, hn, nN, cells, cc⟩ := c
    have hd : ∃ o, H' a = some o := cc.dom
    obtain ⟨X', S', le⟩ := S.called (P := (· = a)) x inj (fun b h => by cases h; exact ⟨hn, hd⟩) cells
    refine ⟨a, rfl, hn, ⟨X'.no, X'.ob, fun b h => X'.n2 b (h.elim (fun h => .inl (.inl h)) .inr), X'.m2, X'.dm, X'.keep0, X'.tup, X'.frz, X'.tbl⟩, fun z => nN ?_, S', cc.le le⟩
    rcases z with z | z | z
    · exact .inl (.inl z)
    · exact .inl (.inr (.inl z))
    · exact .inr z
theorem ee_fn (h : Has X.prog X.w X.K X.mg X.base k x F false) (hr : Room k' X.A) (ha : EA X (e :: es) fs) (hk : k ≤ k' := by decide) (hg : Gl X x := by rfl) (hdb : (x == ("__debug__" : Str)) = false := by decide)
    (he : starEach (e :: es) X.env = (false, eval e X.env) :: starEach es X.env := by rfl) (hpl : (backTo pos (starEach es X.env)).any (·.1) = false := by rfl) :
    EE X (.Call (.Name x p) (e :: es) [] pos) (eFn F fs) := by
  obtain ⟨f, fd, ps, hm, kp, G, b⟩ := h.ex
  refine PE.imp (pe_call G (hr.mono hk) hg hm kp b .nil pass0 ha hdb he hpl) fun σ H Q ⟨W, m, S, d, m', hf, q⟩ => ?_
  obtain ⟨ds, m1, obs', e1, e2, rfl⟩ := eFn_ok hf
  refine ⟨W, m, S, ds, m1, e1, fun vs ob1 H1 A1 rs => ?_⟩
  show spD X.K X.mg F false (vs ++ []) H1 Q E0
  rw [List.append_nil]
  refine ⟨_, m1.obs, ds, d, obs', A1.2.ent, rs.le (Ev.le_mx _ _), e2, fun v ob' H' c => ?_⟩
  obtain ⟨A2, r2⟩ := call_end A1.2 c
  exact q v ob' H' (A1.trans A2) r2
end
def runF (nl np : Nat) (body : Co Flow') (fr : Bool) : Fd := fun ds obs =>
  if ds.length = np then match body ⟨ds.map Slot.pl ++ List.replicate (nl - np) .un, obs⟩ with
    | .ok fl m' => match fl, fr with
      | .nx, false => some (.non, m'.obs)
      | .rt d, false => some (d, m'.obs)
      | .rf d, true => some (d, m'.obs)
      | _, _ => none
    | .no => none
  else none
section
variable {P : Program} {w : World} {K : PySem.W.Frag} {mg : Str → Option Value} {base : Heap}
theorem start_pl {E : Ev} {H : Hp} {N : List Str} {vs : List V} {ds : List D} (r : RepL K mg E H vs ds) {i : Nat} {d : D} (h : (ds.map Slot.pl ++ List.replicate (N.length - ds.length) Slot.un)[i]? = some (Slot.pl d)) :
    ∃ v, (L2.start N vs)[i]? = some (some v) ∧ Rep K mg E H v d := by
  by_cases hi : i < ds.length
  · rw [List.getElem?_append_left (by simpa using hi), List.getElem?_map] at h
    cases e : ds[i]? with
    | none => rw [e] at h; cases h
    | some d' =>
      rw [e] at h
      cases h
      obtain ⟨v, h1, h2⟩ := r.get' e
      refine ⟨v, ?_, h2⟩
      unfold L2.start
      rw [List.getElem?_append_left (by rw [List.length_map, r.length]; exact hi), List.getElem?_map, h1]
      rfl
  · rw [List.getElem?_append_right (by simpa using hi), List.getElem?_replicate] at h
    split at h <;> cases h
theorem start_ow {N : List Str} {ds : List D} {i : Nat} {d : D} (h : (ds.map Slot.pl ++ List.replicate (N.length - ds.length) Slot.un)[i]? = some (Slot.ow d)) : False := by
  by_cases hi : i < ds.length
  · rw [List.getElem?_append_left (by simpa using hi), List.getElem?_map] at h
    cases e : ds[i]? <;> rw [e] at h <;> cases h
  · rw [List.getElem?_append_right (by simpa using hi), List.getElem?_replicate] at h
    split at h <;> cases h
theorem Ent.sit {E : Ev} {H : Hp} {obs : List (List D)} {N : List Str} {vs : List V} {ds : List D} (n : Ent K mg E H obs) (r : RepL K mg E H vs ds) (hl : ds.length ≤ N.length) :
    Sit K mg ⟨E.N, E, H, fun _ => none, E.ob⟩ (L2.start N vs) H ⟨ds.map Slot.pl ++ List.replicate (N.length - ds.length) .un, obs⟩ := by
  have le : E.Le (Wd.ev ⟨E.N, E, H, fun _ => none, E.ob⟩ obs.length) := by
    refine ⟨Nat.le_of_eq n.no, fun _ _ => rfl, fun a h => ?_⟩
    rcases h with h | ⟨i, h⟩ | ⟨k, h, e⟩
    · exact h
    · cases h
    · rw [← n.no] at h
      exact e ▸ n.obN k h
  refine ⟨?_, ⟨Nat.le_of_eq n.no, fun _ _ => rfl, fun a h => .inl (le.n a h), fun a h => ?_, fun _ o h => ⟨o, h⟩, fun _ _ _ _ h => h, fun _ _ h => h, fun _ _ _ h => h, fun _ _ _ _ h => h⟩, fun i d h => ?_, fun i d h => (start_ow h).elim, fun i a h => (nomatch h), fun i j a h => (nomatch h), fun k es h => ?_, fun i j h1 h2 => ?_, fun _ _ _ h => (nomatch h), n.dom, fun _ _ h => (nomatch h), n.tab⟩
  · unfold L2.start
    rw [List.length_append, List.length_append, List.length_map, List.length_map, List.length_replicate, List.length_replicate, r.length]
  · rcases h with ⟨i, h⟩ | ⟨k, h, e⟩
    · cases h
    · have h' : k < obs.length := h
      rw [← n.no] at h'
      exact .inl (e ▸ n.obM k h')
  · obtain ⟨v, h1, h2⟩ := start_pl r h
    exact ⟨v, h1, h2.le le⟩
  · exact (n.cells k es h).le le
  · have h1' : i < obs.length := h1
    have h2' : j < obs.length := h2
    rw [← n.no] at h1' h2'
    exact n.inj i j h1' h2'
abbrev BX (P : Program) (w : World) (K : PySem.W.Frag) (mg : Str → Option Value) (base : Heap) (N : List Str) (qual : Str) (st : Stmt) (f : Addr) (cdv : Value) (A : Around) (outer : List Env) (s : Shared) (H : Hp) (E : XK) : Cx :=
  (cxOf CX0 P w K mg base N qual (defScope st) f cdv A outer s H E).nox
theorem fn_ok {x qual : Str} {st : Stmt} {f : Addr} {fd : FuncData} {N ps : List Str} {k : Nat} {body : Co Flow'} {fr : Bool} (F : Fun K x qual st f fd) (S : FnScope N ps (defScope st))
    (hb : ∀ (cdv : Value) (A : Around) (outer : List Env) (s : Shared) (H : Hp) (E : XK), Room k (A.deeper (envOfC qual (defScope st) s.heap.objs.size f cdv)) → SSs (BX P w K mg base N qual st f cdv A outer s H E) (defBody st) body) :
    FnOk P w K mg base CX0 (k + 1) f fd ps (spD K mg (runF N.length ps.length body fr) fr) := by
  have hpl : ps.length ≤ N.length := by have := congrArg List.length S.pre; rw [List.length_take] at this; omega
  refine F.ok S (fun vs H Q E h => ?_) (fun cdv A outer s H vs Q E hr h => ?_)
  · obtain ⟨Ev, obs, ds, r, obs', n, rl, hf, _⟩ := h
    unfold runF at hf
    split at hf
    · rename_i hl
      rw [rl.length]; exact hl
    · cases hf
  · obtain ⟨Ev, obs, ds, r, obs', n, rl, hf, q⟩ := h
    unfold runF at hf
    by_cases hl : ds.length = ps.length
    · rw [if_pos hl] at hf
      refine ⟨_, hb cdv A outer s H E hr, ?_⟩
      have S0 := n.sit (N := N) rl (by omega)
      rw [hl] at S0
      cases eb : body ⟨ds.map Slot.pl ++ List.replicate (N.length - ps.length) .un, obs⟩ with
      | no => rw [eb] at hf; cases hf
      | ok fl m' =>
        rw [eb] at hf
        refine ⟨_, _, S0, fl, m', eb, ?_⟩
        -- what the callee's end is to the caller
        have fin : ∀ {W' : Wd} {σ' : L2.St} {H' : Hp} {v : V} {d : D}, Lat ⟨Ev.N, Ev, H, fun _ => none, Ev.ob⟩ W' → Sit K mg W' σ' H' m' → Rep K mg (W'.ev m'.obs.length) H' v d → CEnd K mg Ev H d m'.obs false v W'.ob H' := by
          rintro W' σ' H' v d ⟨e1, e2, e3⟩ S' rv
          have le : (W'.ev m'.obs.length).Le (Ev.grow W'.ob m'.obs.length) := by
            refine ⟨Nat.le_refl _, fun _ _ => rfl, fun a h => ?_⟩
            rcases h with h | h
            · exact .inl (e1 ▸ h)
            · exact .inr (.inr h)
          refine ⟨?_, S'.obi, fun i ds h => (S'.ob i ds h).le le, rv.le le⟩
          have x := S'.ext
          rw [e2, e3] at x
          exact ⟨x.no, x.ob, fun a h => x.n2 a (le.n a h), fun a h => x.m2 a (.inr h), x.dm, x.keep0, x.tup, x.frz, x.tbl⟩
        cases fl with
        | nx =>
          cases fr with
          | true => cases hf
          | false =>
            cases hf
            exact fun W' σ' H' la S' => q _ W'.ob H' (fin la S' .non)
        | bk => cases fr <;> cases hf
        | ct => cases fr <;> cases hf
        | rt d =>
          cases fr with
          | true => cases hf
          | false =>
            cases hf
            exact fun W' σ' H' v la S' rv => q v W'.ob H' (fin la S' rv)
        | rf d =>
          cases fr with
          | false => cases hf
          | true =>
            cases hf
            rintro W' σ' H' a ⟨e1, e2, e3⟩ nN h0 S' c
            have hn : H a = none := by
              rcases h0 with h0 | h0
              · rw [e2] at h0
                obtain ⟨i, hi, rfl⟩ := n.mx a h0
                exfalso
                refine nN (.inr (.inr ⟨i, ?_, ?_⟩))
                · have := S'.ext.no
                  rw [e2] at this
                  exact Nat.lt_of_lt_of_le hi this
                · have := S'.ext.ob i (by rw [e2]; exact hi)
                  rw [e2] at this
                  exact this
              · rw [e3] at h0; exact h0
            have le : ((W'.add a).ev m'.obs.length).Le ((Ev.grow W'.ob m'.obs.length).addN (· = a)) := by
              refine ⟨Nat.le_refl _, fun _ _ => rfl, fun b h => ?_⟩
              rcases h with (h | h) | h
              · exact .inl (.inl (e1 ▸ h))
              · exact .inr (.inr h)
              · exact .inl (.inr h)
            refine q _ W'.ob H' ⟨?_, S'.obi, a, rfl, hn, fun z => nN ?_, fun i ds h => (S'.ob i ds h).le le, c.le le⟩
            · have x := S'.ext
              have x' : Ext W'.E0 W'.H0 ((W'.add a).ev m'.obs.length) H' := x
              rw [e2, e3] at x'
              exact ⟨x'.no, x'.ob, fun b h => x'.n2 b (h.elim (fun h => .inl (.inl (e1 ▸ h))) fun h => .inr (.inr h)), fun b h => x'.m2 b (.inr h), x'.dm, x'.keep0, x'.tup, x'.frz, x'.tbl⟩
            · rcases z with z | z
              · exact .inl (e1 ▸ z)
              · exact .inr (.inr z)
    · rw [if_neg hl] at hf; cases hf
end
end PD
namespace PD
open PySem PySem.Spec PyProof.Rows L2
variable [TabC]
section
variable {K : PySem.W.Frag} {mg : Str → Option Value} {W W' W'' : Wd} {σ : L2.St} {H H' : Hp} {m : M}
theorem Lat.refl (W : Wd) : Lat W W := ⟨rfl, rfl, rfl⟩
theorem Lat.trans (a : Lat W W') (b : Lat W' W'') : Lat W W'' := ⟨b.1.trans a.1, b.2.1.trans a.2.1, b.2.2.trans a.2.2⟩
theorem Ext.sub {E0 E E' : Ev} {H0 : Hp} (x : Ext E0 H0 E H) (no : E'.no = E.no) (ob : E'.ob = E.ob) (n : ∀ a, E'.N a → E.N a ∨ H0 a = none) (mx : ∀ a, E'.Mx a → E.Mx a ∨ H0 a = none) : Ext E0 H0 E' H :=
  ⟨by rw [no]; exact x.no, fun i h => by rw [ob]; exact x.ob i h, fun a h => (n a h).elim (x.n2 a) .inr, fun a h => (mx a h).elim (x.m2 a) .inr, x.dm, x.keep0, x.tup, x.frz, x.tbl⟩
abbrev Wd.drop (W : Wd) (i : Nat) : Wd := { W with own := fun j => if j = i then none else W.own j }
theorem drop_own {i j : Nat} {a : Addr} (h : (W.drop i).own j = some a) : W.own j = some a ∧ j ≠ i := by
  have h' : (if j = i then none else W.own j) = some a := h
  split at h'
  · cases h'
  · rename_i n; exact ⟨h', n⟩
theorem Wd.drop_le (W : Wd) (i no : Nat) : (W.ev no).Le ((W.drop i).ev no) := ⟨Nat.le_refl _, fun _ _ => rfl, fun a h => by
  rcases h with h | ⟨j, h⟩ | h
  · exact .inl h
  · exact .inr (.inl ⟨j, (drop_own h).1⟩)
  · exact .inr (.inr h)⟩
theorem Sit.setPl {i : Nat} {v : V} {d : D} (S : Sit K mg W σ H m) (r : Rep K mg (W.ev m.obs.length) H v d) : Sit K mg (W.drop i) (σ.set i (some v)) H { m with env := m.env.set i (.pl d) } := by
  have le := W.drop_le i m.obs.length
  refine ⟨by simpa using S.len, S.ext.sub rfl rfl (fun a h => .inl (le.n a h)) (fun a h => .inl ?_), fun j e h => ?_, fun j e h => ?_, fun j a h => ?_, fun j k a h1 h2 => S.inj j k a (drop_own h1).1 (drop_own h2).1, fun n ds h => (S.ob n ds h).le le, S.obi, fun n j h e => S.obo n j h (drop_own e).1, S.n0, fun j a h => S.o0 j a (drop_own h).1, S.tab⟩
  · rcases h with ⟨j, h⟩ | h
    · exact .inl ⟨j, (drop_own h).1⟩
    · exact .inr h
  · by_cases hj : i = j
    · subst hj
      have hl : i < m.env.length := by
        have := (List.getElem?_eq_some_iff.mp h).1
        simpa using this
      rw [List.getElem?_set_self hl] at h
      cases h
      exact ⟨v, by rw [List.getElem?_set_self (by rw [S.len]; exact hl)], r.le le⟩
    · rw [List.getElem?_set_ne hj] at h
      obtain ⟨u, e1, r1⟩ := S.pl j e h
      exact ⟨u, by rw [List.getElem?_set_ne hj]; exact e1, r1.le le⟩
  · by_cases hj : i = j
    · subst hj
      have hl : i < m.env.length := by
        have := (List.getElem?_eq_some_iff.mp h).1
        simpa using this
      rw [List.getElem?_set_self hl] at h
      cases h
    · rw [List.getElem?_set_ne hj] at h
      obtain ⟨a, e1, e2, c⟩ := S.ow j e h
      refine ⟨a, ?_, by rw [List.getElem?_set_ne hj]; exact e2, c.le le⟩
      show (if j = i then none else W.own j) = some a
      rw [if_neg (Ne.symm hj)]
      exact e1
  · obtain ⟨h1, h2⟩ := drop_own h
    obtain ⟨d, hd⟩ := S.owi j a h1
    exact ⟨d, by rw [List.getElem?_set_ne (Ne.symm h2)]; exact hd⟩
abbrev Wd.put (W : Wd) (i : Nat) (a : Addr) (N0 : Addr → Prop) : Wd := { W with N0 := N0, own := fun j => if j = i then some a else W.own j }
theorem put_own {i j : Nat} {a b : Addr} {N0 : Addr → Prop} (h : (W.put i a N0).own j = some b) : (j = i ∧ b = a) ∨ (W.own j = some b ∧ j ≠ i) := by
  have h' : (if j = i then some a else W.own j) = some b := h
  split at h'
  · rename_i e; cases h'; exact .inl ⟨e, rfl⟩
  · rename_i n; exact .inr ⟨h', n⟩
theorem Sit.setOw {i : Nat} {a : Addr} {d : D} {N0 : Addr → Prop} (S : Sit K mg W σ H m) (hi : i < m.env.length) (c : Cell K mg (W.ev m.obs.length) H a d) (ha : W.N0 a) (h0 : W.E0.Mx a ∨ W.H0 a = none)
    (hob : ∀ n, n < m.obs.length → W.ob n ≠ a) (h1 : ∀ b, N0 b → W.N0 b) (h2 : ¬ N0 a) : Sit K mg (W.put i a N0) (σ.set i (some (.ref a))) H { m with env := m.env.set i (.ow d) } := by
  have le : (W.ev m.obs.length).Le ((W.put i a N0).ev m.obs.length) := ⟨Nat.le_refl _, fun _ _ => rfl, fun b h => by
    rcases h with h | ⟨j, h⟩ | h
    · exact .inl (h1 b h)
    · rcases put_own h with ⟨_, rfl⟩ | ⟨h, _⟩
      · exact .inl ha
      · exact .inr (.inl ⟨j, h⟩)
    · exact .inr (.inr h)⟩
  have na : ∀ j b, W.own j = some b → b ≠ a := fun j b h e => S.o0 j b h (e ▸ ha)
  refine ⟨by simpa using S.len, ?_, fun j e h => ?_, fun j e h => ?_, fun j b h => ?_, fun j k b e1 e2 => ?_, fun n ds h => (S.ob n ds h).le le, S.obi, fun n j h e => ?_, fun b h => S.n0 b (h1 b h), fun j b h => ?_, S.tab⟩
  · have x := S.ext
    refine ⟨x.no, x.ob, fun b h => x.n2 b (le.n b h), fun b h => ?_, x.dm, x.keep0, x.tup, x.frz, x.tbl⟩
    rcases h with ⟨j, h⟩ | h
    · rcases put_own h with ⟨_, rfl⟩ | ⟨h, _⟩
      · exact h0
      · exact x.m2 b (.inl ⟨j, h⟩)
    · exact x.m2 b (.inr h)
  · by_cases hj : i = j
    · subst hj
      rw [List.getElem?_set_self hi] at h
      cases h
    · rw [List.getElem?_set_ne hj] at h
      obtain ⟨u, e1, r1⟩ := S.pl j e h
      exact ⟨u, by rw [List.getElem?_set_ne hj]; exact e1, r1.le le⟩
  · by_cases hj : i = j
    · subst hj
      rw [List.getElem?_set_self hi] at h
      cases h
      refine ⟨a, if_pos rfl, by rw [List.getElem?_set_self (by rw [S.len]; exact hi)], c.le le⟩
    · rw [List.getElem?_set_ne hj] at h
      obtain ⟨b, e1, e2, c⟩ := S.ow j e h
      refine ⟨b, ?_, by rw [List.getElem?_set_ne hj]; exact e2, c.le le⟩
      show (if j = i then some a else W.own j) = some b
      rw [if_neg (Ne.symm hj)]
      exact e1
  · rcases put_own h with ⟨rfl, _⟩ | ⟨h, n⟩
    · exact ⟨d, by rw [List.getElem?_set_self hi]⟩
    · obtain ⟨d, hd⟩ := S.owi j b h
      exact ⟨d, by rw [List.getElem?_set_ne (Ne.symm n)]; exact hd⟩
  · rcases put_own e1 with ⟨rfl, rfl⟩ | ⟨e1, n1⟩
    · rcases put_own e2 with ⟨rfl, _⟩ | ⟨e2, n2⟩
      · rfl
      · exact absurd rfl (na k b e2)
    · rcases put_own e2 with ⟨_, e2⟩ | ⟨e2, n2⟩
      · exact absurd e2 (na j b e1)
      · exact S.inj j k b e1 e2
  · rcases put_own e with ⟨_, e⟩ | ⟨e, _⟩
    · exact hob n h e
    · exact S.obo n j h e
  · rcases put_own h with ⟨_, rfl⟩ | ⟨h, _⟩
    · exact h2
    · exact fun z => S.o0 j b h (h1 b z)
theorem Sit.freeze {i : Nat} {d : D} (S : Sit K mg W σ H m) (h : m.env[i]? = some (Slot.ow d)) : Sit K mg (W.drop i) σ H { m with env := m.env.set i (.pl d) } := by
  obtain ⟨a, e1, e2, c⟩ := S.ow i d h
  have hl : i < m.env.length := (List.getElem?_eq_some_iff.mp h).1
  have le := W.drop_le i m.obs.length
  have nN : ¬ ((W.drop i).ev m.obs.length).N a := fun z => by
    rcases z with z | ⟨j, z⟩ | ⟨n, hn, z⟩
    · exact S.o0 i a e1 z
    · obtain ⟨z, n⟩ := drop_own z
      exact n (S.inj j i a z e1)
    · exact S.obo n i hn (by rw [show W.ob n = a from z]; exact e1)
  refine ⟨by simpa using S.len, S.ext.sub rfl rfl (fun a h => .inl (le.n a h)) (fun a h => .inl ?_), fun j e h => ?_, fun j e h => ?_, fun j a h => ?_, fun j k a h1 h2 => S.inj j k a (drop_own h1).1 (drop_own h2).1, fun n ds h => (S.ob n ds h).le le, S.obi, fun n j h e => S.obo n j h (drop_own e).1, S.n0, fun j a h => S.o0 j a (drop_own h).1, S.tab⟩
  · rcases h with ⟨j, h⟩ | h
    · exact .inl ⟨j, (drop_own h).1⟩
    · exact .inr h
  · by_cases hj : i = j
    · subst hj
      rw [List.getElem?_set_self hl] at h
      cases h
      exact ⟨_, e2, Cell.rep nN (c.le le)⟩
    · rw [List.getElem?_set_ne hj] at h
      obtain ⟨u, e1, r1⟩ := S.pl j e h
      exact ⟨u, e1, r1.le le⟩
  · by_cases hj : i = j
    · subst hj
      rw [List.getElem?_set_self hl] at h
      cases h
    · rw [List.getElem?_set_ne hj] at h
      obtain ⟨a, e1, e2, c⟩ := S.ow j e h
      refine ⟨a, ?_, e2, c.le le⟩
      show (if j = i then none else W.own j) = some a
      rw [if_neg (Ne.symm hj)]
      exact e1
  · obtain ⟨h1, h2⟩ := drop_own h
    obtain ⟨d, hd⟩ := S.owi j a h1
    exact ⟨d, by rw [List.getElem?_set_ne (Ne.symm h2)]; exact hd⟩
theorem Ext.upd {E : Ev} {a : Addr} {o u : HO} (ha : H a = some u) (hm : E.Mx a) (ht : ∀ xs, H a ≠ some (.tup xs)) (hf : ∀ o u, H a ≠ some (.frz o u)) (hx : ∀ P q j, TabC.T P q → TabJ H P q j → TabJ (L2.upd H a o) P q j) : Ext E H E (L2.upd H a o) :=
  ⟨Nat.le_refl _, fun _ _ => rfl, fun _ h => .inl h, fun _ h => .inl h, fun b w h => by
    by_cases e : b = a
    · exact ⟨o, by rw [e, upd_same]⟩
    · exact ⟨w, by rw [upd_ne e]; exact h⟩, fun b w n _ h => by rw [upd_ne (show b ≠ a from fun e => n (by rw [e]; exact hm))]; exact h, fun b xs h => by rw [upd_ne (show b ≠ a from fun e => ht xs (by rw [← e]; exact h))]; exact h, fun b w x h => by rw [upd_ne (show b ≠ a from fun e => hf w x (by rw [← e]; exact h))]; exact h, hx⟩
theorem Sit.updOw {i : Nat} {d d' : D} {o : HO} (S : Sit K mg W σ H m) (h : m.env[i]? = some (Slot.ow d)) {a : Addr} (ea : W.own i = some a)
    (c : Ext (W.ev m.obs.length) H (W.ev m.obs.length) (L2.upd H a o) → Cell K mg (W.ev m.obs.length) (L2.upd H a o) a d') : Ext (W.ev m.obs.length) H (W.ev m.obs.length) (L2.upd H a o) ∧ Sit K mg W σ (L2.upd H a o) { m with env := m.env.set i (.ow d') } := by
  obtain ⟨b, e1, e2, c0⟩ := S.ow i d h
  rw [ea] at e1; cases e1
  have hl : i < m.env.length := (List.getElem?_eq_some_iff.mp h).1
  obtain ⟨u, hu⟩ := c0.dom
  have x : Ext (W.ev m.obs.length) H (W.ev m.obs.length) (L2.upd H a o) := .upd hu (.inl ⟨i, ea⟩) c0.mut.1 c0.mut.2 fun P q _ _ t => tabS_upd t c0.nt c0.nc
  have keep : ∀ b w, b ≠ a → H b = some w → L2.upd H a o b = some w := fun b w n h => by rw [upd_ne n]; exact h
  refine ⟨x, by simpa using S.len, S.ext.trans x, fun j e h => ?_, fun j e h => ?_, fun j b h => ?_, S.inj, fun n ds h => ?_, S.obi, S.obo, fun b h => ?_, S.o0, fun P q h => x.tbl P q _ h (S.tab P q h)⟩
  · by_cases hj : i = j
    · subst hj
      rw [List.getElem?_set_self hl] at h
      cases h
    · rw [List.getElem?_set_ne hj] at h
      obtain ⟨v, e, r⟩ := S.pl j e h
      exact ⟨v, e, r.ext x (W.sub _)⟩
  · by_cases hj : i = j
    · subst hj
      rw [List.getElem?_set_self hl] at h
      cases h
      exact ⟨a, ea, e2, c x⟩
    · rw [List.getElem?_set_ne hj] at h
      obtain ⟨b, e1, e2, c⟩ := S.ow j e h
      refine ⟨b, e1, e2, c.ext x (W.sub _) fun w _ q => keep b w (fun e => hj ?_) q⟩
      subst e
      exact S.inj i j b ea e1
  · obtain ⟨e, he⟩ := S.owi j b h
    by_cases hj : i = j
    · subst hj
      exact ⟨d', by rw [List.getElem?_set_self hl]⟩
    · exact ⟨e, by rw [List.getElem?_set_ne hj]; exact he⟩
  · have hn : n < m.obs.length := (List.getElem?_eq_some_iff.mp h).1
    exact (S.ob n ds h).ext x (W.sub _) fun w _ q => keep _ w (fun e => S.obo n i hn (by rw [e]; exact ea)) q
  · obtain ⟨w, e⟩ := S.n0 b h
    exact x.dm b w e
theorem Sit.updOb {n : Nat} {ds ds' : List D} {vs : List V} (S : Sit K mg W σ H m) (h : m.obs[n]? = some ds) (r : RepL K mg (W.ev m.obs.length) H vs ds') :
    Ext (W.ev m.obs.length) H (W.ev m.obs.length) (L2.upd H (W.ob n) (.lst vs)) ∧ Sit K mg W σ (L2.upd H (W.ob n) (.lst vs)) { m with obs := m.obs.set n ds' } := by
  have c0 := S.ob n ds h
  have hn : n < m.obs.length := (List.getElem?_eq_some_iff.mp h).1
  obtain ⟨u, hu⟩ := c0.dom
  have x : Ext (W.ev m.obs.length) H (W.ev m.obs.length) (L2.upd H (W.ob n) (.lst vs)) := .upd hu (.inr ⟨n, hn, rfl⟩) c0.mut.1 c0.mut.2 fun P q _ _ t => tabS_upd t c0.nt c0.nc
  have keep : ∀ b w, b ≠ W.ob n → H b = some w → L2.upd H (W.ob n) (.lst vs) b = some w := fun b w n h => by rw [upd_ne n]; exact h
  have el : (m.obs.set n ds').length = m.obs.length := List.length_set
  refine ⟨x, S.len, ?_, fun j e h => ?_, fun j e h => ?_, S.owi, S.inj, fun k es h => ?_, ?_, ?_, fun b h => ?_, S.o0, fun P q h => x.tbl P q _ h (S.tab P q h)⟩
  · show Ext W.E0 W.H0 (W.ev (m.obs.set n ds').length) _
    rw [el]
    exact S.ext.trans x
  · show ∃ v, _ ∧ Rep K mg (W.ev (m.obs.set n ds').length) _ v e
    rw [el]
    obtain ⟨v, e, r⟩ := S.pl j e h
    exact ⟨v, e, r.ext x (W.sub _)⟩
  · show ∃ a, _ ∧ _ ∧ Cell K mg (W.ev (m.obs.set n ds').length) _ a e
    rw [el]
    obtain ⟨b, e1, e2, c⟩ := S.ow j e h
    exact ⟨b, e1, e2, c.ext x (W.sub _) fun w _ q => keep b w (fun e => S.obo n j hn (by rw [← e]; exact e1)) q⟩
  · show Cell K mg (W.ev (m.obs.set n ds').length) _ _ _
    rw [el]
    have h' : (m.obs.set n ds')[k]? = some es := h
    by_cases hk : n = k
    · subst hk
      rw [List.getElem?_set_self hn] at h'
      cases h'
      exact ⟨vs, upd_same, r.ext x (W.sub _)⟩
    · rw [List.getElem?_set_ne hk] at h'
      have hk2 : k < m.obs.length := (List.getElem?_eq_some_iff.mp h').1
      exact (S.ob k es h').ext x (W.sub _) fun w _ q => keep _ w (fun e => hk (S.obi n k hn hk2 e.symm)) q
  · show ∀ i k, i < (m.obs.set n ds').length → k < (m.obs.set n ds').length → _
    rw [el]
    exact S.obi
  · show ∀ i k, i < (m.obs.set n ds').length → _
    rw [el]
    exact S.obo
  · obtain ⟨w, e⟩ := S.n0 b h
    exact x.dm b w e
end
def sSeq (f g : Co Flow') : Co Flow' := Co.bind f fun fl => match fl with
  | .nx => g
  | fl => Co.ret fl
def sNext : Co Flow' := Co.ret .nx
section
variable {X : Cx} {st : Stmt} {rest : List Stmt} {f g : Co Flow'} {e c : Expr} {pos : Pos} {fe : Co D} {ft : Co Bool}
theorem rdS_seq {D : Ends} {σ : L2.St} {H : Hp} (h : rdS X.K X.mg (sSeq f g) D σ H) : rdS X.K X.mg f { D with nx := rdS X.K X.mg g D } σ H := by
  obtain ⟨W, m, S, fl, m', hf, q⟩ := h
  obtain ⟨fl1, m1, e1, e2⟩ := Co.bind_ok hf
  refine ⟨W, m, S, fl1, m1, e1, ?_⟩
  cases fl1 with
  | nx =>
    refine fun W' σ' H' la S' => ⟨W', m1, S', fl, m', e2, ?_⟩
    cases fl with
    | nx => exact fun W2 σ2 H2 l2 S2 => q W2 σ2 H2 (la.trans l2) S2
    | bk => exact fun W2 σ2 H2 l2 S2 => q W2 σ2 H2 (la.trans l2) S2
    | ct => exact fun W2 σ2 H2 l2 S2 => q W2 σ2 H2 (la.trans l2) S2
    | rt d => exact fun W2 σ2 H2 v l2 S2 r2 => q W2 σ2 H2 v (la.trans l2) S2 r2
    | rf d => exact fun W2 σ2 H2 a l2 n2 h2 S2 c2 => q W2 σ2 H2 a (la.trans l2) n2 h2 S2 c2
  | bk => cases e2; exact q
  | ct => cases e2; exact q
  | rt d => cases e2; exact q
  | rf d => cases e2; exact q
theorem ss_nil : SSs X [] sNext := PSs.imp pss_nil fun D σ H ⟨W, m, S, fl, m', hf, q⟩ => by
  cases hf
  exact q W σ H (Lat.refl W) S
theorem ss_cons (h1 : SS X st f) (h2 : SSs X rest g) : SSs X (st :: rest) (sSeq f g) := PSs.imp (pss_cons h1 h2) fun D σ H h => rdS_seq h
theorem ss_one (h1 : SS X st f) : SSs X [st] f := pss_one h1
def sIf (t : Co Bool) (f g : Co Flow') : Co Flow' := Co.bind t fun c => if c = true then f else g
theorem rdS_after {D : Ends} {σ : L2.St} {H H' : Hp} {W : Wd} {m m1 m' : M} {fl : Flow'} {ob' : Nat → Addr} (A : After X.K X.mg W σ H m ob' H' m1) (hf : f m1 = .ok fl m')
    (q : FPost X.K X.mg D W m' fl) : rdS X.K X.mg f D σ H' := ⟨_, m1, A.2, fl, m', hf, by cases fl <;> exact q⟩
theorem ss_if {a b : List Stmt} (hc : ET X c ft) (ha : SSs X a f) (hb : SSs X b g) : SS X (.If c a b pos) (sIf ft f g) := PS.imp (ps_if hc ha hb) fun D σ H ⟨W, m, S, fl, m', hf, q⟩ => by
  obtain ⟨k, m1, e1, e2⟩ := Co.bind_ok hf
  refine ⟨W, m, S, k, m1, e1, fun ob' H' A => ?_⟩
  cases k with
  | true => exact rdS_after A e2 q
  | false => exact rdS_after A e2 q
def sRet (f : Co D) : Co Flow' := Co.bind f fun d => Co.ret (.rt d)
theorem ss_ret (he : EE X e fe) : SS X (.Return (some e) pos) (sRet fe) := PS.imp (ps_ret he) fun D σ H ⟨W, m, S, fl, m', hf, q⟩ => by
  obtain ⟨d, m1, e1, e2⟩ := Co.bind_ok hf
  cases e2
  exact ⟨W, m, S, d, _, e1, fun v ob' H' A r => q { W with ob := ob' } σ H' v ⟨rfl, rfl, rfl⟩ A.2 r⟩
def sRetOw (i : Nat) : Co Flow' := fun m => match m.env[i]? with
  | some (.ow d) => .ok (.rf d) { m with env := m.env.set i .un }
  | _ => .no
def sFrz (i : Nat) (g : Co Flow') : Co Flow' := fun m => match m.env[i]? with
  | some (.ow d) => g { m with env := m.env.set i (.pl d) }
  | _ => g m
theorem rdS_frz {i : Nat} {D : Ends} {σ : L2.St} {H : Hp} (h : rdS X.K X.mg (sFrz i g) D σ H) : rdS X.K X.mg g D σ H := by
  obtain ⟨W, m, S, fl, m', hf, q⟩ := h
  unfold sFrz at hf
  split at hf
  · rename_i d he
    exact ⟨_, _, S.freeze he, fl, m', hf, by cases fl <;> exact q⟩
  · exact ⟨W, m, S, fl, m', hf, q⟩
theorem ss_frz (i : Nat) (h : SS X st g) : SS X st (sFrz i g) := PS.imp h fun D σ H h => rdS_frz h
def sExpr (f : Co D) : Co Flow' := Co.bind f fun _ => Co.ret .nx
theorem ss_expr (he : EE X e fe) (hs : swapsWith e none pos.line X.env = pure false := by rfl) : SS X (.Expr e pos) (sExpr fe) := PS.imp (ps_expr he hs) fun D σ H ⟨W, m, S, fl, m', hf, q⟩ => by
  obtain ⟨d, m1, e1, e2⟩ := Co.bind_ok hf
  cases e2
  exact ⟨W, m, S, d, _, e1, fun v ob' H' A r => q { W with ob := ob' } σ H' ⟨rfl, rfl, rfl⟩ A.2⟩
def sNo : Co Flow' := fun _ => .no
theorem ss_never : SS X st sNo := PS.imp ps_never fun D σ H ⟨W, m, S, fl, m', hf, q⟩ => nomatch hf
def sSet (i : Nat) (f : Co D) : Co Flow' := Co.bind f fun d m => .ok .nx { m with env := m.env.set i (.pl d) }
def sSetF (i : Nat) (f : Co D) : Co Flow' := Co.bind f fun d m => if i < m.env.length then .ok .nx { m with env := m.env.set i (.ow d) } else .no
theorem Sit.setF {W : Wd} {σ : L2.St} {H H' : Hp} {m m' : M} {i : Nat} {a : Addr} {d : D} {ob' : Nat → Addr} {K : PySem.W.Frag} {mg : Str → Option Value} (S : Sit K mg W σ H m) (hi : i < m'.env.length) (hn : H a = none) (nN : ¬ ({ W with ob := ob' }.ev m'.obs.length).N a) (S' : Sit K mg ({ W with ob := ob' }.add a) σ H' m')
    (c : Cell K mg (({ W with ob := ob' }.add a).ev m'.obs.length) H' a d) : Sit K mg ({ W with ob := ob' }.put i a W.N0) (σ.set i (some (.ref a))) H' { m' with env := m'.env.set i (.ow d) } :=
  S'.setOw (N0 := W.N0) hi c (.inr rfl) (.inr (S.ext.nn hn)) (fun n hl e => nN (.inr (.inr ⟨n, hl, e⟩))) (fun _ h => .inl h) fun z => nN (.inl z)
theorem ss_set {i : Nat} {x : Str} {p : Pos} (hN : X.N.Nodup) (he : EE X e fe) (hi : X.N[i]? = some x := by rfl) (hx : Loc X.env.scope x := by first | exact Or.inl rfl | exact Or.inr rfl) (hs : swapsWith e (some (.Name x p)) pos.line X.env = pure false := by rfl)
    (hf : X.fn x = true ∨ X.env.scope.names.lookup x = some .local := by first | exact .inl rfl | exact .inr rfl) : SS X (.Assign [.Name x p] e pos) (sSet i fe) := PS.imp (ps_set hN hi hx he hs hf) fun D σ H ⟨W, m, S, fl, m', hf, q⟩ => by
  obtain ⟨d, m1, e1, e2⟩ := Co.bind_ok hf
  cases e2
  exact ⟨W, m, S, d, m1, e1, fun v ob' H' A r => q (Wd.drop { W with ob := ob' } i) _ H' (by exact ⟨rfl, rfl, rfl⟩) (A.2.setPl (i := i) r)⟩
theorem ss_setF {i : Nat} {x : Str} {p : Pos} (hN : X.N.Nodup) (he : EF X e fe) (hi : X.N[i]? = some x := by rfl) (hx : Loc X.env.scope x := by first | exact Or.inl rfl | exact Or.inr rfl) (hs : swapsWith e (some (.Name x p)) pos.line X.env = pure false := by rfl)
    (hf : X.fn x = true ∨ X.env.scope.names.lookup x = some .local := by first | exact .inl rfl | exact .inr rfl) : SS X (.Assign [.Name x p] e pos) (sSetF i fe) := PS.imp (ps_set hN hi hx he hs hf) fun D σ H ⟨W, m, S, fl, m', hf, q⟩ => by
  obtain ⟨d, m1, e1, e2⟩ := Co.bind_ok hf
  split at e2
  · rename_i hl
    cases e2
    exact ⟨W, m, S, d, m1, e1, fun a ob' H' hn x nN S' c => q (Wd.put { W with ob := ob' } i a W.N0) _ H' (by exact ⟨rfl, rfl, rfl⟩) (S.setF hl hn nN S' c)⟩
  · cases e2
end
end PD
namespace PD
open PySem PySem.Spec PyProof.Rows L2
variable [TabC]
inductive RepX (K : PySem.W.Frag) (mg : Str → Option Value) (E : Ev) (H : Hp) : List Addr → List V → List (Bool × D) → Prop
  | nil : RepX K mg E H [] [] []
  | pl {F : List Addr} {v : V} {vs : List V} {d : D} {ls : List (Bool × D)} : Rep K mg E H v d → RepX K mg E H F vs ls → RepX K mg E H F (v :: vs) ((false, d) :: ls)
  | fr {F : List Addr} {a : Addr} {vs : List V} {d : D} {ls : List (Bool × D)} : Cell K mg E H a d → RepX K mg E H F vs ls → RepX K mg E H (a :: F) (.ref a :: vs) ((true, d) :: ls)
abbrev Wd.adds (W : Wd) (F : List Addr) : Wd := { W with N0 := fun b => W.N0 b ∨ b ∈ F }
def rdX (K : PySem.W.Frag) (mg : Str → Option Value) (f : Co (List (Bool × D))) : TA := fun σ H Q => ∃ W m, Sit K mg W σ H m ∧ ∃ ls m', f m = .ok ls m' ∧
  ∀ vs ob' H' F, (∀ a, a ∈ F → H a = none ∧ ¬ ({ W with ob := ob' }.ev m'.obs.length).N a) → F.Nodup → Ext (W.ev m.obs.length) H ({ W with ob := ob' }.ev m'.obs.length) H' →
    Sit K mg ({ W with ob := ob' }.adds F) σ H' m' → RepX K mg (({ W with ob := ob' }.adds F).ev m'.obs.length) H' F vs ls → Q vs H'
abbrev EX (X : Cx) (es : List Expr) (f : Co (List (Bool × D))) : Prop := PA X es (rdX X.K X.mg f)
def xNil : Co (List (Bool × D)) := Co.ret []
def xPl (f : Co D) (fs : Co (List (Bool × D))) : Co (List (Bool × D)) := Co.bind f fun d => Co.bind fs fun ds => Co.ret ((false, d) :: ds)
def xFr (f : Co D) (fs : Co (List (Bool × D))) : Co (List (Bool × D)) := Co.bind f fun d => Co.bind fs fun ds => Co.ret ((true, d) :: ds)
section
variable {K : PySem.W.Frag} {mg : Str → Option Value} {W W' : Wd} {σ : L2.St} {H H' : Hp} {m m' : M} {E E' : Ev}
theorem RepX.le (x : E.Le E') : ∀ {F : List Addr} {vs : List V} {ls : List (Bool × D)}, RepX K mg E H F vs ls → RepX K mg E' H F vs ls
  | _, _, _, .nil => .nil
  | _, _, _, .pl r t => .pl (r.le x) (RepX.le x t)
  | _, _, _, .fr r t => .fr (r.le x) (RepX.le x t)
theorem adds_nil (W : Wd) : W.adds [] = W := by
  unfold Wd.adds
  simp
theorem adds_cons (W : Wd) (a : Addr) (F : List Addr) : (W.add a).adds F = W.adds (a :: F) := by
  unfold Wd.adds Wd.add
  congr 1
  funext b
  simp [or_assoc]
end
section
variable {X : Cx} {e : Expr} {es : List Expr} {f : Co D} {fs : Co (List (Bool × D))}
theorem ex_nil : EX X [] xNil := PA.imp pa_nil fun σ H Q ⟨W, m, S, d, m', hf, q⟩ => by
  cases hf
  refine q [] W.ob H [] (fun _ h => nomatch h) .nil Ext.refl ?_ .nil
  show Sit X.K X.mg (W.adds []) σ H m
  rw [adds_nil]
  exact S
theorem ex_pl (ha : EE X e f) (hr : EX X es fs) (hs : starEach (e :: es) X.env = (false, eval e X.env) :: starEach es X.env := by rfl) : EX X (e :: es) (xPl f fs) :=
  PA.imp (pa_cons ha hr hs) fun σ H Q ⟨W, m, S, d, m', hf, q⟩ => by
    obtain ⟨d1, m1, e1, hf⟩ := Co.bind_ok hf
    obtain ⟨ds, m2, e2, hf⟩ := Co.bind_ok hf
    cases hf
    refine ⟨W, m, S, d1, m1, e1, fun v ob1 H1 A1 r1 => ⟨_, m1, A1.2, ds, _, e2, fun vs ob2 H2 F hF nd x2 S2 r2 => ?_⟩⟩
    refine q _ ob2 H2 F (fun a h => ⟨A1.1.nn (hF a h).1, (hF a h).2⟩) nd (A1.1.trans x2) S2 (.pl ?_ r2)
    have r1' := r1.ext x2 (Wd.sub _ _)
    -- the new cells are not in it
    refine Rep.le (E := { ({ W with ob := ob2 }.ev m'.obs.length) with N := (({ W with ob := ob2 }.adds F).ev m'.obs.length).N }) ⟨Nat.le_refl _, fun _ _ => rfl, fun _ h => h⟩ ?_
    have nw : Rep X.K X.mg { ({ W with ob := ob1 }.ev m1.obs.length) with N := fun b => ({ W with ob := ob1 }.ev m1.obs.length).N b ∨ b ∈ F } H1 v d1 := r1.new fun a h => h.elim .inl fun h => .inr (hF a h).1
    have x3 : Ext { ({ W with ob := ob1 }.ev m1.obs.length) with N := fun b => ({ W with ob := ob1 }.ev m1.obs.length).N b ∨ b ∈ F } H1 { ({ W with ob := ob2 }.ev m'.obs.length) with N := (({ W with ob := ob2 }.adds F).ev m'.obs.length).N } H2 := by
      refine ⟨x2.no, x2.ob, fun a h => ?_, x2.m2, x2.dm, x2.keep0, x2.tup, x2.frz, x2.tbl⟩
      rcases h with (h | h) | h
      · exact (x2.n2 a (.inl h)).elim (fun h => .inl (.inl h)) .inr
      · exact .inl (.inr h)
      · exact (x2.n2 a (.inr h)).elim (fun h => .inl (.inl h)) .inr
    exact nw.ext x3 fun a h => .inl (.inr h)
theorem ex_fr (ha : EF X e f) (hr : EX X es fs) (hs : starEach (e :: es) X.env = (false, eval e X.env) :: starEach es X.env := by rfl) : EX X (e :: es) (xFr f fs) :=
  PA.imp (pa_cons ha hr hs) fun σ H Q ⟨W, m, S, d, m', hf, q⟩ => by
    obtain ⟨d1, m1, e1, hf⟩ := Co.bind_ok hf
    obtain ⟨ds, m2, e2, hf⟩ := Co.bind_ok hf
    cases hf
    refine ⟨W, m, S, d1, m1, e1, fun a ob1 H1 hn x1 nN S1 c1 => ⟨_, m1, S1, ds, _, e2, fun vs ob2 H2 F hF nd x2 S2 r2 => ?_⟩⟩
    have S2' : Sit X.K X.mg (({ W with ob := ob2 } : Wd).adds (a :: F)) σ H2 m' := by
      rw [← adds_cons]
      exact S2
    have x2' : Ext ({ W with ob := ob1 }.ev m1.obs.length) H1 ({ W with ob := ob2 }.ev m'.obs.length) H2 := by
      refine ⟨x2.no, x2.ob, fun b h => ?_, x2.m2, x2.dm, x2.keep0, x2.tup, x2.frz, x2.tbl⟩
      by_cases e : b = a
      · subst e
        have : ∃ o, H1 b = some o := c1.dom
        rcases h with h | h
        · exact (nN (.inl h)).elim
        · rcases x2.m2 b h with h | h
          · exact .inl (.inr h)
          · obtain ⟨o, ho⟩ := this
            rw [h] at ho; cases ho
      · have h' : (({ W with ob := ob2 }.add a).ev m'.obs.length).N b := h.elim (fun h => .inl (.inl h)) .inr
        rcases x2.n2 b h' with (h | h) | h
        · rcases h with h | h
          · exact .inl (.inl h)
          · exact (e h).elim
        · exact .inl (.inr h)
        · exact .inr h
    have ca : Cell X.K X.mg ((({ W with ob := ob1 } : Wd).add a).ev m1.obs.length) H1 a d1 := c1
    have keepA : ∀ o, (∀ ps, o ≠ .tbl ps) → H1 a = some o → H2 a = some o := fun o nt h => x2.keep0 a o (fun z => nN (.inr z)) nt h
    refine q _ ob2 H2 (a :: F) (fun b h => ?_) (List.nodup_cons.mpr ⟨fun h => (hF a h).2 (.inl (.inr rfl)), nd⟩) (x1.trans x2') S2' (.fr ?_ ?_)
    · rcases List.mem_cons.mp h with rfl | h
      · refine ⟨hn, fun z => ?_⟩
        rcases z with z | z
        · exact nN (.inl z)
        · rcases x2.m2 b z with z | z
          · exact nN (.inr z)
          · obtain ⟨o, ho⟩ := c1.dom
            rw [z] at ho; cases ho
      · exact ⟨x1.nn (hF b h).1, fun z => (hF b h).2 (z.elim (fun z => .inl (.inl z)) .inr)⟩
    · have nw : Cell X.K X.mg { ((({ W with ob := ob1 } : Wd).add a).ev m1.obs.length) with N := fun b => ((({ W with ob := ob1 } : Wd).add a).ev m1.obs.length).N b ∨ b ∈ F } H1 a d1 := ca.new fun b h => h.elim .inl fun h => .inr (hF b h).1
      have x3 : Ext { ((({ W with ob := ob1 } : Wd).add a).ev m1.obs.length) with N := fun b => ((({ W with ob := ob1 } : Wd).add a).ev m1.obs.length).N b ∨ b ∈ F } H1 ((({ W with ob := ob2 } : Wd).adds (a :: F)).ev m'.obs.length) H2 := by
        refine ⟨x2.no, x2.ob, fun b h => ?_, x2.m2, x2.dm, x2.keep0, x2.tup, x2.frz, x2.tbl⟩
        rcases h with (h | h) | h
        · exact (x2.n2 b (.inl (.inl h))).elim (fun h => .inl (.inl h)) .inr
        · rcases List.mem_cons.mp h with rfl | h
          · exact .inl (.inl (.inl (.inr rfl)))
          · exact .inl (.inr h)
        · exact (x2.n2 b (.inr h)).elim (fun h => .inl (.inl h)) .inr
      exact nw.ext x3 (fun b h => .inl (.inr h)) keepA
    · show RepX X.K X.mg ((({ W with ob := ob2 } : Wd).adds (a :: F)).ev m'.obs.length) H2 F vs ds
      rw [← adds_cons]
      exact r2
end
def setEnv : List Slot → List Nat → List (Bool × D) → Option (List Slot)
  | env, [], [] => some env
  | env, i :: is, (fr, d) :: ls => if i < env.length then setEnv (env.set i (if fr = true then .ow d else .pl d)) is ls else none
  | _, _, _ => none
def setSt : L2.St → List Nat → List V → L2.St
  | σ, i :: is, v :: vs => setSt (σ.set i (some v)) is vs
  | σ, _, _ => σ
def sAsg (is : List Nat) (f : Co (List (Bool × D))) : Co Flow' := Co.bind f fun ls m => match setEnv m.env is ls with
  | some env => .ok .nx { m with env := env }
  | none => .no
section
variable {K : PySem.W.Frag} {mg : Str → Option Value} {σ : L2.St} {H H' : Hp} {m m' : M} {E E' : Ev}
theorem Wd.put_le {W : Wd} {i no : Nat} {a : Addr} {N0 : Addr → Prop} (ha : W.N0 a) (h1 : ∀ b, N0 b → W.N0 b) : (W.ev no).Le ((W.put i a N0).ev no) := ⟨Nat.le_refl _, fun _ _ => rfl, fun b h => by
  rcases h with h | ⟨j, h⟩ | h
  · exact .inl (h1 b h)
  · rcases put_own h with ⟨_, rfl⟩ | ⟨h, _⟩
    · exact .inl ha
    · exact .inr (.inl ⟨j, h⟩)
  · exact .inr (.inr h)⟩
theorem Sit.setAll {B : Addr → Prop} : ∀ {ls : List (Bool × D)} {is : List Nat} {F : List Addr} {vs : List V} {W : Wd} {σ : L2.St} {m : M} {env : List Slot}, (∀ b, W.N0 b ↔ B b ∨ b ∈ F) →
    (∀ a, a ∈ F → (W.E0.Mx a ∨ W.H0 a = none) ∧ ¬ B a ∧ ∀ n, n < m.obs.length → W.ob n ≠ a) → F.Nodup → Sit K mg W σ H m → RepX K mg (W.ev m.obs.length) H F vs ls → setEnv m.env is ls = some env →
    ∃ W' : Wd, W'.N0 = B ∧ W'.E0 = W.E0 ∧ W'.H0 = W.H0 ∧ W'.ob = W.ob ∧ (∀ j, j ∉ is → W'.own j = W.own j) ∧ Sit K mg W' (setSt σ is vs) H { m with env := env }
  | [], is, F, vs, W, σ, m, env, hB, hF, nd, S, r, h => by
    cases r
    cases is with
    | cons i is => cases h
    | nil =>
      cases h
      have e : W.N0 = B := by
        funext b
        have := hB b
        simpa using this
      exact ⟨W, e, rfl, rfl, rfl, fun _ _ => rfl, S⟩
  | (fr, d) :: ls, [], F, vs, W, σ, m, env, hB, hF, nd, S, r, h => nomatch h
  | (fr, d) :: ls, i :: is, F, vs, W, σ, m, env, hB, hF, nd, S, r, h => by
    unfold setEnv at h
    split at h
    · rename_i hi
      cases r with
      | pl r t =>
        obtain ⟨W', h1, h2, h3, h4, h5, S'⟩ := Sit.setAll (W := W.drop i) (m := { m with env := m.env.set i (.pl d) }) hB hF nd (S.setPl (i := i) r) (t.le (W.drop_le i _)) h
        refine ⟨W', h1, h2, h3, h4, fun j hj => ?_, S'⟩
        rw [h5 j (fun z => hj (List.mem_cons_of_mem _ z))]
        exact if_neg fun z => hj (by rw [z]; exact List.mem_cons_self)
      | fr c t =>
        rename_i F a vs
        obtain ⟨ha, hb⟩ := List.nodup_cons.mp nd
        obtain ⟨k1, k2, k3⟩ := hF a List.mem_cons_self
        have hN : W.N0 a := (hB a).mpr (.inr List.mem_cons_self)
        have hsub : ∀ b, (B b ∨ b ∈ F) → W.N0 b := fun b h => (hB b).mpr (h.elim .inl fun h => .inr (List.mem_cons_of_mem _ h))
        obtain ⟨W', h1, h2, h3, h4, h5, S'⟩ := Sit.setAll (W := W.put i a fun b => B b ∨ b ∈ F) (m := { m with env := m.env.set i (.ow d) }) (fun b => Iff.rfl) (fun b h => hF b (List.mem_cons_of_mem _ h)) hb
          (S.setOw hi c hN k1 k3 hsub fun z => z.elim k2 ha) (t.le (Wd.put_le hN hsub)) h
        refine ⟨W', h1, h2, h3, h4, fun j hj => ?_, S'⟩
        rw [h5 j (fun z => hj (List.mem_cons_of_mem _ z))]
        exact if_neg fun z => hj (by rw [z]; exact List.mem_cons_self)
    · cases h
end
section
variable {X : Cx} {a b c : Expr} {fs : Co (List (Bool × D))} {pos : Pos}
theorem sAsg_rd {D : Ends} {σ : L2.St} {H : Hp} {is : List Nat} (h : rdS X.K X.mg (sAsg is fs) D σ H) : rdX X.K X.mg fs σ H fun vs H1 => D.nx (setSt σ is vs) H1 := by
  obtain ⟨W, m, S, fl, m', hf, q⟩ := h
  obtain ⟨ls, m1, e1, e2⟩ := Co.bind_ok hf
  cases e3 : setEnv m1.env is ls with
  | none => rw [e3] at e2; cases e2
  | some env =>
    rw [e3] at e2
    cases e2
    refine ⟨W, m, S, ls, m1, e1, fun vs ob' H' F hF nd x S' r => ?_⟩
    obtain ⟨W', h1, h2, h3, h4, h5, S2⟩ := Sit.setAll (W := { W with ob := ob' }.adds F) (B := W.N0) (fun b => Iff.rfl) (fun a h => ⟨.inr (S.ext.nn (hF a h).1), fun z => (hF a h).2 (.inl z), fun n hn e => (hF a h).2 (.inr (.inr ⟨n, hn, e⟩))⟩) nd S' r e3
    exact q W' _ H' ⟨h1, h2, h3⟩ S2
theorem RepX_len {K : PySem.W.Frag} {mg : Str → Option Value} {E : Ev} {H : Hp} : ∀ {F : List Addr} {vs : List V} {ls : List (Bool × D)}, RepX K mg E H F vs ls → vs.length = ls.length
  | _, _, _, .nil => rfl
  | _, _, _, .pl _ t => congrArg (· + 1) (RepX_len t)
  | _, _, _, .fr _ t => congrArg (· + 1) (RepX_len t)
theorem setEnv_len : ∀ {env env' : List Slot} {is : List Nat} {ls : List (Bool × D)}, setEnv env is ls = some env' → is.length = ls.length
  | _, _, [], [], _ => rfl
  | _, _, [], _ :: _, h => nomatch h
  | _, _, _ :: _, [], h => nomatch h
  | env, env', i :: is, (fr, d) :: ls, h => by
    unfold setEnv at h
    split at h
    · rw [List.length_cons, List.length_cons, setEnv_len h]
    · cases h
theorem sAsg_rd' {D : Ends} {σ : L2.St} {H : Hp} {is : List Nat} (h : rdS X.K X.mg (sAsg is fs) D σ H) : rdX X.K X.mg fs σ H fun vs H1 => vs.length = is.length ∧ D.nx (setSt σ is vs) H1 := by
  obtain ⟨W, m, S, fl, m', hf, q⟩ := id h
  obtain ⟨ls, m1, e1, e2⟩ := Co.bind_ok hf
  cases e3 : setEnv m1.env is ls with
  | none => rw [e3] at e2; cases e2
  | some env =>
    obtain ⟨W2, m2, S2, ls2, m3, f1, q2⟩ := sAsg_rd h
    have hl := setEnv_len e3
    refine ⟨W, m, S, ls, m1, e1, fun vs ob' H' F hF nd x S' r => ⟨(RepX_len r).trans hl.symm, ?_⟩⟩
    rw [e3] at e2
    cases e2
    obtain ⟨W', h1, h2, h3, h4, h5, S2⟩ := Sit.setAll (W := { W with ob := ob' }.adds F) (B := W.N0) (fun b => Iff.rfl) (fun a h => ⟨.inr (S.ext.nn (hF a h).1), fun z => (hF a h).2 (.inl z), fun n hn e => (hF a h).2 (.inr (.inr ⟨n, hn, e⟩))⟩) nd S' r e3
    exact q W' _ H' ⟨h1, h2, h3⟩ S2
theorem ss_par {i j : Nat} {x y : Str} {px py pt : Pos} {kt k2 pt2} (hN : X.N.Nodup) (ha : EX X [a, b] fs) (hc : X.calm = true := by rfl) (hi : X.N[i]? = some x := by rfl) (hj : X.N[j]? = some y := by rfl) (hij : i ≠ j := by decide)
    (hx : X.env.scope.names.lookup x = some .local := by rfl) (hy : X.env.scope.names.lookup y = some .local := by rfl)
    (hw : swappedStores [.Tuple [.Name x px, .Name y py] kt pt] (.Tuple [a, b] k2 pt2) X.env = pure (some [x, y]) := by rfl)
    (hs : swapsWithSole [.Tuple [.Name x px, .Name y py] kt pt] (.Tuple [a, b] k2 pt2) pos.line X.env = pure false := by rfl) :
    SS X (.Assign [.Tuple [.Name x px, .Name y py] kt pt] (.Tuple [a, b] k2 pt2) pos) (sAsg [i, j] fs) := PS.imp (ps_par hc hN hi hj hij hx hy ha hw hs) fun D σ H h => by
  obtain ⟨W, m, S, ls, m', e1, q⟩ := sAsg_rd' h
  refine ⟨W, m, S, ls, m', e1, fun vs ob' H' F hF nd x S' r => ?_⟩
  obtain ⟨hl, q⟩ := q vs ob' H' F hF nd x S' r
  match vs, hl with
  | [v, w], _ => exact ⟨v, w, rfl, q⟩
theorem ss_par3 {i j l : Nat} {x y z : Str} {px py pz pt : Pos} {kt k2 pt2} (hN : X.N.Nodup) (ha : EX X [a, b, c] fs) (hc : X.calm = true := by rfl) (hi : X.N[i]? = some x := by rfl) (hj : X.N[j]? = some y := by rfl) (hl : X.N[l]? = some z := by rfl) (hij : i ≠ j := by decide) (hil : i ≠ l := by decide) (hjl : j ≠ l := by decide)
    (hx : X.env.scope.names.lookup x = some .local := by rfl) (hy : X.env.scope.names.lookup y = some .local := by rfl) (hz : X.env.scope.names.lookup z = some .local := by rfl)
    (hw : swappedStores [.Tuple [.Name x px, .Name y py, .Name z pz] kt pt] (.Tuple [a, b, c] k2 pt2) X.env = pure (some [x, y, z]) := by rfl)
    (hs : swapsWithSole [.Tuple [.Name x px, .Name y py, .Name z pz] kt pt] (.Tuple [a, b, c] k2 pt2) pos.line X.env = pure false := by rfl) :
    SS X (.Assign [.Tuple [.Name x px, .Name y py, .Name z pz] kt pt] (.Tuple [a, b, c] k2 pt2) pos) (sAsg [i, j, l] fs) := PS.imp (ps_par3 hc hN hi hj hl hij hil hjl hx hy hz ha hw hs) fun D σ H h => by
  obtain ⟨W, m, S, ls, m', e1, q⟩ := sAsg_rd' h
  refine ⟨W, m, S, ls, m', e1, fun vs ob' H' F hF nd x S' r => ?_⟩
  obtain ⟨hl, q⟩ := q vs ob' H' F hF nd x S' r
  match vs, hl with
  | [v, w, u], _ => exact ⟨v, w, u, rfl, q⟩
end
def gNames : List Nat → TGs
  | [] => gNil
  | i :: is => gCons (gName i) (gNames is)
theorem gNames_rd : ∀ {is : List Nat} {vs : List V} {σ : L2.St} {H : Hp} {Q : L2.St → Hp → Prop}, vs.length = is.length → Q (setSt σ is vs) H → gNames is vs σ H Q
  | [], [], σ, H, Q, _, q => ⟨rfl, q⟩
  | i :: is, v :: vs, σ, H, Q, hl, q => ⟨v, vs, rfl, gNames_rd (by simpa using hl) q⟩
section
variable {X : Cx} {es ts : List Expr} {fs : Co (List (Bool × D))} {pos : Pos}
theorem pgn_nil : PGs X [] (gNames []) := pgs_nil
theorem pgn_cons {i : Nat} {is : List Nat} {x : Str} {p : Pos} (hN : X.N.Nodup) (h2 : PGs X ts (gNames is)) (hi : X.N[i]? = some x := by rfl) (hx : Loc X.env.scope x := by first | exact Or.inl rfl | exact Or.inr rfl)
    (hf : X.fn x = true ∨ X.env.scope.names.lookup x = some .local := by first | exact .inl rfl | exact .inr rfl)
    (hs : (assignEach (.Name x p :: ts) X.env).map (·.2) = assign (.Name x p) X.env :: (assignEach ts X.env).map (·.2) := by rfl) : PGs X (.Name x p :: ts) (gNames (i :: is)) := pgs_cons (pg_name hN hi hx hf) h2 hs
theorem ss_asgT {is : List Nat} {k x1 : Nat} {tp ep : Pos} (ha : EX X es fs) (hg : PGs X ts (gNames is)) (hz : is.length ≤ 100 := by decide) (hc : X.calm = true := by rfl) (hn : (assignEach ts X.env).length = is.length := by rfl) (hst : (assignEach ts X.env).findIdx? (·.1) = none := by rfl)
    (hs : swapsWithSole [.Tuple ts k tp] (.Tuple es x1 ep) pos.line X.env = pure false := by rfl) (hw : swappedStores [.Tuple ts k tp] (.Tuple es x1 ep) X.env = pure none := by rfl)
    (h1 : (assignEach [.Tuple ts k tp] X.env).map (·.2) = [assign (.Tuple ts k tp) X.env] := by rfl) : SS X (.Assign [.Tuple ts k tp] (.Tuple es x1 ep) pos) (sAsg is fs) :=
  PS.imp (ps_asg (pe_tup ha) (pg_tup hc hg hn hst) hs hw h1) fun D σ H h => by
    obtain ⟨W, m, S, fl, m', hf, q⟩ := h
    obtain ⟨ls, m1, e1, e2⟩ := Co.bind_ok hf
    cases e3 : setEnv m1.env is ls with
    | none => rw [e3] at e2; cases e2
    | some env =>
      rw [e3] at e2
      cases e2
      refine ⟨W, m, S, ls, m1, e1, fun vs ob' H' F hF nd x S' r => ?_⟩
      have hl : vs.length = is.length := (RepX_len r).trans (setEnv_len e3).symm
      refine ⟨by rw [hl, sizeLine_eq]; omega, fun p hp => ?_⟩
      have sm := same_new hp (.tup vs)
      refine ⟨p, vs, rfl, SqT.of upd_same, hl, gNames_rd hl ?_⟩
      have up : ∀ {G : List Addr} {ws : List V} {ks : List (Bool × PD.D)}, RepX X.K X.mg (({ W with ob := ob' }.adds F).ev m1.obs.length) H' G ws ks → RepX X.K X.mg (({ W with ob := ob' }.adds F).ev m1.obs.length) (upd H' p (.tup vs)) G ws ks := by
        intro G ws ks h
        induction h with
        | nil => exact .nil
        | pl r t ih => exact .pl (r.up sm) ih
        | fr c t ih => exact .fr (c.up sm) ih
      obtain ⟨W', h1, h2, h3, h4, h5, S2⟩ := Sit.setAll (W := { W with ob := ob' }.adds F) (B := W.N0) (fun b => Iff.rfl) (fun a h => ⟨.inr (S.ext.nn (hF a h).1), fun z => (hF a h).2 (.inl z), fun n hn e => (hF a h).2 (.inr (.inr ⟨n, hn, e⟩))⟩) nd (S'.same sm) (up r) e3
      exact q W' _ _ ⟨h1, h2, h3⟩ S2
def sUnp (is : List Nat) (f : Co D) : Co Flow' := Co.bind f fun d m => match d with
  | .tup ds => match setEnv m.env is (ds.map fun d => (false, d)) with
    | some env => .ok .nx { m with env := env }
    | none => .no
  | .xt ds => match setEnv m.env is (ds.map fun d => (false, d)) with
    | some env => .ok .nx { m with env := env }
    | none => .no
  | _ => .no
theorem RepL.x {K : PySem.W.Frag} {mg : Str → Option Value} {E : Ev} {H : Hp} : ∀ {vs : List V} {ds : List D}, RepL K mg E H vs ds → RepX K mg E H [] vs (ds.map fun d => (false, d))
  | _, _, .nil => .nil
  | _, _, .cons r t => .pl r (RepL.x t)
end
end PD
namespace PD
open PySem PySem.Spec PyProof.Rows L2
variable [TabC]
def updO (o : Opd) (h : List D → Option (List D)) : Co Unit := fun m => match o with
  | .slot i => match m.env[i]? with
    | some (.ow (.lst ds)) => match h ds with
      | some ds' => .ok () { m with env := m.env.set i (.ow (.lst ds')) }
      | none => .no
    | _ => .no
  | .val (.obj n) => match m.obs[n]? with
    | some ds => match h ds with
      | some ds' => .ok () { m with obs := m.obs.set n ds' }
      | none => .no
    | none => .no
  | _ => .no
section
variable {K : PySem.W.Frag} {mg : Str → Option Value} {W : Wd} {σ : L2.St} {H : Hp} {m m' : M}
theorem updO_sit {o : Opd} {h : List D → Option (List D)} {v : V} (S : Sit K mg W σ H m) (r : RepO K mg W σ H m v o) (e : updO o h m = .ok () m') :
    ∃ a ds ds' vs, v = .ref a ∧ H a = some (.lst vs) ∧ RepL K mg (W.ev m.obs.length) H vs ds ∧ h ds = some ds' ∧ o.get m = some (.lst ds) ∧ m'.obs.length = m.obs.length ∧
      ∀ vs', RepL K mg (W.ev m.obs.length) H vs' ds' → Ext (W.ev m.obs.length) H (W.ev m.obs.length) (upd H a (.lst vs')) ∧ Sit K mg W σ (upd H a (.lst vs')) m' := by
  cases o with
  | slot i =>
    obtain ⟨a, ea, rfl⟩ := r
    have ea' : W.own i = some a := ea
    unfold updO at e
    simp only at e
    split at e
    · rename_i ds he
      cases e2 : h ds with
      | none => rw [e2] at e; cases e
      | some ds' =>
        rw [e2] at e
        cases e
        obtain ⟨b, eb, _, vs, hb, rv⟩ := S.ow i _ he
        rw [ea'] at eb; cases eb
        refine ⟨a, ds, ds', vs, rfl, hb, rv, e2, ?_, rfl, fun vs' r' => ?_⟩
        · show (match m.env[i]? with | some (.ow d) => some d | _ => none) = _
          rw [he]
        · exact S.updOw he ea' fun x => ⟨vs', upd_same, r'.ext x (W.sub _)⟩
    · cases e
  | val d =>
    cases d <;> first
      | (cases e; done)
      | skip
    rename_i n
    have r' : Rep K mg (W.ev m.obs.length) H v (.obj n) := r
    cases r' with
    | obj _ hn =>
      unfold updO at e
      simp only at e
      have en : m.obs[n]? = some m.obs[n] := List.getElem?_eq_getElem hn
      rw [en] at e
      simp only at e
      cases e2 : h m.obs[n] with
      | none => rw [e2] at e; cases e
      | some ds' =>
        rw [e2] at e
        cases e
        obtain ⟨vs, hv, rv⟩ := S.ob n _ en
        refine ⟨_, _, ds', vs, rfl, hv, rv, e2, ?_, List.length_set, fun vs' r' => S.updOb en r'⟩
        show (m.obs[n]?).map D.lst = _
        rw [en]
        rfl
end
section
variable {X : Cx} {a b c e : Expr} {f fe fi : Co D} {g : Co Opd} {pos ap cp : Pos} {x : Str}
def isLst (g : Co Opd) : Co Opd := Co.bind g fun o m => match o.get m with
  | some (.lst _) => .ok o m
  | _ => .no
theorem isLst_ok {m m' : M} {o : Opd} (h : isLst g m = .ok o m') : ∃ ds, g m = .ok o m' ∧ o.get m' = some (.lst ds) := by
  obtain ⟨o1, m1, e1, h⟩ := Co.bind_ok h
  split at h
  · rename_i ds e
    cases h
    exact ⟨ds, e1, e⟩
  · cases h
def eAppend (g : Co Opd) (f : Co D) : Co D := Co.bind (isLst g) fun o => Co.bind f fun d => Co.bind (updO o fun ds => if ds.length < sizeLine then some (ds ++ [d]) else none) fun _ => Co.ret .non
theorem tyV_lst {K : PySem.W.Frag} {H : Hp} {a : Addr} {vs : List V} (h : H a = some (.lst vs)) : tyV K "list" (.ref a) H := Or.inl ⟨rfl, _, Or.inl (Or.inl h)⟩
theorem ee_append (hg : EB X a g) (he : EE X e f)
    (hx : ∀ {r : V → List V → Hp → VK → Prop} {to : TE} {t : TA}, MtR X "list.append" r → PE X a to → PA X [e] t → PE X (.Call (.Attribute a "append" ap) [e] [] cp) (tBM X.K "list" r to t) := by exact fun hm ho ha => pe_bm PySem.F.plainAttrs_list PySem.F.slot_list_append PySem.F.type_list_append hm ho ha)
    (hs : starEach (e :: []) X.env = (false, eval e X.env) :: starEach [] X.env := by rfl) :
    EE X (.Call (.Attribute a "append" ap) [e] [] cp) (eAppend g f) := PE.imp (hx mt_append hg (pa_cons he pa_nil hs)) fun σ H Q ⟨W, m, S, d, m', hf, q⟩ => by
  obtain ⟨o, m1, e1, hf⟩ := Co.bind_ok hf
  obtain ⟨d1, m2, e2, hf⟩ := Co.bind_ok hf
  obtain ⟨_, m3, e3, hf⟩ := Co.bind_ok hf
  cases hf
  obtain ⟨ds0, e1, e1'⟩ := isLst_ok e1
  refine ⟨W, m, S, o, m1, e1, fun v ob1 H1 A1 r1 => ?_⟩
  obtain ⟨a0, vs0, rfl, hv0, _⟩ := (r1.view A1.2 e1').lst
  refine ⟨tyV_lst hv0, _, m1, A1.2, d1, m2, e2, fun w ob2 H2 A2 r2 => ?_⟩
  obtain ⟨a1, ds, ds', vs, ev, hv, rv, hh, _, hl, upd⟩ := updO_sit A2.2 (A2.repO r1) e3
  cases ev
  split at hh
  · rename_i hz
    cases hh
    obtain ⟨x, S3⟩ := upd (vs ++ [w]) (rv.append (.cons r2 .nil))
    refine ⟨a0, vs, w, rfl, rfl, hv, by rw [rv.length]; exact hz, ?_⟩
    have A3 : After X.K X.mg { W with ob := ob2 } σ H2 m2 ob2 (L2.upd H2 a0 (.lst (vs ++ [w]))) m' := ⟨by rw [hl]; exact x, S3⟩
    exact q _ ob2 _ ((A1.trans A2).trans A3) .non
  · cases hh
def CIx (i : Int) : Prop := -(2 ^ 63) ≤ i ∧ i < 2 ^ 63
instance {i : Int} : Decidable (CIx i) := inferInstanceAs (Decidable (_ ∧ _))
def ePopAt (g : Co Opd) (f : Co D) : Co D := Co.bind (isLst g) fun o => Co.bind f fun k m => match k with
  | .int i => if CIx i then match o.get m with
    | some (.lst ds) => match seqIndex? i ds.length with
      | some j => match ds[j]? with
        | some d => match updO o (fun ds => some (ds.eraseIdx j)) m with
          | .ok _ m' => .ok d m'
          | .no => .no
        | none => .no
      | none => .no
    | _ => .no
    else .no
  | _ => .no
theorem ee_popAt (hg : EB X a g) (he : EE X e f)
    (hx : ∀ {r : V → List V → Hp → VK → Prop} {to : TE} {t : TA}, MtR X "list.pop" r → PE X a to → PA X [e] t → PE X (.Call (.Attribute a "pop" ap) [e] [] cp) (tBM X.K "list" r to t) := by exact fun hm ho ha => pe_bm PySem.F.plainAttrs_list PySem.F.slot_list_pop PySem.F.type_list_pop hm ho ha)
    (hs : starEach (e :: []) X.env = (false, eval e X.env) :: starEach [] X.env := by rfl) :
    EE X (.Call (.Attribute a "pop" ap) [e] [] cp) (ePopAt g f) := PE.imp (hx mt_popAt hg (pa_cons he pa_nil hs)) fun σ H Q ⟨W, m, S, d, m', hf, q⟩ => by
  obtain ⟨o, m1, e1, hf⟩ := Co.bind_ok hf
  obtain ⟨k, m2, e2, hf⟩ := Co.bind_ok hf
  obtain ⟨ds0, e1, e1'⟩ := isLst_ok e1
  cases k <;> first
    | (cases hf; done)
    | skip
  rename_i i
  simp only at hf
  by_cases hi : CIx i
  · rw [if_pos hi] at hf
    split at hf
    · rename_i ds eg
      cases e3 : seqIndex? i ds.length with
      | none => rw [e3] at hf; cases hf
      | some j =>
        rw [e3] at hf
        simp only at hf
        cases e4 : ds[j]? with
        | none => rw [e4] at hf; cases hf
        | some d0 =>
          rw [e4] at hf
          simp only at hf
          cases e5 : updO o (fun ds => some (ds.eraseIdx j)) m2 with
          | no => rw [e5] at hf; cases hf
          | ok u m3 =>
            rw [e5] at hf
            cases hf
            refine ⟨W, m, S, o, m1, e1, fun v ob1 H1 A1 r1 => ?_⟩
            obtain ⟨a0, vs0, rfl, hv0, _⟩ := (r1.view A1.2 e1').lst
            refine ⟨tyV_lst hv0, _, m1, A1.2, _, m2, e2, fun w ob2 H2 A2 r2 => ?_⟩
            cases r2
            obtain ⟨a1, es, ds', vs, ev, hv, rv, hh, hg2, hl, upd⟩ := updO_sit A2.2 (A2.repO r1) e5
            cases ev
            rw [eg] at hg2
            cases hg2
            cases hh
            obtain ⟨x, S3⟩ := upd (vs.eraseIdx j) (rv.eraseIdx j)
            obtain ⟨w, hw, rw'⟩ := rv.get' e4
            refine ⟨a0, vs, i, j, w, rfl, rfl, hv, hi.1, hi.2, by rw [rv.length]; exact e3, hw, ?_⟩
            have A3 : After X.K X.mg { W with ob := ob2 } σ H2 m2 ob2 (L2.upd H2 a0 (.lst (vs.eraseIdx j))) m' := ⟨by rw [hl]; exact x, S3⟩
            exact q _ ob2 _ ((A1.trans A2).trans A3) (A3.rep rw')
    · cases hf
  · rw [if_neg hi] at hf; cases hf
def sLSet (g : Co Opd) (fi fe : Co D) : Co Flow' := Co.bind fe fun d => Co.bind g fun o => Co.bind fi fun k => match k with
  | .int i => Co.bind (updO o fun ds => (ixN ds.length i).map fun j => ds.set j d) fun _ => Co.ret .nx
  | _ => fun _ => .no
theorem ss_lset {tp : Pos} (he : EE X e fe) (hg : EB X a g) (hi : EE X b fi)
    (hp : ∀ {to ti : TE} {t : TSet}, PE X a to → PE X b ti → PSet X t → PG X (.Subscript a b tp) (gSub to ti t) := by exact fun ho hi hs => pg_sub ho hi hs)
    (hs : swapsWithSole [.Subscript a b tp] e pos.line X.env = pure false := by rfl) (hw : swappedStores [.Subscript a b tp] e X.env = pure none := by rfl)
    (h1 : (assignEach [.Subscript a b tp] X.env).map (·.2) = [assign (.Subscript a b tp) X.env] := by rfl) : SS X (.Assign [.Subscript a b tp] e pos) (sLSet g fi fe) :=
  PS.imp (ps_asg he (hp hg hi set_list) hs hw h1) fun D σ H ⟨W, m, S, fl, m', hf, q⟩ => by
    obtain ⟨d, m1, e1, hf⟩ := Co.bind_ok hf
    obtain ⟨o, m2, e2, hf⟩ := Co.bind_ok hf
    obtain ⟨k, m3, e3, hf⟩ := Co.bind_ok hf
    cases k <;> first
      | (cases hf; done)
      | skip
    obtain ⟨_, m4, e4, hf⟩ := Co.bind_ok hf
    cases hf
    refine ⟨W, m, S, d, m1, e1, fun v ob1 H1 A1 r1 => ?_⟩
    refine ⟨_, m1, A1.2, o, m2, e2, fun w ob2 H2 A2 r2 => ?_⟩
    refine ⟨_, m2, A2.2, _, m3, e3, fun u ob3 H3 A3 r3 => ?_⟩
    cases r3
    obtain ⟨a1, ds, ds', vs, rfl, hv, rv, hh, _, hl, upd⟩ := updO_sit A3.2 (A3.repO r2) e4
    obtain ⟨j, hj, e5⟩ := Option.map_eq_some_iff.mp hh
    subst e5
    have rd := A3.rep (A2.rep r1)
    obtain ⟨x, S4⟩ := upd (vs.set j v) (rv.set rd j)
    exact ⟨a1, vs, _, j, rfl, rfl, hv, by rw [rv.length]; exact hj, q { W with ob := ob3 } σ _ ⟨rfl, rfl, rfl⟩ S4⟩
theorem get_list : PGet X (fun o i H Q => ∃ p xs k y, o = .ref p ∧ i = .int k ∧ H p = some (.lst xs) ∧ 0 ≤ k ∧ k < 2 ^ 63 ∧ xs[k.toNat]? = some y ∧ Q y H) := by
  intro pins s σ H o i ov iv Q I ro ri h
  obtain ⟨p, xs, k, y, rfl, rfl, hp, h0, h1, hy, q⟩ := h
  cases ro
  obtain ⟨t, rfl⟩ := ri
  obtain ⟨its, r, pl, hz⟩ := I.list (SqL.of hp)
  obtain ⟨w, ew, rw'⟩ := r.get hy
  exact wpAny_getItem_list pl.isList h0 h1 (by simpa using ew) ⟨y, H, I, rw', q⟩
def sLAug (op : Int → Int → Int) (g : Co Opd) (fi fe : Co D) : Co Flow' := Co.bind g fun o => Co.bind fi fun k => match k with
  | .int i => fun m => if 0 ≤ i ∧ i < 2 ^ 63 then match o.get m with
    | some (.lst ds) => match ds[i.toNat]? with
      | some (.int u) => (Co.bind fe fun d => match d with
        | .int w => Co.bind (updO o fun ds => if i.toNat < ds.length then some (ds.set i.toNat (.int (op u w))) else none) fun _ => Co.ret .nx
        | _ => fun _ => .no) m
      | _ => .no
    | _ => .no
    else .no
  | _ => fun _ => .no
theorem ss_laug {op : Operator} {f2 : Int → Int → Int} {tp : Pos} (hop : PIp X op (ipI f2)) (hg : EB X a g) (hi : EE X b fi) (he : EE X e fe)
    (ha : ∀ ov iv new, augStore b ov iv new = (do holding [new, ov, iv] (setItem ov iv new); release [new, ov, iv] []; pure .next) := by intros; rfl) :
    SS X (.AugAssign (.Subscript a b tp) op e pos) (sLAug f2 g fi fe) := PS.imp (ps_augS hg hi get_list he hop set_list ha) fun D σ H ⟨W, m, S, fl, m', hf, q⟩ => by
  obtain ⟨o, m1, e1, hf⟩ := Co.bind_ok hf
  obtain ⟨k, m2, e2, hf⟩ := Co.bind_ok hf
  cases k <;> first
    | (cases hf; done)
    | skip
  rename_i i
  simp only at hf
  by_cases hi : 0 ≤ i ∧ i < 2 ^ 63
  · rw [if_pos hi] at hf
    split at hf
    · rename_i ds eg
      split at hf
      · rename_i u eu
        obtain ⟨d, m3, e3, hf⟩ := Co.bind_ok hf
        cases d <;> first
          | (cases hf; done)
          | skip
        obtain ⟨_, m4, e4, hf⟩ := Co.bind_ok hf
        cases hf
        refine ⟨W, m, S, o, m1, e1, fun v ob1 H1 A1 r1 => ?_⟩
        refine ⟨_, m1, A1.2, _, m2, e2, fun w ob2 H2 A2 r2 => ?_⟩
        cases r2
        obtain ⟨a0, vs0, ev0, hv0, rv0⟩ := ((A2.repO r1).view A2.2 eg).lst
        obtain ⟨y, hy, ry⟩ := rv0.get' eu
        cases ry
        refine ⟨a0, vs0, i, _, ev0, rfl, hv0, hi.1, hi.2, hy, ?_⟩
        refine ⟨_, m2, A2.2, _, m3, e3, fun z ob3 H3 A3 r3 => ?_⟩
        cases r3
        refine ⟨_, _, rfl, rfl, ?_⟩
        obtain ⟨a1, es, ds', vs, ev, hv, rv, hh, _, hl, upd⟩ := updO_sit A3.2 (A3.repO (A2.repO r1)) e4
        split at hh
        · rename_i hlt
          cases hh
          obtain ⟨x, S4⟩ := upd (vs.set i.toNat (.int _)) (rv.set (.int _) i.toNat)
          refine ⟨a1, vs, i, i.toNat, ev, rfl, hv, ?_, q { W with ob := ob3 } σ _ ⟨rfl, rfl, rfl⟩ S4⟩
          unfold ixN
          rw [rv.length, if_pos hi.1, if_pos (by omega)]
        · cases hh
      · cases hf
    · cases hf
  · rw [if_neg hi] at hf; cases hf
end
end PD
namespace PD
open PySem PySem.Spec PyProof.Rows L2
variable [TabC]
abbrev Wd.base (W : Wd) (no : Nat) (H : Hp) : Wd := { W with E0 := W.ev no, H0 := H }
section
variable {K : PySem.W.Frag} {mg : Str → Option Value} {W W1 : Wd} {σ σ0 : L2.St} {H H0 : Hp} {m m0 m' : M} {D : Ends} {fl : Flow'}
theorem Sit.rebase (S : Sit K mg W σ H m) : Sit K mg (W.base m.obs.length H) σ H m := ⟨S.len, .refl, S.pl, S.ow, S.owi, S.inj, S.ob, S.obi, S.obo, S.n0, S.o0, S.tab⟩
theorem Sit.back (S0 : Sit K mg W σ0 H0 m0) (S : Sit K mg W1 σ H m) (e : W1.E0 = W.ev m0.obs.length) (h : W1.H0 = H0) : Sit K mg { W1 with E0 := W.E0, H0 := W.H0 } σ H m :=
  ⟨S.len, S0.ext.trans (by rw [← e, ← h]; exact S.ext), S.pl, S.ow, S.owi, S.inj, S.ob, S.obi, S.obo, S.n0, S.o0, S.tab⟩
theorem FPost.base (S0 : Sit K mg W σ0 H0 m0) (q : FPost K mg D W m' fl) : FPost K mg D (W.base m0.obs.length H0) m' fl := by
  cases fl with
  | nx => exact fun W' σ' H' l S => q { W' with E0 := W.E0, H0 := W.H0 } σ' H' ⟨l.1, rfl, rfl⟩ (S0.back S l.2.1 l.2.2)
  | bk => exact fun W' σ' H' l S => q { W' with E0 := W.E0, H0 := W.H0 } σ' H' ⟨l.1, rfl, rfl⟩ (S0.back S l.2.1 l.2.2)
  | ct => exact fun W' σ' H' l S => q { W' with E0 := W.E0, H0 := W.H0 } σ' H' ⟨l.1, rfl, rfl⟩ (S0.back S l.2.1 l.2.2)
  | rt d => exact fun W' σ' H' v l S r => q { W' with E0 := W.E0, H0 := W.H0 } σ' H' v ⟨l.1, rfl, rfl⟩ (S0.back S l.2.1 l.2.2) r
  | rf d =>
    intro W' σ' H' a l n z S c
    refine q { W' with E0 := W.E0, H0 := W.H0 } σ' H' a ⟨l.1, rfl, rfl⟩ n ?_ (S0.back S l.2.1 l.2.2) c
    rw [l.2.1, l.2.2] at z
    rcases z with z | z
    · exact S0.ext.m2 a z
    · exact .inr (S0.ext.nn z)
end
def setTg (t : Bool) (is : List Nat) (d : D) (env : List Slot) : Option (List Slot) := match t with
  | false => setEnv env is [(false, d)]
  | true => match d with
    | .tup ds => setEnv env is (ds.map fun d => (false, d))
    | .xt ds => setEnv env is (ds.map fun d => (false, d))
    | _ => none
def gD (K : PySem.W.Frag) (mg : Str → Option Value) (t : Bool) (is : List Nat) : TG := fun v σ H Q => ∃ W m d env, Sit K mg W σ H m ∧ Rep K mg (W.ev m.obs.length) H v d ∧ setTg t is d m.env = some env ∧
  ∀ W' vs, Lat W W' → W'.ob = W.ob → (∀ j, j ∉ is → W'.own j = W.own j) → Sit K mg W' (setSt σ is vs) H { m with env := env } → Q (setSt σ is vs) H
abbrev GG (X : Cx) (tg : Expr) (t : Bool) (is : List Nat) : Prop := PG X tg (gD X.K X.mg t is)
section
variable {X : Cx} {tg : Expr} {g g' : TG} {pos : Pos} {ts : List Expr}
theorem PG.imp (h : PG X tg g) (f : ∀ v σ H Q, g' v σ H Q → g v σ H Q) : PG X tg g' := ⟨fun pins s σ H v u Q I r q => h.run pins s σ H v u Q I r (f v σ H Q q)⟩
theorem gg_name {i : Nat} {x : Str} (hN : X.N.Nodup) (hi : X.N[i]? = some x := by rfl) (hx : Loc X.env.scope x := by first | exact Or.inl rfl | exact Or.inr rfl)
    (hf : X.fn x = true ∨ X.env.scope.names.lookup x = some .local := by first | exact .inl rfl | exact .inr rfl) : GG X (.Name x pos) false [i] :=
  PG.imp (pg_name hN hi hx hf) fun v σ H Q ⟨W, m, d, env, S, r, e, q⟩ => by
    obtain ⟨W', h1, h2, h3, h4, h5, S2⟩ := Sit.setAll (B := W.N0) (F := []) (fun b => by simp) (fun a h => nomatch h) .nil S (.pl r .nil) e
    exact q W' [v] ⟨h1, h2, h3⟩ h4 h5 S2
theorem gg_tup {is : List Nat} {k : Nat} (hg : PGs X ts (gNames is)) (hc : X.calm = true := by rfl) (hn : (assignEach ts X.env).length = is.length := by rfl) (hst : (assignEach ts X.env).findIdx? (·.1) = none := by rfl) : GG X (.Tuple ts k pos) true is :=
  PG.imp (pg_tup hc hg hn hst) fun v σ H Q ⟨W, m, d, env, S, r, e, q⟩ => by
    cases d <;> first
      | (cases e; done)
      | skip
    all_goals
      rename_i ds
      have e3 : setEnv m.env is (ds.map fun d => (false, d)) = some env := e
      have hsq : ∃ a vs, v = .ref a ∧ SqT X.K H a vs ∧ RepL X.K X.mg (W.ev m.obs.length) H vs ds := by
        first
        | (cases r with | tup h r => exact ⟨_, _, rfl, SqT.of h, r⟩)
        | (cases r with | xt h _ r => exact ⟨_, _, rfl, .inl (.inr ⟨_, h⟩), r⟩)
      obtain ⟨a, vs, rfl, h, r⟩ := hsq
      have hl : _ = is.length := (RepX_len (RepL.x r)).trans (setEnv_len e3).symm
      refine ⟨_, _, rfl, h, hl, gNames_rd hl ?_⟩
      obtain ⟨W', h1, h2, h3, h4, h5, S2⟩ := Sit.setAll (B := W.N0) (F := []) (fun b => by simp) (fun a h => nomatch h) .nil S (RepL.x r) e3
      exact q W' _ ⟨h1, h2, h3⟩ h4 h5 S2
end
structure ItD (K : PySem.W.Frag) (mg : Str → Option Value) (E0 : Ev) (H0 : Hp) (J : It) (ds : List D) : Prop where
  ex : ∃ Y, Walk J ds.length (fun H => ∃ E, Ext E0 H0 E H) Y ∧ ∀ i E H x H', Ext E0 H0 E H → Y i H x H' → Same H H' ∧ ∀ d, ds[i]? = some d → Rep K mg E H' x d
def rdI (K : PySem.W.Frag) (mg : Str → Option Value) (f : Co (List D)) : TI := fun σ H R => ∃ W m, Sit K mg W σ H m ∧ ∃ ds m', f m = .ok ds m' ∧
  ∀ J ob' H', After K mg W σ H m ob' H' m' → (∀ M' : Addr → Prop, (∀ a, M' a → ({ W with ob := ob' }.ev m'.obs.length).N a) → ItD K mg { ({ W with ob := ob' }.ev m'.obs.length) with Mx := M' } H' J ds) → R J H'
abbrev EI (X : Cx) (tg e : Expr) (f : Co (List D)) : Prop := PI X tg e (rdI X.K X.mg f)
section
variable {K : PySem.W.Frag} {mg : Str → Option Value} {E0 : Ev} {H0 : Hp} {J : It} {ds : List D}
theorem ItD.of {G : Hp → Prop} {Y : Nat → Hp → V → Hp → Prop} {n : Nat} (w : Walk J n G Y) (hn : n = ds.length) (hG : ∀ E H, Ext E0 H0 E H → G H)
    (hY : ∀ i E H x H', Ext E0 H0 E H → Y i H x H' → Same H H' ∧ ∀ d, ds[i]? = some d → Rep K mg E H' x d) : ItD K mg E0 H0 J ds :=
  ⟨Y, by rw [← hn]; exact w.mono (fun H ⟨E, x⟩ => hG E H x) fun _ _ _ _ _ _ y => y, hY⟩
theorem Same.refl (H : Hp) : Same H H := fun _ _ h => h
theorem ItD.lst {a : Addr} {vs : List V} (sb : E0.Sub) (h : ∀ E H, Ext E0 H0 E H → SqL K H a vs) (r : RepL K mg E0 H0 vs ds) : ItD K mg E0 H0 (Itl K a) ds :=
  .of walk_list r.length h fun i E H x H' e y => by
    obtain ⟨rfl, y⟩ := y
    refine ⟨Same.refl _, fun d hd => ?_⟩
    obtain ⟨v, hv, rv⟩ := r.get' hd
    rw [y] at hv; cases hv
    exact rv.ext e sb
theorem ItD.tup {a : Addr} {vs : List V} (sb : E0.Sub) (h : ∀ E H, Ext E0 H0 E H → SqT K H a vs) (r : RepL K mg E0 H0 vs ds) : ItD K mg E0 H0 (Itt K a) ds :=
  .of walk_tup r.length h fun i E H x H' e y => by
    obtain ⟨rfl, y⟩ := y
    refine ⟨Same.refl _, fun d hd => ?_⟩
    obtain ⟨v, hv, rv⟩ := r.get' hd
    rw [y] at hv; cases hv
    exact rv.ext e sb
def rgD (lo hi : Int) : List D := (List.range (hi - lo).toNat).map fun (i : Nat) => D.int (lo + i)
theorem ItD.rg {lo hi : Int} : ItD K mg E0 H0 (Itr lo (hi - lo).toNat) (rgD lo hi) :=
  .of walk_range (by simp [rgD]) (fun _ _ _ => trivial) fun i E H x H' e y => by
    obtain ⟨rfl, rfl⟩ := y
    refine ⟨Same.refl _, fun d hd => ?_⟩
    unfold rgD at hd
    rw [List.getElem?_map] at hd
    obtain ⟨j, hj, rfl⟩ := Option.map_eq_some_iff.mp hd
    rw [List.getElem?_range (by
      rcases Nat.lt_or_ge i (hi - lo).toNat with z | z
      · exact z
      · rw [List.getElem?_eq_none (by simpa using z)] at hj; cases hj)] at hj
    cases hj
    exact .int _
def chD (z : Str) : List D := z.cps.toList.map fun c => D.str ⟨#[c]⟩
theorem ItD.str {z : Str} : ItD K mg E0 H0 (Its z) (chD z) :=
  .of walk_str (by simp [chD]) (fun _ _ _ => trivial) fun i E H x H' e y => by
    obtain ⟨rfl, c, hc, rfl⟩ := y
    refine ⟨Same.refl _, fun d hd => ?_⟩
    unfold chD at hd
    rw [List.getElem?_map, Array.getElem?_toList, hc] at hd
    cases hd
    exact .str _
end
section
variable {X : Cx} {tg e a b iter : Expr} {f : Co D} {fs : Co (List D)} {fi : Co (List D)} {fb : Co Flow'} {fc : Co Bool} {pos p : Pos} {body : List Stmt} {t : Bool} {is : List Nat}
theorem PI.or {w w' : TI} (h : PI X tg e w) (h' : PI X tg e w') : PI X tg e (fun σ H R => w σ H R ∨ w' σ H R) := ⟨fun pins s σ H R I q => q.elim (h.run pins s σ H R I) (h'.run pins s σ H R I)⟩
def itD : D → Option (List D)
  | .lst ds => some ds
  | .tup ds => some ds
  | .xt ds => some ds
  | .scr ns => some (ns.map D.int)
  | .str x => some (chD x)
  | _ => none
def iVal (f : Co D) : Co (List D) := Co.bind f fun d => Co.lift (itD d)
theorem repL_ints {K : PySem.W.Frag} {mg : Str → Option Value} {E : Ev} {H : Hp} : ∀ (ns : List Int), RepL K mg E H (ns.map V.int) (ns.map D.int)
  | [] => .nil
  | n :: ns => .cons (.int n) (repL_ints ns)
theorem ei_val (he : EE X e f) : EI X tg e (iVal f) := PI.imp (PI.or (PI.or (pi_list he) (pi_tup he)) (pi_str he)) fun σ H R ⟨W, m, S, ds, m', hf, q⟩ => by
  obtain ⟨d, m1, e1, hf⟩ := Co.bind_ok hf
  cases d <;> first
    | (cases hf; done)
    | (cases hf; skip)
  · rename_i x
    refine .inr ⟨W, m, S, _, _, e1, fun v ob' H' A r => ?_⟩
    cases r
    exact ⟨_, rfl, q _ ob' H' A fun _ _ => .str⟩
  · refine .inl (.inr ⟨W, m, S, _, _, e1, fun v ob' H' A r => ?_⟩)
    cases r with
    | tup h r => exact ⟨_, rfl, ⟨_, SqT.of h⟩, q _ ob' H' A fun _ hM => .tup hM (fun E H x => SqT.of (x.tup _ _ h)) (r.le (Ev.le_mx _ _))⟩
  · refine .inl (.inr ⟨W, m, S, _, _, e1, fun v ob' H' A r => ?_⟩)
    cases r with
    | xt h _ r => exact ⟨_, rfl, ⟨_, .inl (.inr ⟨_, h⟩)⟩, q _ ob' H' A fun _ hM => .tup hM (fun E H x => .inl (.inr ⟨_, x.frz _ _ _ h⟩)) (r.le (Ev.le_mx _ _))⟩
  · refine .inl (.inl ⟨W, m, S, _, _, e1, fun v ob' H' A r => ?_⟩)
    cases r with
    | lst h n r => exact ⟨_, rfl, ⟨_, SqL.of h⟩, q _ ob' H' A fun _ hM => .lst hM (fun E H x => SqL.of (x.keep _ _ (fun z => n (hM _ z)) h)) (r.le (Ev.le_mx _ _))⟩
  · rename_i ns
    refine .inl (.inl ⟨W, m, S, _, _, e1, fun v ob' H' A r => ?_⟩)
    cases r with
    | scr _ h n => exact ⟨_, rfl, ⟨_, .inl h⟩, q _ ob' H' A fun _ hM => .lst hM (fun E H x => .inl (x.rd hM h n).1) (repL_ints ns)⟩
    | scrK _ h => exact ⟨_, rfl, ⟨_, h _⟩, q _ ob' H' A fun _ hM => .lst hM (fun E H x => h H) (repL_ints ns)⟩
def CRg (i : Int) : Prop := -(2 ^ 62) ≤ i ∧ i < 2 ^ 62
instance {i : Int} : Decidable (CRg i) := inferInstanceAs (Decidable (_ ∧ _))
def rg1 : List D → Option (List D)
  | [.int j] => if CRg j then some (rgD 0 j) else none
  | _ => none
def rg2 : List D → Option (List D)
  | [.int i, .int j] => if CRg i ∧ CRg j then some (rgD i j) else none
  | _ => none
theorem rg1_ok {as ds : List D} (h : rg1 as = some ds) : ∃ j, as = [.int j] ∧ CRg j ∧ ds = rgD 0 j := by
  unfold rg1 at h
  split at h
  · split at h
    · cases h; exact ⟨_, rfl, by assumption, rfl⟩
    · cases h
  · cases h
theorem Co.lift_ok {α : Type} {o : Option α} {m m' : M} {x : α} (h : Co.lift o m = .ok x m') : o = some x ∧ m' = m := by
  unfold Co.lift at h
  split at h
  · cases h; exact ⟨rfl, rfl⟩
  · cases h
def iRg1' (fs : Co (List D)) : Co (List D) := Co.bind fs fun ds => Co.lift (rg1 ds)
def iRg2' (fs : Co (List D)) : Co (List D) := Co.bind fs fun ds => Co.lift (rg2 ds)
theorem ei_rg1 (hm : X.mg "range" = none) (ha : EA X [a] fs) (hg : Gl X "range" := by rfl) (hs : starEach [a] X.env = [(false, eval a X.env)] := by rfl) : EI X tg (.Call (.Name "range" p) [a] [] pos) (iRg1' fs) :=
  PI.imp (pi_range1 hg hm ha hs) fun σ H R ⟨W, m, S, ds, m', hf, q⟩ => by
    obtain ⟨as, m1, e1, hf⟩ := Co.bind_ok hf
    obtain ⟨h, rfl⟩ := Co.lift_ok hf
    obtain ⟨j, rfl, c, rfl⟩ := rg1_ok h
    refine ⟨W, m, S, _, _, e1, fun vs ob' H' A r => ?_⟩
    cases r with
    | cons r t =>
      cases r; cases t
      refine ⟨_, rfl, c.1, c.2, q _ ob' H' A fun M' _ => ?_⟩
      have := ItD.rg (K := X.K) (mg := X.mg) (E0 := { ({ W with ob := ob' }.ev m'.obs.length) with Mx := M' }) (H0 := H') (lo := 0) (hi := j)
      simpa using this
def zipD : List D → Option (List D)
  | [.lst as, .lst bs] => some ((as.zip bs).map fun p => .tup [p.1, p.2])
  | [.tup as, .tup bs] => some ((as.zip bs).map fun p => .tup [p.1, p.2])
  | [.xt as, .tup bs] => some ((as.zip bs).map fun p => .tup [p.1, p.2])
  | _ => none
def iZip (fs : Co (List D)) : Co (List D) := Co.bind fs fun ds => Co.lift (zipD ds)
theorem ItD.pair {K : PySem.W.Frag} {mg : Str → Option Value} {E0 : Ev} {H0 : Hp} {J : It} {n : Nat} {G : Hp → Prop} {xs ys : Nat → Option V} {ds : List D} (sb : E0.Sub) (w : Walk J n G (YPair xs ys)) (hn : n = ds.length) (hG : ∀ E H, Ext E0 H0 E H → G H)
    (hY : ∀ i x y d, xs i = some x → ys i = some y → ds[i]? = some d → ∃ a b, d = .tup [a, b] ∧ Rep K mg E0 H0 x a ∧ Rep K mg E0 H0 y b) : ItD K mg E0 H0 J ds :=
  .of w hn hG fun i E H v H' e y => by
    obtain ⟨T, x, y, rfl, hT, rfl, hx, hy⟩ := y
    have sm := same_new hT (.tup [x, y])
    refine ⟨sm, fun d hd => ?_⟩
    obtain ⟨a, b, rfl, ra, rb⟩ := hY i x y d hx hy hd
    exact .tup upd_same (.cons ((ra.ext e sb).up sm) (.cons ((rb.ext e sb).up sm) .nil))
theorem repL_zip {K : PySem.W.Frag} {mg : Str → Option Value} {E : Ev} {H : Hp} {vs ws : List V} {as bs : List D} (r : RepL K mg E H vs as) (r2 : RepL K mg E H ws bs) (i : Nat) (x y : V) (d : D) (hx : vs[i]? = some x) (hy : ws[i]? = some y)
    (hd : ((as.zip bs).map fun p => D.tup [p.1, p.2])[i]? = some d) : ∃ a b, d = .tup [a, b] ∧ Rep K mg E H x a ∧ Rep K mg E H y b := by
  rw [List.getElem?_map] at hd
  obtain ⟨⟨a, b⟩, hab, rfl⟩ := Option.map_eq_some_iff.mp hd
  obtain ⟨ha, hb⟩ := List.getElem?_zip_eq_some.mp hab
  obtain ⟨v, hv, rv⟩ := r.get' ha
  obtain ⟨w, hw, rw'⟩ := r2.get' hb
  rw [hx] at hv; cases hv
  rw [hy] at hw; cases hw
  exact ⟨a, b, rfl, rv, rw'⟩
theorem ei_zip {tpos : Pos} {elts : List Expr} {kk : Nat} (hm : X.mg "zip" = none) (ha : EA X [a, b] fs) (hg : Gl X "zip" := by rfl)
    (hs : starEach [a, b] X.env = (false, eval a X.env) :: starEach [b] X.env := by rfl) (hpl : (backTo pos (starEach [b] X.env)).any (·.1) = false := by rfl) :
    EI X (.Tuple elts kk tpos) (.Call (.Name "zip" p) [a, b] [] pos) (iZip fs) :=
  PI.imp (RZ.pi_zipA hg hm ha hs hpl) fun σ H R ⟨W, m, S, ds, m', hf, q⟩ => by
    obtain ⟨as, m1, e1, hf⟩ := Co.bind_ok hf
    obtain ⟨h, rfl⟩ := Co.lift_ok hf
    refine ⟨W, m, S, _, _, e1, fun vs ob' H' A r => ?_⟩
    unfold zipD at h
    split at h
    · cases h
      rename_i as bs
      cases r with
      | cons r t =>
        cases t with
        | cons r' t =>
          cases t
          cases r with
          | @lst a1 vs1 _ h1 n1 r1 =>
          cases r' with
          | @lst a2 vs2 _ h2 n2 r2 =>
          refine ⟨_, _, _, _, rfl, .inl ⟨SqL.of h1, SqL.of h2, q _ ob' H' A fun M' hM => ?_⟩⟩
          refine .pair hM (walk_zip (xs := vs1) (ys := vs2) rfl) ?_ (fun E H x => ⟨SqL.of (x.keep _ _ (fun z => n1 (hM _ z)) h1), SqL.of (x.keep _ _ (fun z => n2 (hM _ z)) h2)⟩) (repL_zip (r1.le (Ev.le_mx _ _)) (r2.le (Ev.le_mx _ _)))
          simp [r1.length, r2.length]
    · cases h
      rename_i as bs
      cases r with
      | cons r t =>
        cases t with
        | cons r' t =>
          cases t
          cases r with
          | @tup a1 vs1 _ h1 r1 =>
          cases r' with
          | @tup a2 vs2 _ h2 r2 =>
          refine ⟨_, _, _, _, rfl, .inr ⟨SqT.of h1, SqT.of h2, q _ ob' H' A fun M' hM => ?_⟩⟩
          have w : Walk (RZ.ItzT X.K a1 a2) (min vs1.length vs2.length) (fun H => SqT X.K H a1 vs1 ∧ SqT X.K H a2 vs2) (YPair (fun i => vs1[i]?) (fun i => vs2[i]?)) := by
            refine ⟨fun i _ hi q => ?_, fun _ q => ⟨vs1, vs2, q.1, q.2, by omega⟩, fun i H v H' _ q y => ?_⟩
            · have h1 : i < vs1.length := by omega
              have h2 : i < vs2.length := by omega
              exact ⟨vs1, vs2, vs1[i], vs2[i], q.1, q.2, by simp [h1], by simp [h2]⟩
            · obtain ⟨T, x, z, h1, h2, h3, h4, h5⟩ := y
              exact ⟨T, x, z, h1, h2, h3, h4 vs1 q.1, h5 vs2 q.2⟩
          refine .pair hM w ?_ (fun E H x => ⟨SqT.of (x.tup _ _ h1), SqT.of (x.tup _ _ h2)⟩) (repL_zip (r1.le (Ev.le_mx _ _)) (r2.le (Ev.le_mx _ _)))
          simp [r1.length, r2.length]
    · cases h
      rename_i as bs
      cases r with
      | cons r t =>
        cases t with
        | cons r' t =>
          cases t
          cases r with
          | @xt a1 o1 vs1 _ h1 k1 r1 =>
          cases r' with
          | @tup a2 vs2 _ h2 r2 =>
          refine ⟨_, _, _, _, rfl, .inr ⟨.inl (.inr ⟨_, h1⟩), SqT.of h2, q _ ob' H' A fun M' hM => ?_⟩⟩
          have w : Walk (RZ.ItzT X.K a1 a2) (min vs1.length vs2.length) (fun H => SqT X.K H a1 vs1 ∧ SqT X.K H a2 vs2) (YPair (fun i => vs1[i]?) (fun i => vs2[i]?)) := by
            refine ⟨fun i _ hi q => ?_, fun _ q => ⟨vs1, vs2, q.1, q.2, by omega⟩, fun i H v H' _ q y => ?_⟩
            · have h1 : i < vs1.length := by omega
              have h2 : i < vs2.length := by omega
              exact ⟨vs1, vs2, vs1[i], vs2[i], q.1, q.2, by simp [h1], by simp [h2]⟩
            · obtain ⟨T, x, z, h1, h2, h3, h4, h5⟩ := y
              exact ⟨T, x, z, h1, h2, h3, h4 vs1 q.1, h5 vs2 q.2⟩
          refine .pair hM w ?_ (fun E H x => ⟨.inl (.inr ⟨_, x.frz _ _ _ h1⟩), SqT.of (x.tup _ _ h2)⟩) (repL_zip (r1.le (Ev.le_mx _ _)) (r2.le (Ev.le_mx _ _)))
          simp [r1.length, r2.length]
    · cases h
def enumD (k : Nat) : List D → List D
  | [] => []
  | d :: ds => .tup [.int k, d] :: enumD (k + 1) ds
def iEnu (fs : Co (List D)) : Co (List D) := Co.bind fs fun ds => Co.lift (match ds with
  | [.lst as] => some (enumD 0 as)
  | _ => none)
def forL (t : Bool) (is : List Nat) (b : Co Flow') : List D → Co Flow'
  | [], m => .ok .nx m
  | d :: ds, m => match setTg t is d m.env with
    | none => .no
    | some env => match b { m with env := env } with
      | .ok .nx m' => forL t is b ds m'
      | .ok .ct m' => forL t is b ds m'
      | .ok .bk m' => .ok .nx m'
      | .ok (.rt d) m' => .ok (.rt d) m'
      | .ok (.rf d) m' => .ok (.rf d) m'
      | .no => .no
def sFor (fi : Co (List D)) (t : Bool) (is : List Nat) (b : Co Flow') : Co Flow' := Co.bind fi fun ds => forL t is b ds
theorem for_rd {K : PySem.W.Frag} {mg : Str → Option Value} {W : Wd} {σ : L2.St} {H1 : Hp} {m1 m' : M} {J : It} {ds : List D} {fl : Flow'} {D : Ends} (S1 : Sit K mg W σ H1 m1) (it : ItD K mg (W.ev m1.obs.length) H1 J ds) (hf : forL t is fb ds m1 = .ok fl m') (q : FPost K mg D W m' fl) :
    ∃ Wv : Nat → Nat → L2.St → Hp → Prop, (∃ m, Wv 0 m σ H1) ∧ ∀ i m σ H, Wv i m σ H →
      (J.stop i H ∧ D.nx σ H) ∨ (J.go i H ∧ ∃ N : L2.St → Hp → Prop, (∀ σ' H', N σ' H' → ∃ m', m' < m ∧ Wv (i + 1) m' σ' H') ∧ ∀ x H', J.yld i H x H' → gD K mg t is x σ H' fun σ2 H2 => rdS K mg fb { D with nx := N, ct := N, bk := D.nx } σ2 H2) := by
  obtain ⟨Y, wk, yd⟩ := it
  have q1 : FPost K mg D (W.base m1.obs.length H1) m' fl := FPost.base S1 q
  refine for_it wk (fun i σ H => ∃ W2 m2, Lat (W.base m1.obs.length H1) W2 ∧ Sit K mg W2 σ H m2 ∧ forL t is fb (ds.drop i) m2 = .ok fl m') ⟨_, m1, Lat.refl _, S1.rebase, hf⟩ (fun i σ H _ ⟨W2, m2, l, S2, _⟩ => ?_) (fun i x σ H H' hi ⟨W2, m2, l, S2, h2⟩ y => ?_) fun σ H ⟨W2, m2, l, S2, h2⟩ => ?_
  · exact ⟨_, by have := S2.ext; rw [l.2.1, l.2.2] at this; exact this⟩
  · have ed : ds.drop i = ds[i] :: ds.drop (i + 1) := List.drop_eq_getElem_cons hi
    rw [ed] at h2
    unfold forL at h2
    have x2 := S2.ext
    rw [l.2.1, l.2.2] at x2
    obtain ⟨sm, rp⟩ := yd i _ H x H' x2 y
    cases e2 : setTg t is ds[i] m2.env with
    | none => rw [e2] at h2; cases h2
    | some env =>
      rw [e2] at h2
      refine ⟨W2, m2, ds[i], env, S2.same sm, rp ds[i] (by simp [hi]), e2, fun W3 vs l3 _ _ S3 => ?_⟩
      simp only at h2
      cases e3 : fb { m2 with env := env } with
      | no => rw [e3] at h2; cases h2
      | ok f3 m3 =>
        rw [e3] at h2
        refine ⟨W3, _, S3, f3, m3, e3, ?_⟩
        have l' := l.trans l3
        cases f3 with
        | nx => exact fun W4 σ4 H4 l4 S4 => ⟨W4, m3, l'.trans l4, S4, h2⟩
        | ct => exact fun W4 σ4 H4 l4 S4 => ⟨W4, m3, l'.trans l4, S4, h2⟩
        | bk => cases h2; exact fun W4 σ4 H4 l4 S4 => q1 W4 σ4 H4 (l'.trans l4) S4
        | rt d => cases h2; exact fun W4 σ4 H4 v l4 S4 r => q1 W4 σ4 H4 v (l'.trans l4) S4 r
        | rf d =>
          cases h2
          refine fun W4 σ4 H4 a l4 n z S c => q1 W4 σ4 H4 a (l'.trans l4) n z S c
  · rw [List.drop_length] at h2
    cases h2
    exact q1 W2 σ H l S2
theorem ss_for (hi : EI X tg iter fi) (hg : GG X tg t is) (hb : SSs X body fb) (hp : PassesOwn (model X.prog X.w) X.A X.env X.xe := by exact PassesOwn.never) (hc : X.calm = true := by rfl)
    (hs : ∀ x, foldedSetIterable iter X.env x = pure x := by intro _; rfl) : SS X (.For tg iter body [] pos) (sFor fi t is fb) :=
  PS.imp (ps_for hp hc hi hg hb hs) fun D σ H ⟨W, m, S, fl, m', hf, q⟩ => by
    obtain ⟨ds, m1, e1, hf⟩ := Co.bind_ok hf
    exact ⟨W, m, S, ds, m1, e1, fun J ob' H1 A it => for_rd A.2 (it _ (Wd.sub _ _)) hf (by cases fl <;> exact q)⟩
def whileN (c : Co Bool) (b : Co Flow') : Nat → Co Flow'
  | 0, _ => .no
  | n + 1, m => match c m with
    | .no => .no
    | .ok false m1 => .ok .nx m1
    | .ok true m1 => match b m1 with
      | .ok .nx m' => whileN c b n m'
      | .ok .ct m' => whileN c b n m'
      | .ok .bk m' => .ok .nx m'
      | .ok (.rt d) m' => .ok (.rt d) m'
      | .ok (.rf d) m' => .ok (.rf d) m'
      | .no => .no
open Classical in
noncomputable def sWhile (c : Co Bool) (b : Co Flow') : Co Flow' := fun m =>
  if h : ∃ n fl m', whileN c b n m = .ok fl m' then whileN c b h.choose m else .no
theorem whileN_mono {c : Co Bool} {b : Co Flow'} : ∀ {n k : Nat} {m m' : M} {fl : Flow'}, whileN c b n m = .ok fl m' → n ≤ k → whileN c b k m = .ok fl m'
  | 0, _, _, _, _, h, _ => nomatch h
  | n + 1, 0, _, _, _, _, hk => absurd hk (by omega)
  | n + 1, k + 1, m, m', fl, h, hk => by
    unfold whileN at h ⊢
    cases ec : c m with
    | no => rw [ec] at h; cases h
    | ok t m1 =>
      rw [ec] at h
      cases t with
      | false => exact h
      | true =>
        simp only at h ⊢
        cases eb : b m1 with
        | no => rw [eb] at h; cases h
        | ok f m2 =>
          rw [eb] at h
          cases f <;> first
            | exact whileN_mono h (by omega)
            | exact h
theorem sWhile_of {c : Co Bool} {b : Co Flow'} {n : Nat} {m m' : M} {fl : Flow'} (h : whileN c b n m = .ok fl m') : sWhile c b m = .ok fl m' := by
  have hx : ∃ n fl m', whileN c b n m = .ok fl m' := ⟨n, fl, m', h⟩
  unfold sWhile
  rw [dif_pos hx]
  obtain ⟨fl', m2, e⟩ := hx.choose_spec
  have h1 := whileN_mono e (Nat.le_max_left _ n)
  have h2 := whileN_mono h (Nat.le_max_right hx.choose n)
  rw [e, ← h1, h2]
theorem sWhile_ok {c : Co Bool} {b : Co Flow'} {m m' : M} {fl : Flow'} (h : sWhile c b m = .ok fl m') : ∃ n, whileN c b n m = .ok fl m' := by
  unfold sWhile at h
  split at h
  · exact ⟨_, h⟩
  · cases h
theorem ss_while {cnd : Expr} (hc : ET X cnd fc) (hb : SSs X body fb) (hp : PassesOwn (model X.prog X.w) X.A X.env X.xe := by exact PassesOwn.never) : SS X (.While cnd body [] pos) (sWhile fc fb) :=
  PS.imp (ps_while hp hc hb) fun D σ H ⟨W, m, S, fl, m', hf, q⟩ => by
    obtain ⟨n, hf⟩ := sWhile_ok hf
    refine ⟨fun n σ H => ∃ W2 m2, Lat W W2 ∧ Sit X.K X.mg W2 σ H m2 ∧ whileN fc fb n m2 = .ok fl m', ⟨n, W, m, Lat.refl _, S, hf⟩, fun n σ H ⟨W2, m2, l, S2, h2⟩ => ?_⟩
    cases n with
    | zero => cases h2
    | succ n =>
      unfold whileN at h2
      cases ec : fc m2 with
      | no => rw [ec] at h2; cases h2
      | ok c m3 =>
        rw [ec] at h2
        refine ⟨W2, m2, S2, c, m3, ec, fun ob' H3 A => ?_⟩
        have l' : Lat W { W2 with ob := ob' } := l.trans ⟨rfl, rfl, rfl⟩
        cases c with
        | false =>
          cases h2
          show if false = true then _ else _
          rw [if_neg (by decide)]
          exact q _ σ H3 l' A.2
        | true =>
          show if true = true then _ else _
          rw [if_pos rfl]
          refine ⟨fun σ H => ∃ W2 m2, Lat W W2 ∧ Sit X.K X.mg W2 σ H m2 ∧ whileN fc fb n m2 = .ok fl m', fun σ' H' h => ⟨n, Nat.lt_succ_self n, h⟩, ?_⟩
          simp only at h2
          cases e3 : fb m3 with
          | no => rw [e3] at h2; cases h2
          | ok f3 m4 =>
            rw [e3] at h2
            refine ⟨_, m3, A.2, f3, m4, e3, ?_⟩
            cases f3 with
            | nx => exact fun W4 σ4 H4 l4 S4 => ⟨W4, m4, l'.trans l4, S4, h2⟩
            | ct => exact fun W4 σ4 H4 l4 S4 => ⟨W4, m4, l'.trans l4, S4, h2⟩
            | bk => cases h2; exact fun W4 σ4 H4 l4 S4 => q W4 σ4 H4 (l'.trans l4) S4
            | rt d => cases h2; exact fun W4 σ4 H4 v l4 S4 r => q W4 σ4 H4 v (l'.trans l4) S4 r
            | rf d =>
              cases h2
              exact fun W4 σ4 H4 a l4 n z S c => q W4 σ4 H4 a (l'.trans l4) n z S c
end
end PD
namespace PD
open PySem PySem.Spec PyProof.Rows L2
variable [TabC]
def noOw (vs : List Nat) (env : List Slot) : Bool := vs.all fun i => match env[i]? with
  | some (.ow _) => false
  | _ => true
def wipeE (env : List Slot) : List Nat → List Slot
  | [] => env
  | v :: vs => (wipeE env vs).set v .un
def unwipe (e0 e : List Slot) : List Nat → List Slot
  | [] => e
  | v :: vs => (unwipe e0 e vs).set v (e0[v]?.getD .un)
theorem wipeE_len (env : List Slot) : ∀ vs, (wipeE env vs).length = env.length
  | [] => rfl
  | v :: vs => by unfold wipeE; rw [List.length_set, wipeE_len env vs]
theorem unwipe_len (e0 e : List Slot) : ∀ vs, (unwipe e0 e vs).length = e.length
  | [] => rfl
  | v :: vs => by unfold unwipe; rw [List.length_set, unwipe_len e0 e vs]
theorem wipeE_in {env : List Slot} {i : Nat} {s : Slot} : ∀ {vs : List Nat}, i ∈ vs → (wipeE env vs)[i]? = some s → s = .un
  | v :: vs, hi, h => by
    unfold wipeE at h
    by_cases e : v = i
    · subst e
      rw [List.getElem?_set] at h
      rw [if_pos rfl] at h
      split at h
      · cases h; rfl
      · cases h
    · rw [List.getElem?_set_ne e] at h
      exact wipeE_in ((List.mem_cons.mp hi).resolve_left fun z => e z.symm) h
theorem wipeE_out {env : List Slot} {i : Nat} : ∀ {vs : List Nat}, i ∉ vs → (wipeE env vs)[i]? = env[i]?
  | [], _ => rfl
  | v :: vs, hi => by
    unfold wipeE
    rw [List.getElem?_set_ne fun z => hi (by rw [z]; exact List.mem_cons_self)]
    exact wipeE_out fun z => hi (List.mem_cons_of_mem _ z)
theorem unwipe_out {e0 e : List Slot} {i : Nat} : ∀ {vs : List Nat}, i ∉ vs → (unwipe e0 e vs)[i]? = e[i]?
  | [], _ => rfl
  | v :: vs, hi => by
    unfold unwipe
    rw [List.getElem?_set_ne fun z => hi (by rw [z]; exact List.mem_cons_self)]
    exact unwipe_out fun z => hi (List.mem_cons_of_mem _ z)
theorem unwipe_in {e0 e : List Slot} {i : Nat} {s : Slot} : ∀ {vs : List Nat}, i ∈ vs → (unwipe e0 e vs)[i]? = some s → s = e0[i]?.getD .un
  | v :: vs, hi, h => by
    unfold unwipe at h
    by_cases e : v = i
    · subst e
      rw [List.getElem?_set] at h
      rw [if_pos rfl] at h
      split at h
      · cases h; rfl
      · cases h
    · rw [List.getElem?_set_ne e] at h
      exact unwipe_in ((List.mem_cons.mp hi).resolve_left fun z => e z.symm) h
theorem noOw_out {vs : List Nat} {env : List Slot} (h : noOw vs env = true) {i : Nat} {d : D} (e : env[i]? = some (.ow d)) : i ∉ vs := fun hi => by
  unfold noOw at h
  have := List.all_eq_true.mp h i hi
  rw [e] at this
  cases this
section
variable {K : PySem.W.Frag} {mg : Str → Option Value} {W W1 : Wd} {σ : L2.St} {H H' : Hp} {m m1 : M} {vs : List Nat}
theorem Sit.wipe (S : Sit K mg W σ H m) (h : noOw vs m.env = true) : Sit K mg W (L2.wipe σ vs) H { m with env := wipeE m.env vs } where
  len := by rw [wipe_length]; exact S.len.trans (wipeE_len m.env vs).symm
  ext := S.ext
  pl := fun i d e => by
    by_cases hi : i ∈ vs
    · cases wipeE_in hi e
    · have e' : (wipeE m.env vs)[i]? = some (.pl d) := e
      rw [wipeE_out hi] at e'
      rw [wipe_out hi]
      exact S.pl i d e'
  ow := fun i d e => by
    by_cases hi : i ∈ vs
    · cases wipeE_in hi e
    · have e' : (wipeE m.env vs)[i]? = some (.ow d) := e
      rw [wipeE_out hi] at e'
      rw [wipe_out hi]
      exact S.ow i d e'
  owi := fun i a e => by
    obtain ⟨d, hd⟩ := S.owi i a e
    refine ⟨d, ?_⟩
    show (wipeE m.env vs)[i]? = _
    rw [wipeE_out (noOw_out h hd)]
    exact hd
  inj := S.inj
  ob := S.ob
  obi := S.obi
  obo := S.obo
  n0 := S.n0
  o0 := S.o0
  tab := S.tab
theorem Sit.unwipe (S0 : Sit K mg W σ H m) (h0 : noOw vs m.env = true) (x : Ext (W.ev m.obs.length) H (W1.ev m1.obs.length) H') (S : Sit K mg W1 (L2.wipe σ vs) H' m1) : Sit K mg W1 σ H' { m1 with env := PD.unwipe m.env m1.env vs } where
  len := by rw [unwipe_len]; exact (wipe_length σ vs).symm.trans S.len
  ext := S.ext
  pl := fun i d e => by
    have e' : (PD.unwipe m.env m1.env vs)[i]? = some (.pl d) := e
    by_cases hi : i ∈ vs
    · have z := unwipe_in hi e'
      have z2 : m.env[i]? = some (.pl d) := by
        cases q : m.env[i]? with
        | none => rw [q] at z; cases z
        | some s => rw [q] at z; rw [z]; rfl
      obtain ⟨v, hv, r⟩ := S0.pl i d z2
      exact ⟨v, hv, r.ext x (W.sub _)⟩
    · rw [unwipe_out hi] at e'
      obtain ⟨v, hv, r⟩ := S.pl i d e'
      exact ⟨v, (wipe_some hv).1, r⟩
  ow := fun i d e => by
    have e' : (PD.unwipe m.env m1.env vs)[i]? = some (.ow d) := e
    by_cases hi : i ∈ vs
    · have z := unwipe_in hi e'
      have z2 : m.env[i]? = some (.ow d) := by
        cases q : m.env[i]? with
        | none => rw [q] at z; cases z
        | some s => rw [q] at z; rw [z]; rfl
      exact absurd hi (noOw_out h0 z2)
    · rw [unwipe_out hi] at e'
      obtain ⟨a, ea, es, c⟩ := S.ow i d e'
      exact ⟨a, ea, (wipe_some es).1, c⟩
  owi := fun i a e => by
    obtain ⟨d, hd⟩ := S.owi i a e
    obtain ⟨b, _, es, _⟩ := S.ow i d hd
    have hi := (wipe_some es).2
    refine ⟨d, ?_⟩
    show (PD.unwipe m.env m1.env vs)[i]? = _
    rw [unwipe_out hi]
    exact hd
  inj := S.inj
  ob := S.ob
  obi := S.obi
  obo := S.obo
  n0 := S.n0
  o0 := S.o0
  tab := S.tab
theorem Sit.updC {a : Addr} {o1 o2 : HO} (S : Sit K mg W σ H m) (hN : W.N0 a) (nm : ¬ (W.ev m.obs.length).Mx a) (h : H a = some o1) (ht : ∀ xs, o1 ≠ .tup xs) (hf : ∀ o u, o1 ≠ .frz o u) (h0 : W.H0 a = none) (hn : (∀ ps, o1 ≠ .tbl ps) ∧ ∀ b q, o1 ≠ LamX.CodeO b q := by constructor <;> (intros; intro z; (try unfold LamX.CodeO at z); cases z)) :
    Sit K mg W σ (L2.upd H a o2) m ∧ ∀ vs ds, RepL K mg (W.ev m.obs.length) H vs ds → RepL K mg (W.ev m.obs.length) (L2.upd H a o2) vs ds := by
  have tx : ∀ {P q j}, TabJ H P q j → TabJ (L2.upd H a o2) P q j := fun t => tabS_upd t (fun ps z => by rw [h] at z; exact hn.1 ps (Option.some.inj z)) (fun b q z => by rw [h] at z; exact hn.2 b q (Option.some.inj z))
  have x : Ext { (W.ev m.obs.length) with Mx := fun b => (W.ev m.obs.length).Mx b ∨ b = a } H { (W.ev m.obs.length) with Mx := fun b => (W.ev m.obs.length).Mx b ∨ b = a } (L2.upd H a o2) :=
    Ext.upd h (.inr rfl) (fun xs z => by rw [h] at z; exact ht xs (Option.some.inj z)) (fun o u z => by rw [h] at z; exact hf o u (Option.some.inj z)) fun P q _ _ t => tx t
  have sb : Ev.Sub { (W.ev m.obs.length) with Mx := fun b => (W.ev m.obs.length).Mx b ∨ b = a } := fun b z => z.elim (W.sub _ b) fun z => by rw [z]; exact .inl hN
  have up : ∀ {v d}, Rep K mg (W.ev m.obs.length) H v d → Rep K mg (W.ev m.obs.length) (L2.upd H a o2) v d := fun r =>
    ((r.le (Ev.le_mx _ _)).ext x sb).le (Ev.mx_le _ _)
  have upL : ∀ {v d}, RepL K mg (W.ev m.obs.length) H v d → RepL K mg (W.ev m.obs.length) (L2.upd H a o2) v d := fun r =>
    ((r.le (Ev.le_mx _ _)).ext x sb).le (Ev.mx_le _ _)
  have upC : ∀ {b d}, b ≠ a → Cell K mg (W.ev m.obs.length) H b d → Cell K mg (W.ev m.obs.length) (L2.upd H a o2) b d := fun n c =>
    ((c.le (Ev.le_mx _ _)).ext x sb (fun o _ q => by rw [upd_ne n]; exact q)).le (Ev.mx_le _ _)
  refine ⟨⟨S.len, ?_, fun i d e => ?_, fun i d e => ?_, S.owi, S.inj, fun n ds e => ?_, S.obi, S.obo, fun b e => ?_, S.o0, fun P q h => tx (S.tab P q h)⟩, fun vs ds r => upL r⟩
  · have e := S.ext
    refine ⟨e.no, e.ob, e.n2, e.m2, fun b o q => ?_, fun b o n nt q => ?_, fun b xs q => ?_, fun b o u q => ?_, fun P q j tt t => tx (e.tbl P q j tt t)⟩
    · obtain ⟨o', q'⟩ := e.dm b o q
      exact x.dm b o' q'
    · rw [upd_ne (fun z => by rw [z, h0] at q; cases q)]; exact e.keep0 b o n nt q
    · rw [upd_ne (fun z => by rw [z, h0] at q; cases q)]; exact e.tup b xs q
    · rw [upd_ne (fun z => by rw [z, h0] at q; cases q)]; exact e.frz b o u q
  · obtain ⟨v, e, r⟩ := S.pl i d e
    exact ⟨v, e, up r⟩
  · obtain ⟨b, e, es, c⟩ := S.ow i d e
    exact ⟨b, e, es, upC (fun z => nm (.inl ⟨i, by rw [← z]; exact e⟩)) c⟩
  · exact upC (fun z => nm (.inr ⟨n, (List.getElem?_eq_some_iff.mp e).1, z⟩)) (S.ob n ds e)
  · obtain ⟨o, q⟩ := S.n0 b e
    exact x.dm b o q
theorem Sit.updN {a : Addr} {xs ys : List V} (S : Sit K mg W σ H m) (hN : W.N0 a) (nm : ¬ (W.ev m.obs.length).Mx a) (h : H a = some (.lst xs)) (h0 : W.H0 a = none) :
    Sit K mg W σ (L2.upd H a (.lst ys)) m ∧ ∀ vs ds, RepL K mg (W.ev m.obs.length) H vs ds → RepL K mg (W.ev m.obs.length) (L2.upd H a (.lst ys)) vs ds := S.updC hN nm h (fun _ z => nomatch z) (fun _ _ z => nomatch z) h0
theorem setSt_wipe : ∀ {is : List Nat} {xs : List V} {σ : L2.St} {vs : List Nat}, (∀ i ∈ is, i ∈ vs) → L2.wipe (setSt σ is xs) vs = L2.wipe σ vs
  | [], xs, σ, vs, _ => by cases xs <;> rfl
  | i :: is, [], σ, vs, _ => rfl
  | i :: is, x :: xs, σ, vs, h => by
    unfold setSt
    rw [setSt_wipe fun j hj => h j (List.mem_cons_of_mem _ hj)]
    exact wipe_set (h i List.mem_cons_self)
where
  wipe_set {i : Nat} {x : Option V} {σ : L2.St} : ∀ {vs : List Nat}, i ∈ vs → L2.wipe (σ.set i x) vs = L2.wipe σ vs
    | v :: vs, h => by
      unfold L2.wipe
      by_cases hi : i ∈ vs
      · rw [wipe_set hi]
      · have e : i = v := (List.mem_cons.mp h).resolve_right hi
        subst e
        have : ∀ {us : List Nat}, i ∉ us → L2.wipe (σ.set i x) us = (L2.wipe σ us).set i x := by
          intro us
          induction us with
          | nil => intro _; rfl
          | cons u us ih =>
            intro hu
            unfold L2.wipe
            rw [ih fun z => hu (List.mem_cons_of_mem _ z), List.set_comm _ _ (fun z => hu (by rw [z]; exact List.mem_cons_self))]
        rw [this hi, List.set_set]
end
theorem wipe_set2 {σ : L2.St} {vs : List Nat} {v : Nat} (h : v ∈ vs) : (L2.wipe σ vs).set v none = L2.wipe σ vs := by
  induction vs with
  | nil => cases h
  | cons u us ih =>
    unfold L2.wipe
    by_cases e : u = v
    · subst e; rw [List.set_set]
    · rw [List.set_comm _ _ e, ih ((List.mem_cons.mp h).resolve_left fun z => e z.symm)]
theorem wipe_idem {σ : L2.St} : ∀ {us vs : List Nat}, (∀ i ∈ us, i ∈ vs) → L2.wipe (L2.wipe σ vs) us = L2.wipe σ vs
  | [], _, _ => rfl
  | u :: us, vs, h => by
    show (L2.wipe (L2.wipe σ vs) us).set u none = _
    rw [wipe_idem fun j hj => h j (List.mem_cons_of_mem _ hj), wipe_set2 (h u List.mem_cons_self)]
theorem setEnv_get : ∀ {is : List Nat} {ds : List D} {env env' : List Slot}, setEnv env is (ds.map fun d => (false, d)) = some env' → ∀ j, (∃ d, env'[j]? = some (.pl d)) ∨ (j ∉ is ∧ env'[j]? = env[j]?)
  | [], [], env, env', h, j => by cases h; exact .inr ⟨by simp, rfl⟩
  | [], d :: ds, env, env', h, j => nomatch h
  | i :: is, [], env, env', h, j => nomatch h
  | i :: is, d :: ds, env, env', h, j => by
    rw [List.map_cons] at h
    unfold setEnv at h
    split at h
    · rename_i hi
      rcases setEnv_get h j with z | ⟨z, e⟩
      · exact .inl z
      · by_cases hj : j = i
        · subst hj
          rw [List.getElem?_set_self hi] at e
          exact .inl ⟨d, e⟩
        · rw [List.getElem?_set_ne (Ne.symm hj)] at e
          exact .inr ⟨by simp [hj, z], e⟩
    · cases h
theorem setTg_get {t : Bool} {is : List Nat} {d : D} {env env' : List Slot} (h : setTg t is d env = some env') (j : Nat) : (∃ d, env'[j]? = some (.pl d)) ∨ (j ∉ is ∧ env'[j]? = env[j]?) := by
  unfold setTg at h
  split at h
  · exact setEnv_get (ds := [d]) h j
  · split at h
    · exact setEnv_get h j
    · exact setEnv_get h j
    · cases h
def lcL (t : Bool) (is vs : List Nat) (ft : Co Bool) (fe : Co D) : List D → Co (List D)
  | [], m => .ok [] m
  | d :: ds, m => match setTg t is d m.env with
    | none => .no
    | some env => match ft { m with env := env } with
      | .no => .no
      | .ok false m1 => if noOw vs m1.env = true then lcL t is vs ft fe ds { m1 with env := wipeE m1.env vs } else .no
      | .ok true m1 => match fe m1 with
        | .no => .no
        | .ok y m2 => if noOw vs m2.env = true then match lcL t is vs ft fe ds { m2 with env := wipeE m2.env vs } with
          | .ok ys m' => .ok (y :: ys) m'
          | .no => .no
          else .no
def eLc (fi : Co (List D)) (t : Bool) (is vs : List Nat) (ft : Co Bool) (fe : Co D) : Co D := Co.bind fi fun ds m =>
  if noOw vs m.env = true ∧ ds.length ≤ sizeLine then match lcL t is vs ft fe ds { m with env := wipeE m.env vs } with
    | .ok ys m' => .ok (.lst ys) { m' with env := unwipe m.env m'.env vs }
    | .no => .no
  else .no
abbrev ETs (X : Cx) (ifs : List Expr) (f : Co Bool) : Prop := PTs X ifs (rdT X.K X.mg f)
section
variable {X : Cx} {tg iter elt : Expr} {ifs : List Expr} {fi : Co (List D)} {t : Bool} {is : List Nat} {ft : Co Bool} {fe : Co D} {scope : Scope} {own : List (Str × Nat)} {pos : Pos} {i : Nat}
theorem PTs.imp {w w' : TT} (h : PTs X ifs w) (g : ∀ σ H Q, w' σ H Q → w σ H Q) : PTs X ifs w' := ⟨fun pins s σ H Q I q => h.run pins s σ H Q I (g σ H Q q)⟩
theorem ets_nil : ETs X [] (Co.ret true) := PTs.imp pts_nil fun σ H Q ⟨W, m, S, d, m', hf, q⟩ => by
  cases hf
  exact q _ H ⟨.refl, S⟩
theorem ets_one {c : Expr} (h : ET X c ft) : ETs X [c] ft := pts_one h
theorem lc_rd {σ : L2.St} {H : Hp} {Q : VK} {K : PySem.W.Frag} {mg : Str → Option Value} (hv : ∀ i ∈ is, i ∈ own.map (·.2)) (h : rdF K mg (eLc fi t is (own.map (·.2)) ft fe) σ H Q) : tLc (rdI K mg fi) (gD K mg t is) (rdT K mg ft) (rdE K mg fe) (own.map (·.2)) σ H Q := by
  obtain ⟨W, m, S, d, m', hf, q⟩ := h
  obtain ⟨ds, m1, e1, hf⟩ := Co.bind_ok hf
  generalize own.map (·.2) = vs at *
  split at hf
  · rename_i hc
    obtain ⟨h0, hz⟩ := hc
    split at hf
    · rename_i ys mf el
      cases hf
      refine ⟨W, m, S, ds, m1, e1, fun J ob' H1 A it Dl hD => ?_⟩
      obtain ⟨Y, wk, yd⟩ := it _ (Wd.sub _ _)
      have S1 := A.2
      have sm := same_new hD (.lst [])
      have Sa : Sit K mg (({ W with ob := ob' } : Wd).base m1.obs.length H1 |>.add Dl) (L2.wipe σ vs) (upd H1 Dl (.lst [])) { m1 with env := wipeE m1.env vs } := (S1.rebase.add hD sm ⟨_, upd_same⟩).wipe h0
      have nm1 : ¬ ({ W with ob := ob' }.ev m1.obs.length).Mx Dl := fun z => S1.fresh hD (.inr z)
      refine lc_it wk (fun i H => ∃ W2 m2 avs acc rest, Lat (({ W with ob := ob' } : Wd).base m1.obs.length H1 |>.add Dl) W2 ∧ (∀ j, j ∉ vs → W2.own j = W.own j) ∧ ¬ (W2.ev m2.obs.length).Mx Dl ∧ Sit K mg W2 (L2.wipe σ vs) H m2 ∧
        H Dl = some (.lst avs) ∧ RepL K mg (W2.ev m2.obs.length) H avs acc ∧ acc.length ≤ i ∧ lcL t is vs ft fe (ds.drop i) m2 = .ok rest mf ∧ acc ++ rest = ys)
        ⟨_, _, [], [], ys, Lat.refl _, fun _ _ => rfl, nm1, Sa, upd_same, .nil, Nat.zero_le _, el, rfl⟩
        (fun i H _ ⟨W2, m2, avs, acc, rest, l, _, _, S2, _⟩ => ⟨_, by have := S2.ext; rw [l.2.1, l.2.2] at this; exact this⟩) (fun i x H H' hi ⟨W2, m2, avs, acc, rest, l, ho, nm, S2, hl, ra, hlen, h2, he⟩ y => ?_)
        fun H ⟨W2, m2, avs, acc, rest, l, ho, nm, S2, hl, ra, hlen, h2, he⟩ => ?_
      · have ed : ds.drop i = ds[i] :: ds.drop (i + 1) := List.drop_eq_getElem_cons hi
        rw [ed] at h2
        unfold lcL at h2
        have x2 := S2.ext
        rw [l.2.1, l.2.2] at x2
        obtain ⟨sm2, rp⟩ := yd i _ H x H' x2 y
        cases e2 : setTg t is ds[i] m2.env with
        | none => rw [e2] at h2; cases h2
        | some env =>
          rw [e2] at h2
          simp only at h2
          have lN : W2.N0 Dl := by rw [l.1]; exact .inr rfl
          refine ⟨W2, m2, ds[i], env, S2.same sm2, rp ds[i] (by simp [hi]), e2, fun W3 xs l3 o3 w3 S3 => ⟨(setSt_wipe hv).trans (wipe_idem fun _ z => z), ?_⟩⟩
          have l3N : W3.N0 Dl := by rw [l3.1]; exact lN
          have nm3 : ¬ (W3.ev m2.obs.length).Mx Dl := fun z => by
            rcases z with ⟨j, hj⟩ | ⟨n, hn, en⟩
            · exact S3.o0 j Dl hj l3N
            · exact nm (.inr ⟨n, hn, by rw [← en, o3]⟩)
          have lt3 := l.trans l3
          have own3 : ∀ j, j ∉ vs → W3.own j = W.own j := fun j hj => (w3 j fun z => hj (hv j z)).trans (ho j hj)
          have hl' : H' Dl = some (.lst avs) := sm2 _ _ hl
          have le3 : (W2.ev m2.obs.length).Le (W3.ev m2.obs.length) := by
            refine ⟨Nat.le_refl _, fun n _ => congrFun o3 n, fun b z => ?_⟩
            rcases z with z | ⟨j, z⟩ | ⟨n, hn, z⟩
            · exact .inl (by rw [← l3.1]; exact z)
            · by_cases hj : j ∈ is
              · obtain ⟨d3, hd3⟩ := S3.owi j b z
                rcases setTg_get e2 j with ⟨d4, h4⟩ | ⟨h4, _⟩
                · have h5 : env[j]? = some (.ow d3) := hd3
                  rw [h4] at h5; cases h5
                · exact absurd hj h4
              · exact .inr (.inl ⟨j, by rw [← w3 j hj]; exact z⟩)
            · exact .inr (.inr ⟨n, hn, by rw [← o3]; exact z⟩)
          have ra3 : RepL K mg (W3.ev m2.obs.length) H' avs acc := (ra.up sm2).le le3
          cases e3 : ft { m2 with env := env } with
          | no => rw [e3] at h2; cases h2
          | ok b m3 =>
            rw [e3] at h2
            refine ⟨W3, _, S3, b, m3, e3, fun ob3 H3 A3 => ?_⟩
            have hl3 : H3 Dl = some (.lst avs) := A3.1.keep _ _ nm3 hl'
            have nm4 := A3.1.notM hl' nm3
            have ra4 := ra3.ext A3.1 (Wd.sub _ _)
            cases b with
            | false =>
              show if false = true then _ else _
              rw [if_neg (by decide)]
              simp only at h2
              split at h2
              · rename_i hn
                refine ⟨_, { m3 with env := wipeE m3.env vs }, avs, acc, rest, lt3.trans (show Lat W3 { W3 with ob := ob3 } from ⟨rfl, rfl, rfl⟩), own3, nm4, ?_, hl3, ra4, by omega, h2, he⟩
                have := A3.2.wipe hn
                rw [setSt_wipe hv] at this
                have e : L2.wipe (L2.wipe σ vs) vs = L2.wipe σ vs := wipe_idem fun _ z => z
                rw [e] at this
                exact this
              · cases h2
            | true =>
              show if true = true then _ else _
              rw [if_pos rfl]
              simp only at h2
              cases e4 : fe m3 with
              | no => rw [e4] at h2; cases h2
              | ok yv m4 =>
                rw [e4] at h2
                simp only at h2
                split at h2
                · rename_i hn
                  split at h2
                  · rename_i zs mg2 e5
                    cases h2
                    refine ⟨_, m3, A3.2, yv, m4, e4, fun v ob4 H4 A4 rv => ⟨avs, A4.1.keep _ _ nm4 hl3, ?_, ?_⟩⟩
                    · rw [ra.length]; omega
                    · have Sw := A4.2.wipe hn
                      rw [setSt_wipe hv] at Sw
                      have e : L2.wipe (L2.wipe σ vs) vs = L2.wipe σ vs := wipe_idem fun _ z => z
                      rw [e] at Sw
                      have hl4 := A4.1.keep _ _ nm4 hl3
                      have nm5 := A4.1.notM hl3 nm4
                      obtain ⟨S5, up⟩ := Sw.updN (a := Dl) (xs := avs) (ys := avs ++ [v]) l3N nm5 hl4 (by rw [lt3.2.2]; exact hD)
                      refine ⟨_, { m4 with env := wipeE m4.env vs }, avs ++ [v], acc ++ [yv], zs, lt3.trans (show Lat W3 { W3 with ob := ob4 } from ⟨rfl, rfl, rfl⟩), own3, nm5, S5, upd_same, up _ _ ((ra4.ext A4.1 (Wd.sub _ _)).append (.cons rv .nil)), by simp; omega, e5, by simp [he]⟩
                  · cases h2
                · cases h2
      · rw [List.drop_length] at h2
        cases h2
        rw [List.append_nil] at he
        subst he
        have ownE : W2.own = W.own := by
          funext j
          by_cases hj : j ∈ vs
          · have e1 : W2.own j = none := by
              cases e : W2.own j with
              | none => rfl
              | some a =>
                obtain ⟨d, hd⟩ := S2.owi j a e
                obtain ⟨b, _, es, _⟩ := S2.ow j d hd
                exact absurd hj (wipe_some es).2
            have e2 : W.own j = none := by
              cases e : W.own j with
              | none => rfl
              | some a =>
                obtain ⟨d, hd⟩ := S1.owi j a e
                exact absurd hj (noOw_out h0 hd)
            rw [e1, e2]
          · exact ho j hj
        obtain ⟨N0, E0, H0, own2, ob2⟩ := W2
        obtain ⟨l1, l2, l3⟩ := l
        simp only at l1 l2 l3 ownE
        subst l1 l2 l3 ownE
        have S3 := S1.back (S1.unwipe h0 S2.ext S2) rfl rfl
        refine q Dl ob2 H (A.1.nn hD) (A.1.trans (S2.ext.sub rfl rfl (fun b z => ?_) fun b z => .inl z)) (fun z => ?_) S3 ⟨avs, hl, ra⟩
        · exact .inl (z.elim (fun z => .inl (.inl z)) .inr)
        · rcases z with z | z
          · obtain ⟨o, z⟩ := S1.n0 Dl z
            rw [hD] at z; cases z
          · exact nm z
    · cases hf
  · cases hf
theorem ef_lc (hN : X.N.Nodup) (hi : EI X tg iter fi) (ok : BlkOk X.N X.env.scope scope own)
    (hg : ∀ (s : Shared) (H : Hp) (C : Addr) (cl : List (Str × Addr)) (fp : List Addr), GG (X.blk s H scope (compEnvC scope cl C X.env) fp) tg t is)
    (ht : ∀ (s : Shared) (H : Hp) (C : Addr) (cl : List (Str × Addr)) (fp : List Addr), ETs (X.blk s H scope (compEnvC scope cl C X.env) fp) ifs ft)
    (he : ∀ (s : Shared) (H : Hp) (C : Addr) (cl : List (Str × Addr)) (fp : List Addr), EE (X.blk s H scope (compEnvC scope cl C X.env) fp) elt fe)
    (hv : ∀ i ∈ is, i ∈ own.map (·.2) := by decide) (hc : X.calm = true := by rfl) (hs : ∀ x, foldedSetIterable iter X.env x = pure x := by intro _; rfl) :
    EF X (.ListComp elt [⟨tg, iter, ifs, 0⟩] scope pos) (eLc fi t is (own.map (·.2)) ft fe) := PE.imp (pe_lc hc hN hi ok hg ht he hs) fun σ H Q h => lc_rd hv h
end
theorem walk_loop {J : It} {n : Nat} {G : Hp → Prop} {Y : Nat → Hp → V → Hp → Prop} (w : Walk J n G Y) {B : V → Hp → (Hp → Prop) → Prop} {Qd : Hp → Prop} {H0 : Hp} (Pv : Nat → Hp → Prop) (h0 : Pv 0 H0) (hG : ∀ i H, i ≤ n → Pv i H → G H)
    (hs : ∀ i x H H', i < n → Pv i H → Y i H x H' → B x H' (Pv (i + 1))) (hd : ∀ H, Pv n H → Qd H) :
    ∃ W : Nat → Nat → Hp → Prop, (∃ m, W 0 m H0) ∧ ∀ i m H, W i m H →
      (J.stop i H ∧ Qd H) ∨ (J.go i H ∧ ∃ Nx : Hp → Prop, (∀ H', Nx H' → ∃ m', m' < m ∧ W (i + 1) m' H') ∧ ∀ x H', J.yld i H x H' → B x H' Nx) := by
  refine ⟨fun i m H => m = n - i ∧ i ≤ n ∧ Pv i H, ⟨n, by simp, Nat.zero_le _, h0⟩, ?_⟩
  rintro i m H ⟨rfl, hi, p⟩
  have q := hG i H hi p
  by_cases hlt : i < n
  · refine .inr ⟨w.goes i H hlt q, Pv (i + 1), fun H' p' => ⟨n - (i + 1), by omega, rfl, hlt, p'⟩, fun x H' y => hs i x H H' hlt p (w.yields i H x H' hlt q y)⟩
  · have e : i = n := by omega
    subst e
    exact .inl ⟨w.stops H q, hd H p⟩
end PD
namespace PD
open PySem PySem.Spec PyProof.Rows L2
variable [TabC]
def keyD : D → Option Key
  | .int i => some (.inl i)
  | .str x => some (.inr x)
  | _ => none
def keysD : List D → Option (List Key)
  | [] => some []
  | d :: ds => match keyD d with
    | some k => (keysD ds).map (k :: ·)
    | none => none
def keyT : D → Option (List Key)
  | .tup ds => keysD ds
  | _ => none
def dK : Key → D
  | .inl i => .int i
  | .inr x => .str x
section
variable {κ : Type} [DecidableEq κ]
def valD (kds : List (κ × D)) (k : κ) : Option D := (kds.find? fun kv => decide (kv.1 = k)).map (·.2)
def putD (kds : List (κ × D)) (k : κ) (v : D) : List (κ × D) :=
  if (kds.any fun kv => decide (kv.1 = k)) = true then kds.map (fun kv => if kv.1 = k then (kv.1, v) else kv) else kds ++ [(k, v)]
def dropD (kds : List (κ × D)) (k : κ) : List (κ × D) := kds.filter fun kv => decide (kv.1 ≠ k)
end
section
variable {K : PySem.W.Frag} {mg : Str → Option Value} {E : Ev} {H : Hp} {κ : Type} [DecidableEq κ]
structure RepK (K : PySem.W.Frag) (mg : Str → Option Value) (E : Ev) (H : Hp) (kvs : List (κ × V)) (kds : List (κ × D)) : Prop where
  k : kvs.map (·.1) = kds.map (·.1)
  v : RepL K mg E H (kvs.map (·.2)) (kds.map (·.2))
theorem RepK.nil : RepK K mg E H ([] : List (κ × V)) [] := ⟨rfl, .nil⟩
theorem RepK.cons {k : κ} {v : V} {d : D} {kvs : List (κ × V)} {kds : List (κ × D)} (r : Rep K mg E H v d) (t : RepK K mg E H kvs kds) : RepK K mg E H ((k, v) :: kvs) ((k, d) :: kds) :=
  ⟨by rw [List.map_cons, List.map_cons, t.k], .cons r t.v⟩
theorem RepK.ind {P : List (κ × V) → List (κ × D) → Prop} (h0 : P [] []) (hc : ∀ k v d kvs kds, Rep K mg E H v d → RepK K mg E H kvs kds → P kvs kds → P ((k, v) :: kvs) ((k, d) :: kds)) : ∀ {kvs : List (κ × V)} {kds : List (κ × D)}, RepK K mg E H kvs kds → P kvs kds
  | [], [], _ => h0
  | [], _ :: _, r => nomatch r.k
  | _ :: _, [], r => nomatch r.k
  | (k, v) :: kvs, (k', d) :: kds, r => by
    have e1 := r.k
    rw [List.map_cons, List.map_cons] at e1
    injection e1 with e1 e2
    have e1' : k = k' := e1
    subst e1'
    cases r.v with
    | cons rv rt => exact hc _ _ _ _ _ rv ⟨e2, rt⟩ (RepK.ind h0 hc ⟨e2, rt⟩)
theorem RepK.val {kvs : List (κ × V)} {kds : List (κ × D)} (r : RepK K mg E H kvs kds) (k : κ) : (valV kvs k = none ∧ valD kds k = none) ∨ ∃ v d, valV kvs k = some v ∧ valD kds k = some d ∧ Rep K mg E H v d := by
  refine RepK.ind (P := fun kvs kds => (valV kvs k = none ∧ valD kds k = none) ∨ ∃ v d, valV kvs k = some v ∧ valD kds k = some d ∧ Rep K mg E H v d) (.inl ⟨rfl, rfl⟩) (fun k' v d kvs kds rv _ ih => ?_) r
  by_cases e : k' = k
  · refine .inr ⟨v, d, valV_pos e, ?_, rv⟩
    simp [valD, List.find?_cons, e]
  · have h2 : valD ((k', d) :: kds) k = valD kds k := by simp [valD, List.find?_cons, e]
    rw [valV_neg e, h2]
    exact ih
theorem RepK.any {kvs : List (κ × V)} {kds : List (κ × D)} (r : RepK K mg E H kvs kds) (k : κ) : (kvs.any fun kv => decide (kv.1 = k)) = kds.any fun kv => decide (kv.1 = k) := by
  refine RepK.ind (P := fun kvs kds => (kvs.any fun kv => decide (kv.1 = k)) = kds.any fun kv => decide (kv.1 = k)) rfl (fun k' v d kvs kds rv _ ih => ?_) r
  rw [List.any_cons, List.any_cons, ih]
theorem RepK.append {kvs kvs' : List (κ × V)} {kds kds' : List (κ × D)} (r : RepK K mg E H kvs kds) (r' : RepK K mg E H kvs' kds') : RepK K mg E H (kvs ++ kvs') (kds ++ kds') :=
  ⟨by rw [List.map_append, List.map_append, r.k, r'.k], by rw [List.map_append, List.map_append]; exact r.v.append r'.v⟩
theorem RepK.put {kvs : List (κ × V)} {kds : List (κ × D)} (r : RepK K mg E H kvs kds) (k : κ) {v : V} {d : D} (rv : Rep K mg E H v d) : RepK K mg E H (putK kvs k v) (putD kds k d) := by
  unfold putK putD
  rw [r.any k]
  split
  · refine RepK.ind (P := fun kvs kds => RepK K mg E H (kvs.map fun kv => if kv.1 = k then (kv.1, v) else kv) (kds.map fun kv => if kv.1 = k then (kv.1, d) else kv)) .nil (fun k' v' d' kvs kds rv' _ ih => ?_) r
    rw [List.map_cons, List.map_cons]
    by_cases e : k' = k
    · rw [if_pos e, if_pos e]; exact .cons rv ih
    · rw [if_neg e, if_neg e]; exact .cons rv' ih
  · exact r.append (.cons rv .nil)
theorem RepK.drop {kvs : List (κ × V)} {kds : List (κ × D)} (r : RepK K mg E H kvs kds) (k : κ) : RepK K mg E H (dropK kvs k) (dropD kds k) := by
  unfold dropK dropD
  refine RepK.ind (P := fun kvs kds => RepK K mg E H (kvs.filter fun kv => decide (kv.1 ≠ k)) (kds.filter fun kv => decide (kv.1 ≠ k))) .nil (fun k' v' d' kvs kds rv' _ ih => ?_) r
  by_cases e : k' = k
  · simp only [List.filter_cons, e, ne_eq, not_true_eq_false, decide_false, Bool.false_eq_true, if_false]; exact ih
  · simp only [List.filter_cons, e, ne_eq, not_false_eq_true, decide_true, if_true]; exact .cons rv' ih
theorem RepK.len {kvs : List (κ × V)} {kds : List (κ × D)} (r : RepK K mg E H kvs kds) : kvs.length = kds.length := by
  have := congrArg List.length r.k
  simpa using this
theorem rep_key {v : V} {d : D} {k : Key} (r : Rep K mg E H v d) (h : keyD d = some k) : v = kV k := by
  cases d <;> first
    | (cases h; done)
    | (cases h; cases r; rfl)
theorem repL_keys : ∀ {vs : List V} {ds : List D} {ks : List Key}, RepL K mg E H vs ds → keysD ds = some ks → vs = ks.map kV
  | _, _, _, .nil, h => by cases h; rfl
  | _, _, _, .cons (d := d) r t, h => by
    unfold keysD at h
    split at h
    · rename_i k e
      obtain ⟨ks', h1, rfl⟩ := Option.map_eq_some_iff.mp h
      rw [rep_key r e, repL_keys t h1]
      rfl
    · cases h
theorem rep_dK (k : Key) : Rep K mg E H (kV k) (dK k) := by cases k <;> constructor
def dgetD (d k : D) : Option (Option D) := match d with
  | .dk kds => (keyD k).map (valD kds)
  | .dt kds => (keyT k).map (valD kds)
  | _ => none
theorem dget_of {x y : V} {d k : D} {od : Option D} (rd : RepV K mg E H x d) (rk : RepV K mg E H y k) (h : dgetD d k = some od) :
    ∃ a o, x = .ref a ∧ IsD H a ∧ DGet H a y o ∧ (od = none → o = none) ∧ ∀ c, od = some c → ∃ v, o = some v ∧ Rep K mg E H v c := by
  unfold dgetD at h
  split at h
  · rename_i kds
    obtain ⟨kk, h1, rfl⟩ := Option.map_eq_some_iff.mp h
    obtain ⟨a, kvs, rfl, ha, hk, hv⟩ := rd.dk
    have rk' : Rep K mg E H y k := by
      cases k <;> first
        | (cases h1; done)
        | exact rk.rep_flat rfl
    have e := rep_key rk' h1
    subst e
    refine ⟨a, valV kvs kk, rfl, .inl ⟨_, ha⟩, .inl ⟨kvs, kk, ha, rfl, rfl⟩, fun e => ?_, fun c e => ?_⟩
    · rcases (RepK.mk hk hv).val kk with ⟨z, _⟩ | ⟨v, d, _, z, _⟩
      · exact z
      · rw [z] at e; cases e
    · rcases (RepK.mk hk hv).val kk with ⟨_, z⟩ | ⟨v, d, z1, z, r⟩
      · rw [z] at e; cases e
      · rw [z] at e; cases e; exact ⟨v, z1, r⟩
  · rename_i kds
    obtain ⟨kk, h1, rfl⟩ := Option.map_eq_some_iff.mp h
    obtain ⟨a, kvs, rfl, ha, hk, hv⟩ := rd.dt
    cases k <;> first
      | (cases h1; done)
      | skip
    rename_i ks
    obtain ⟨b, vs, rfl, hb, rb⟩ := rk.tup
    have e := repL_keys rb h1
    subst e
    refine ⟨a, valV kvs kk, rfl, .inr ⟨_, ha⟩, .inr ⟨kvs, kk, b, ha, rfl, hb, rfl⟩, fun e => ?_, fun c e => ?_⟩
    · rcases (RepK.mk hk hv).val kk with ⟨z, _⟩ | ⟨v, d, _, z, _⟩
      · exact z
      · rw [z] at e; cases e
    · rcases (RepK.mk hk hv).val kk with ⟨_, z⟩ | ⟨v, d, z1, z, r⟩
      · rw [z] at e; cases e
      · rw [z] at e; cases e; exact ⟨v, z1, r⟩
  · cases h
def dixD (d k : D) : Option D := (dgetD d k).bind id
def dinD (k d : D) : Option D := (dgetD d k).map fun o => .bl o.isSome
def dninD (k d : D) : Option D := (dgetD d k).map fun o => .bl !o.isSome
theorem opd_dix : OpD K mg dixD (fun x y H Q => ∃ a v, x = .ref a ∧ DGet H a y (some v) ∧ Q v H) := fun E H x y d1 d2 d Q hN r1 r2 g q => by
  unfold dixD at g
  obtain ⟨o, h, e⟩ := Option.bind_eq_some_iff.mp g
  obtain ⟨a, ov, rfl, _, hg, _, h2⟩ := dget_of r1 r2 h
  obtain ⟨v, rfl, rv⟩ := h2 d e
  exact ⟨a, v, rfl, hg, q _ _ (Same.refl _) rv⟩
theorem opd_din : OpD K mg dinD (fun y x H Q => ∃ a o, x = .ref a ∧ DGet H a y o ∧ Q (.bl o.isSome) H) := fun E H x y d1 d2 d Q hN r1 r2 g q => by
  obtain ⟨o, h, rfl⟩ := Option.map_eq_some_iff.mp g
  obtain ⟨a, ov, rfl, _, hg, h1, h2⟩ := dget_of r2 r1 h
  have e : ov.isSome = o.isSome := by
    cases o with
    | none => rw [h1 rfl]; rfl
    | some c => obtain ⟨v, e, _⟩ := h2 c rfl; rw [e]; rfl
  exact ⟨a, ov, rfl, hg, q _ _ (Same.refl _) (by rw [e]; exact .bl _)⟩
theorem opd_dnin : OpD K mg dninD (fun y x H Q => ∃ a o, x = .ref a ∧ DGet H a y o ∧ Q (.bl (!o.isSome)) H) := fun E H x y d1 d2 d Q hN r1 r2 g q => by
  obtain ⟨o, h, rfl⟩ := Option.map_eq_some_iff.mp g
  obtain ⟨a, ov, rfl, _, hg, h1, h2⟩ := dget_of r2 r1 h
  have e : ov.isSome = o.isSome := by
    cases o with
    | none => rw [h1 rfl]; rfl
    | some c => obtain ⟨v, e, _⟩ := h2 c rfl; rw [e]; rfl
  exact ⟨a, ov, rfl, hg, q _ _ (Same.refl _) (by rw [e]; exact .bl _)⟩
end
def orD (f g : D → D → Option D) (b : D → D → Bool) (x y : D) : Option D := if b x y = true then f x y else g x y
def isDict : D → Bool
  | .dk _ => true
  | .dt _ => true
  | _ => false
theorem Co.bind_of {α β : Type} {c : Co α} {k : α → Co β} {m m1 : M} {a : α} {r : Res β} (h : c m = .ok a m1) (h2 : k a m1 = r) : Co.bind c k m = r := by
  unfold Co.bind; rw [h]; exact h2
theorem Opd2.of {g : D → D → Option D} {o1 o2 : Opd} {m : M} {d1 d2 d : D} (h1 : o1.get m = some d1) (h2 : o2.get m = some d2) (h3 : g d1 d2 = some d) : Opd2 g o1 o2 m = .ok d m := by
  unfold Opd2; simp only [h1, h2, h3]
theorem eOp_orP {f g : D → D → Option D} {b : D → D → Bool} {g1 g2 : Co Opd} {m m' : M} {d : D} (hf : eOp (orD f g b) g1 g2 m = .ok d m') : eOp f g1 g2 m = .ok d m' ∨ eOp g g1 g2 m = .ok d m' := by
  obtain ⟨o1, m1, e1, hf⟩ := Co.bind_ok hf
  obtain ⟨o2, m2, e2, hf⟩ := Co.bind_ok hf
  obtain ⟨d1, d2, k1, k2, k3, rfl⟩ := Opd2.ok hf
  unfold orD at k3
  split at k3
  · exact .inl (Co.bind_of e1 (Co.bind_of e2 (Opd2.of k1 k2 k3)))
  · exact .inr (Co.bind_of e1 (Co.bind_of e2 (Opd2.of k1 k2 k3)))
theorem eOp_or {K : PySem.W.Frag} {mg : Str → Option Value} {f g : D → D → Option D} {b : D → D → Bool} {g1 g2 : Co Opd} {σ : L2.St} {H : Hp} {Q : VK} (h : rdE K mg (eOp (orD f g b) g1 g2) σ H Q) : rdE K mg (eOp f g1 g2) σ H Q ∨ rdE K mg (eOp g g1 g2) σ H Q := by
  obtain ⟨W, m, S, d, m', hf, q⟩ := h
  rcases eOp_orP hf with h | h
  · exact .inl ⟨W, m, S, d, m', h, q⟩
  · exact .inr ⟨W, m, S, d, m', h, q⟩
theorem rdT_or {K : PySem.W.Frag} {mg : Str → Option Value} {f g : D → D → Option D} {b : D → D → Bool} {g1 g2 : Co Opd} {σ : L2.St} {H : Hp} {Q : Bool → Hp → Prop} (h : rdT K mg (tB' (eOp (orD f g b) g1 g2)) σ H Q) : rdT K mg (tB' (eOp f g1 g2)) σ H Q ∨ rdT K mg (tB' (eOp g g1 g2)) σ H Q := by
  obtain ⟨W, m, S, b, m', hf, q⟩ := h
  obtain ⟨d, m1, e1, e2⟩ := Co.bind_ok hf
  rcases eOp_orP e1 with h | h
  · exact .inl ⟨W, m, S, b, m', Co.bind_of h e2, q⟩
  · exact .inr ⟨W, m, S, b, m', Co.bind_of h e2, q⟩
section
variable {X : Cx} {a b c e f2 : Expr} {es : List Expr} {pos apos cpos tp : Pos} {f fe fd fi : Co D} {g g1 g2 g3 : Co Opd} {fs : Co (List D)} {gs : Co (List Opd)} {st : Stmt} {x : Str} {p : Pos}
theorem PE.or {t t' : TE} (h : PE X e t) (h' : PE X e t') : PE X e (fun σ H Q => t σ H Q ∨ t' σ H Q) := ⟨fun pins s σ H Q I q => q.elim (h.run pins s σ H Q I) (h'.run pins s σ H Q I)⟩
theorem PT.or {t t' : TT} (h : PT X e t) (h' : PT X e t') : PT X e (fun σ H Q => t σ H Q ∨ t' σ H Q) := ⟨fun pins s σ H Q I q => q.elim (h.run pins s σ H Q I) (h'.run pins s σ H Q I)⟩
theorem PS.or {t t' : TS} (h : PS X st t) (h' : PS X st t') : PS X st (fun D σ H => t D σ H ∨ t' D σ H) := ⟨fun pins s σ H D I q => q.elim (h.run pins s σ H D I) (h'.run pins s σ H D I)⟩
def subD' : D → D → Option D := orD dixD ixD fun x _ => isDict x
theorem ee_sub (hu : X.A.units + 1 < cLine) (ha : EB X a g1) (hb : EB X b g2) (hs : PlainIx b := by exact fun _ _ => rfl) (hs2 : NoSl b := by exact fun _ _ => rfl) : EE X (.Subscript a b pos) (eOp subD' g1 g2) :=
  PE.imp (PE.or (pe_dget hu ha hb hs2) (pe_ix ix_seq ha hb hs)) fun σ H Q h => by
    rcases eOp_or h with h | h
    · exact .inl (bin2 opd_dix (fun _ q => q) (fun _ _ q => q) h)
    · exact .inr (bin2 opd_ix (fun _ q => q) (fun _ _ q => q) h)
def inU : D → D → Option D := orD dinD inD fun _ y => isDict y
def notInU : D → D → Option D := orD dninD notInD fun _ y => isDict y
theorem ee_in (hu : X.A.units + 65 < cLine) (ha : EB X a g1) (hb : EB X b g2) (hm : behindInMarks .In b = false := by first | exact nobehind _ (by decide) (by decide) | rfl) : EE X (.Compare a [.In] [b] pos) (eOp inU g1 g2) :=
  PE.imp (PE.or (pe_cmp (pc_din (by omega) ha hb) hm) (pe_cmpR (op_inAll hu) ha hb hm)) fun σ H Q h => by
    rcases eOp_or h with h | h
    · exact .inl (bin2 opd_din (fun _ q => q) (fun _ _ q => q) h)
    · exact .inr (bin2 opd_in (fun _ q => q) (fun _ _ q => q) h)
theorem et_notIn (hu : X.A.units + 65 < cLine) (ha : EB X a g1) (hb : EB X b g2) (hm : behindInMarks .NotIn b = false := by first | exact nobehind _ (by decide) (by decide) | rfl) : ET X (.Compare a [.NotIn] [b] pos) (tB' (eOp notInU g1 g2)) :=
  PT.imp (PT.or (pt_cmp (pc_dnotin (by omega) ha hb) hm) (pt_cmpR (op_notInAll hu) ha hb hm)) fun σ H Q h => by
    rcases rdT_or h with h | h
    · exact .inl (bin2 opd_dnin (fun _ q => q) (fun _ _ q => q) (rdT_of h))
    · exact .inr (bin2 opd_notIn (fun _ q => q) (fun _ _ q => q) (rdT_of h))
def isD' (g : Co Opd) : Co Opd := Co.bind g fun o m => match o.get m with
  | some (.dk _) => .ok o m
  | some (.dt _) => .ok o m
  | _ => .no
theorem isD'_ok {m m' : M} {o : Opd} (h : isD' g m = .ok o m') : ∃ d, g m = .ok o m' ∧ o.get m' = some d ∧ isDict d = true := by
  obtain ⟨o1, m1, e1, h⟩ := Co.bind_ok h
  split at h
  · rename_i ds e; cases h; exact ⟨_, e1, e, rfl⟩
  · rename_i ds e; cases h; exact ⟨_, e1, e, rfl⟩
  · cases h
theorem isD_view {K : PySem.W.Frag} {mg : Str → Option Value} {E : Ev} {H : Hp} {v : V} {d : D} (r : RepV K mg E H v d) (h : isDict d = true) : ∃ a, v = .ref a ∧ IsD H a := by
  cases d <;> first
    | (cases h; done)
    | skip
  · obtain ⟨a, kvs, rfl, ha, _⟩ := r.dk
    exact ⟨a, rfl, .inl ⟨_, ha⟩⟩
  · obtain ⟨a, kvs, rfl, ha, _⟩ := r.dt
    exact ⟨a, rfl, .inr ⟨_, ha⟩⟩
def eGet2 (g : Co Opd) (f fd : Co D) : Co D := Co.bind (isD' g) fun o => Co.bind f fun k => Co.bind fd fun z m => match o.get m with
  | some d => match dgetD d k with
    | some (some v) => .ok v m
    | some none => .ok z m
    | none => .no
  | none => .no
theorem ee_get2 (hu : X.A.units + 1 < cLine) (ha : EB X a g) (hb : EE X b f) (hc : EE X c fd) (m2 : M2 X a "get" apos b c cpos := by exact ⟨rfl, rfl, rfl, rfl⟩) : EE X (.Call (.Attribute a "get" apos) [b, c] [] cpos) (eGet2 g f fd) :=
  PE.imp (pe_dget2 hu ha hb hc m2) fun σ H Q ⟨W, m, S, d, m', hf, q⟩ => by
    obtain ⟨o, m1, e1, hf⟩ := Co.bind_ok hf
    obtain ⟨k, m2, e2, hf⟩ := Co.bind_ok hf
    obtain ⟨z, m3, e3, hf⟩ := Co.bind_ok hf
    obtain ⟨dd, e1, k1, hd⟩ := isD'_ok e1
    refine ⟨W, m, S, o, m1, e1, fun x ob1 H1 A1 r1 => ?_⟩
    obtain ⟨a0, rfl, isd⟩ := isD_view (r1.view A1.2 k1) hd
    refine ⟨a0, rfl, isd, _, m1, A1.2, k, m2, e2, fun y ob2 H2 A2 r2 => ⟨_, m2, A2.2, z, m3, e3, fun w ob3 H3 A3 r3 => ?_⟩⟩
    split at hf
    · rename_i d1 k3
      have A := A1.trans (A2.trans A3)
      have v1 := (A3.repO (A2.repO r1)).view A3.2 k3
      split at hf
      · rename_i v hv
        cases hf
        obtain ⟨a1, ov, ea, _, hg, _, h2⟩ := dget_of v1 (.of (A3.rep r2)) hv
        cases ea
        obtain ⟨u, rfl, ru⟩ := h2 _ rfl
        exact ⟨_, hg, q u ob3 H3 A ru⟩
      · rename_i hv
        cases hf
        obtain ⟨a1, ov, ea, _, hg, h1, _⟩ := dget_of v1 (.of (A3.rep r2)) hv
        cases ea
        rw [h1 rfl] at hg
        exact ⟨_, hg, q w ob3 H3 A r3⟩
      · cases hf
    · cases hf
theorem ef_dnewK : EF X (.Dict [] [] pos) (Co.ret (.dk [])) := PE.imp pe_dnewK fun σ H Q ⟨W, m, S, d, m', hf, q⟩ => by
  cases hf
  exact fun p hp => fin_dk (kvs := []) (kds := []) (.refl S) hp rfl .nil q
theorem ef_dnewT : EF X (.Dict [] [] pos) (Co.ret (.dt [])) := PE.imp pe_dnewT fun σ H Q ⟨W, m, S, d, m', hf, q⟩ => by
  cases hf
  exact fun p hp => fin_dt (kvs := []) (kds := []) (.refl S) hp rfl .nil q
def pCons (fk fv : Co D) (r : Co (List (Key × D))) : Co (List (Key × D)) := Co.bind fk fun dk => Co.bind (Co.lift (keyD dk)) fun k => Co.bind fv fun v => Co.bind r fun t => Co.ret ((k, v) :: t)
def mergeD (more : List (Key × D)) : List (Key × D) := more.foldl (fun acc kv => putD acc kv.1 kv.2) []
theorem sm_none {H H' : Hp} (sm : Same H H') {b : Addr} (h : H' b = none) : H b = none := by
  cases q : H b with
  | none => rfl
  | some o => rw [sm _ _ q] at h; cases h
def eDisp (f : Co (List (Key × D))) : Co D := Co.bind f fun kds => if kds.length ≤ 15 then Co.ret (.dk (mergeD kds)) else fun _ => .no
end
end PD
namespace PD
open PySem PySem.Spec PyProof.Rows L2
variable [TabC]
def updW (i : Nat) (h : D → Option D) : Co Unit := fun m => match m.env[i]? with
  | some (.ow d) => match h d with
    | some d' => .ok () { m with env := m.env.set i (.ow d') }
    | none => .no
  | _ => .no
def asSlot (g : Co Opd) : Co Nat := Co.bind g fun o m => match o with
  | .slot i => .ok i m
  | _ => .no
def putDD (k v : D) : D → Option D
  | .dk kds => match keyD k with
    | some kk => if kds.length < sizeLine then some (.dk (putD kds kk v)) else none
    | none => none
  | .dt kds => match keyT k with
    | some kk => if kds.length < sizeLine then some (.dt (putD kds kk v)) else none
    | none => none
  | _ => none
section
variable {K : PySem.W.Frag} {mg : Str → Option Value} {W : Wd} {σ : L2.St} {H : Hp} {m m' : M}
theorem asSlot_ok {g : Co Opd} {i : Nat} (h : asSlot g m = .ok i m') : g m = .ok (.slot i) m' := by
  obtain ⟨o, m1, e1, h⟩ := Co.bind_ok h
  cases o with
  | val d => cases h
  | slot j => cases h; exact e1
theorem updW_ok {i : Nat} {h : D → Option D} {u : Unit} (e : updW i h m = .ok u m') : ∃ d d', m.env[i]? = some (.ow d) ∧ h d = some d' ∧ m' = { m with env := m.env.set i (.ow d') } := by
  unfold updW at e
  split at e
  · rename_i d hd
    cases e2 : h d with
    | none => rw [e2] at e; cases e
    | some d' => rw [e2] at e; cases e; exact ⟨d, d', hd, e2, rfl⟩
  · cases e
theorem put_sit {i : Nat} {k v : D} {d d' : D} {a : Addr} {x y : V} (S : Sit K mg W σ H m) (ea : W.own i = some a) (he : m.env[i]? = some (.ow d)) (hp : putDD k v d = some d') (rk : Rep K mg (W.ev m.obs.length) H x k) (rv : Rep K mg (W.ev m.obs.length) H y v) :
    ∃ H', DPut H a x y H' ∧ Ext (W.ev m.obs.length) H (W.ev m.obs.length) H' ∧ Sit K mg W σ H' { m with env := m.env.set i (.ow d') } := by
  obtain ⟨b, eb, _, c⟩ := S.ow i d he
  rw [ea] at eb; cases eb
  unfold putDD at hp
  split at hp
  · rename_i kds
    split at hp
    · rename_i kk ek
      split at hp
      · rename_i hz
        cases hp
        obtain ⟨kvs, ha, l, r⟩ := c
        have rk' : RepK K mg (W.ev m.obs.length) H kvs kds := ⟨l, r⟩
        have e := rep_key rk ek
        subst e
        refine ⟨_, DPut.k ha (by rw [rk'.len]; exact hz), S.updOw he ea fun x => ?_⟩
        have q := rk'.put kk rv
        exact ⟨_, upd_same, q.k, q.v.ext x (W.sub _)⟩
      · cases hp
    · cases hp
  · rename_i kds
    split at hp
    · rename_i kk ek
      split at hp
      · rename_i hz
        cases hp
        obtain ⟨kvs, ha, l, r⟩ := c
        have rk' : RepK K mg (W.ev m.obs.length) H kvs kds := ⟨l, r⟩
        cases k <;> first
          | (cases ek; done)
          | skip
        cases rk with
        | tup hb rb =>
          have e := repL_keys rb ek
          subst e
          refine ⟨_, DPut.t ha hb (by rw [rk'.len]; exact hz), S.updOw he ea fun x => ?_⟩
          have q := rk'.put kk rv
          exact ⟨_, upd_same, q.k, q.v.ext x (W.sub _)⟩
      · cases hp
    · cases hp
  · cases hp
end
def sDPut' (g : Co Opd) (fi fe : Co D) : Co Flow' := Co.bind fe fun d => Co.bind (asSlot g) fun i => Co.bind fi fun k => Co.bind (updW i (putDD k d)) fun _ => Co.ret .nx
def sPut (g : Co Opd) (fi fe : Co D) : Co Flow' := fun m => match sDPut' g fi fe m with
  | .ok fl m' => .ok fl m'
  | .no => sLSet g fi fe m
section
variable {X : Cx} {a b e : Expr} {pos tp : Pos} {fi fe : Co D} {g : Co Opd}
theorem rdS_dput {D : Ends} {σ : L2.St} {H : Hp} (h : rdS X.K X.mg (sDPut' g fi fe) D σ H) : sDPut (rdB X.K X.mg g) (rdE X.K X.mg fi) (rdE X.K X.mg fe) D σ H := by
  obtain ⟨W, m, S, fl, m', hf, q⟩ := h
  obtain ⟨d, m1, e1, hf⟩ := Co.bind_ok hf
  obtain ⟨i, m2, e2, hf⟩ := Co.bind_ok hf
  obtain ⟨k, m3, e3, hf⟩ := Co.bind_ok hf
  obtain ⟨_, m4, e4, hf⟩ := Co.bind_ok hf
  cases hf
  obtain ⟨dd, dd', h1, h2, em⟩ := updW_ok e4
  refine ⟨W, m, S, d, m1, e1, fun v ob1 H1 A1 r1 => ⟨_, m1, A1.2, .slot i, m2, asSlot_ok e2, fun w ob2 H2 A2 r2 => ⟨_, m2, A2.2, k, m3, e3, fun u ob3 H3 A3 r3 => ?_⟩⟩⟩
  obtain ⟨a, ea, rfl⟩ := r2
  obtain ⟨H4, hp, _, S4⟩ := put_sit A3.2 ea h1 h2 r3 (A3.rep (A2.rep r1))
  subst em
  exact ⟨a, H4, rfl, hp, q { W with ob := ob3 } σ _ ⟨rfl, rfl, rfl⟩ S4⟩
theorem ss_put (hu : X.A.units + 1 < cLine) (he : EE X e fe) (hg : EB X a g) (hi : EE X b fi)
    (hp : ∀ {to ti : TE} {t : TSet}, PE X a to → PE X b ti → PSet X t → PG X (.Subscript a b tp) (gSub to ti t) := by exact fun ho hi hs => pg_sub ho hi hs)
    (hs : swapsWithSole [.Subscript a b tp] e pos.line X.env = pure false := by rfl) (hs1 : swapsWith e (some (.Subscript a b tp)) pos.line X.env = pure false := by rfl)
    (hw : swappedStores [.Subscript a b tp] e X.env = pure none := by rfl) (h1 : (assignEach [.Subscript a b tp] X.env).map (·.2) = [assign (.Subscript a b tp) X.env] := by rfl) : SS X (.Assign [.Subscript a b tp] e pos) (sPut g fi fe) :=
  PS.imp (PS.or (ps_dput hu hg hi he hs1) (ss_lset he hg hi hp hs hw h1)) fun D σ H ⟨W, m, S, fl, m', hf, q⟩ => by
    unfold sPut at hf
    split at hf
    · rename_i e5
      cases hf
      exact .inl (rdS_dput ⟨W, m, S, _, _, e5, q⟩)
    · exact .inr ⟨W, m, S, fl, m', hf, q⟩
def sAug (op : Int → Int → Int) (i : Nat) (f : Co D) : Co Flow' := fun m => match m.env[i]? with
  | some (.pl (.int u)) => (Co.bind f fun d m => match d with
    | .int w => .ok .nx { m with env := m.env.set i (.pl (.int (op u w))) }
    | _ => .no) m
  | _ => .no
end
section
variable {X : Cx} {K : PySem.W.Frag} {mg : Str → Option Value}
theorem CallD.or {g g' : List D → Option D} {r r' : List V → Hp → VK → Prop} (h : CallD K mg g r) (h' : CallD K mg g' r') : CallD K mg (fun ds => match g ds with | some d => some d | none => g' ds) (fun xs H Q => r xs H Q ∨ r' xs H Q) := fun E H xs ds d Q hN r g q => by
  simp only at g
  split at g
  · rename_i e; cases g; exact .inl (h E H xs ds d Q hN r e q)
  · exact .inr (h' E H xs ds d Q hN r g q)
theorem CallF.or {g g' : List D → Option D} {r r' : List V → Hp → VK → Prop} (h : CallF K mg g r) (h' : CallF K mg g' r') : CallF K mg (fun ds => match g ds with | some d => some d | none => g' ds) (fun xs H Q => r xs H Q ∨ r' xs H Q) := fun E H xs ds d Q r g q => by
  simp only at g
  split at g
  · rename_i e; cases g; exact .inl (h E H xs ds d Q r e q)
  · exact .inr (h' E H xs ds d Q r g q)
theorem call_lenK : CallR X (.builtin "len") (fun xs H Q => ∃ a kvs, xs = [V.ref a] ∧ Rd H a (.dK kvs) ∧ Q (.int kvs.length) H) := by
  intro pins s σ H xs us Q I r h
  obtain ⟨a, kvs, rfl, ha, q⟩ := h
  obtain ⟨u, rfl, ru⟩ := vals1 r
  cases ru
  exact d_len I ha fun t s' I' => ⟨.int kvs.length, H, I', ⟨t, rfl⟩, q⟩
def lenKD : List D → Option D
  | [.dk xs] => some (.int xs.length)
  | _ => none
theorem cd_lenK : CallD K mg lenKD (fun xs H Q => ∃ a kvs, xs = [V.ref a] ∧ Rd H a (.dK kvs) ∧ Q (.int kvs.length) H) := fun E H xs ds d Q hN r g q => by
  unfold lenKD at g
  split at g
  · cases g
    cases r with
    | cons r t =>
      cases t
      obtain ⟨a, kvs, rfl, ha, l, rv⟩ := r.dk
      refine ⟨a, kvs, rfl, ha, q _ _ (Same.refl _) ?_⟩
      rw [(RepK.mk l rv).len]
      exact .int _
  · cases g
def listKD : List D → Option D
  | [.dk xs] => some (.lst (xs.map fun kv => dK kv.1))
  | _ => none
theorem repL_dK {κ : Type} {E : Ev} {H : Hp} : ∀ (ks : List Key), RepL K mg E H (ks.map kV) (ks.map dK)
  | [] => .nil
  | k :: ks => .cons (rep_dK k) (repL_dK (κ := κ) ks)
theorem cf_listK : CallF K mg listKD (fun xs H Q => ∃ (a : Addr) (kvs : List (Key × V)), xs = [.ref a] ∧ Rd H a (.dK kvs) ∧ ∀ p, H p = none → Q (.ref p) (upd H p (.lst (kvs.map fun kv => kV kv.1)))) := fun E H xs ds es Q r g q => by
  unfold listKD at g
  split at g
  · cases g
    cases r with
    | cons r t =>
      cases t
      obtain ⟨a, kvs, rfl, ha, l, rv⟩ := r.dk
      refine ⟨a, kvs, rfl, ha, fun p hp => q p _ hp ?_⟩
      have := repL_dK (K := K) (mg := mg) (κ := Key) (E := E) (H := H) (kvs.map (·.1))
      rw [List.map_map] at this
      rw [l, List.map_map] at this
      exact this
  · cases g
def dictD : List D → Option D
  | [.dk xs] => some (.dk xs)
  | _ => none
end
section
variable {X : Cx} {a b e : Expr} {es : List Expr} {pos p : Pos} {gs : Co (List Opd)} {fs : Co (List D)} {f f1 f2 : Co D}
def rdR (K : PySem.W.Frag) (mg : Str → Option Value) (f : Co (Int × Int)) : L2.St → Hp → (Int → Int → Hp → Prop) → Prop := fun σ H Q => ∃ W m, Sit K mg W σ H m ∧ ∃ ij m', f m = .ok ij m' ∧ ∀ ob' H', After K mg W σ H m ob' H' m' → Q ij.1 ij.2 H'
def toI (f : Co D) : Co Int := Co.bind f fun d m => match d with
  | .int i => .ok i m
  | _ => .no
theorem toI_ok {m m' : M} {i : Int} (h : toI f m = .ok i m') : f m = .ok (.int i) m' := by
  obtain ⟨d, m1, e, h⟩ := Co.bind_ok h
  cases d <;> first
    | (cases h; done)
    | (cases h; exact e)
def rR1 (f : Co D) : Co (Int × Int) := Co.bind (toI f) fun j => Co.ret (0, j)
def rR2 (f1 f2 : Co D) : Co (Int × Int) := Co.bind (toI f1) fun i => Co.bind (toI f2) fun j => Co.ret (i, j)
theorem PRg.imp {t t' : L2.St → Hp → (Int → Int → Hp → Prop) → Prop} (h : PRg X e t) (g : ∀ σ H Q, t' σ H Q → t σ H Q) : PRg X e t' := fun pins s σ H Q I q => h pins s σ H Q I (g σ H Q q)
theorem er_1 (hm : X.mg "range" = none) (ha : EE X a f) (hg : Gl X "range" := by rfl) (na : starEach [a] X.env = (false, eval a X.env) :: starEach [] X.env := by rfl) : PRg X (.Call (.Name "range" p) [a] [] pos) (rdR X.K X.mg (rR1 f)) :=
  PRg.imp (prg_1 hg hm ha na) fun σ H Q ⟨W, m, S, ij, m', hf, q⟩ => by
    obtain ⟨j, m1, e1, hf⟩ := Co.bind_ok hf
    cases hf
    refine ⟨W, m, S, _, _, toI_ok e1, fun v ob' H' A r => ?_⟩
    cases r
    exact ⟨_, rfl, q ob' H' A⟩
instance {a b : Int} : Decidable (RgOk a b) := inferInstanceAs (Decidable (_ ∧ _ ∧ _ ∧ _ ∧ _))
def eLRg (r : Co (Int × Int)) : Co D := Co.bind r fun ij m => if RgOk ij.1 ij.2 then .ok (.lst (rgD ij.1 ij.2)) m else .no
def eTRg (r : Co (Int × Int)) : Co D := Co.bind r fun ij m => if RgOk ij.1 ij.2 then .ok (.tup (rgD ij.1 ij.2)) m else .no
theorem repL_rg {K : PySem.W.Frag} {mg : Str → Option Value} {E : Ev} {H : Hp} (a b : Int) : RepL K mg E H (rgV a b) (rgD a b) := by
  unfold rgV rgD
  generalize List.range (b - a).toNat = l
  induction l with
  | nil => exact .nil
  | cons n l ih => exact .cons (.int _) ih
theorem ee_trg {r : Co (Int × Int)} (hm : X.mg "tuple" = none) (he : PRg X e (rdR X.K X.mg r)) (hc : X.calm = true := by rfl) (hg : Gl X "tuple" := by rfl) (na : starEach [e] X.env = (false, eval e X.env) :: starEach [] X.env := by rfl) :
    EE X (.Call (.Name "tuple" p) [e] [] pos) (eTRg r) := PE.imp (pe_tupRg hc hg hm he na) fun σ H Q ⟨W, m, S, d, m', hf, q⟩ => by
  obtain ⟨ij, m1, e1, hf⟩ := Co.bind_ok hf
  split at hf
  · rename_i hz
    cases hf
    exact ⟨W, m, S, ij, _, e1, fun ob' H' A => ⟨hz, fun p hp => q _ ob' _ (A.trans (.same A.2 (same_new hp _))) (.newT hp (repL_rg _ _))⟩⟩
  · cases hf
end
def tyD : D → Option String
  | .non => some "NoneType"
  | .bl _ => some "bool"
  | .int _ => some "int"
  | .str _ => some "str"
  | .tup _ => some "tuple"
  | .xt _ => some "tuple"
  | .lst _ => some "list"
  | .dk _ => some "dict"
  | .dt _ => some "dict"
  | _ => none
def isB (t n : String) : Bool := t == n || (t == "bool" && n == "int")
def tyNs : List String := ["NoneType", "bool", "int", "str", "tuple", "list", "dict"]
def clNs : List String := ["bool", "int", "str", "tuple", "list", "dict"]
theorem kit_isB : ∀ t ∈ tyNs, ∀ n ∈ clNs, kitB t n = some (isB t n) := by decide +kernel
theorem tyD_in {d : D} {t : String} (h : tyD d = some t) : t ∈ tyNs := by
  cases d <;> first
    | (cases h; done)
    | (cases h; decide)
def clOf : List D → Option (List String)
  | [] => some []
  | .ty n :: ds => if clNs.contains n then (clOf ds).map (n :: ·) else none
  | _ :: _ => none
def isiD : List D → Option D
  | [x, .ty n] => if clNs.contains n then (tyD x).map fun t => .bl (isB t n) else none
  | [x, .tup ts] => match clOf ts with
    | some ns => (tyD x).map fun t => .bl (ns.any fun n => isB t n)
    | none => none
  | _ => none
inductive TyY (K : PySem.W.Frag) (H : Hp) : V → Value → Prop where
  | x {v : V} {t : Value} (h : TyX K H v t) : TyY K H v t
  | fDT {a : Addr} {o : Obj} {kvs : List (List Key × V)} (e : H a = some (.frz o (.dT kvs))) : TyY K H (.ref a) (.type "dict")
section
variable {X : Cx} {pins : List (Addr × Obj)} {σ : L2.St} {H : Hp} {s : Shared} {K : PySem.W.Frag} {mg : Str → Option Value}
theorem kit_of' {x : V} {u t : Value} (I : Inv X pins σ H s) (rx : RelV x u) (ty : TyY X.K H x t) : ∃ P : Heap → Prop, PySem.W.KitX X.K u t P ∧ P s.heap ∧ u ≠ .builtin "__main__.__loader__#opaque" := by
  cases ty with
  | x h => exact kit_of I rx h
  | @fDT a ob kvs ea =>
    cases (show u = Value.ref a from rx)
    obtain ⟨_, _, _, vs, _, o, es, ep, h1, h2, _⟩ := (show ObjOk X.prog X.w H s.heap a (.frz ob (.dT kvs)) from I.hok a _ ea)
    exact ⟨_, PySem.W.kitx_dict, ⟨o, h1, h2.1⟩, fun z => nomatch z⟩
def rIsiY (K : PySem.W.Frag) : List V → Hp → VK → Prop := fun xs H Q => (∃ (x c : V) (t u : Value) (b : Bool), xs = [x, c] ∧ ClsV c u ∧ TyY K H x t ∧ PySem.W.kitOne K t u = some b ∧ Q (.bl b) H) ∨
  ∃ (x : V) (tp : Addr) (cs : List V) (t : Value) (us : List Value) (b : Bool), xs = [x, .ref tp] ∧ H tp = some (.tup cs) ∧ Paired ClsV cs us ∧ TyY K H x t ∧ PySem.W.kitAny K t us = some b ∧ Q (.bl b) H
theorem call_isiY : CallR X (.builtin "isinstance") (rIsiY X.K) := by
  intro pins s σ H xs us Q I r h
  rcases h with ⟨x, c, t, u, b, rfl, k, ty, e, q⟩ | ⟨x, tp, cs, t, ws, b, rfl, hT, k, ty, e, q⟩
  · obtain ⟨u1, u2, rfl, r1, r2⟩ := vals2 r
    have e2 := k.eq r2
    subst e2
    obtain ⟨P, Z, p, hx⟩ := kit_of' I r1 ty
    exact PySem.W.kia_one Z I.kIn p e hx fun tk => ⟨.bl b, H, I.tok tk, rfl, q⟩
  · obtain ⟨u1, u2, rfl, r1, r2⟩ := vals2 r
    cases (show u2 = Value.ref tp from r2)
    obtain ⟨P, Z, p, hx⟩ := kit_of' I r1 ty
    obtain ⟨_, its, rv, o, h1, h2, n, h3⟩ := (show ObjOk X.prog X.w H s.heap tp (.tup cs) from I.hok tp _ hT)
    have e3 := ClsV.all k rv
    subst e3
    obtain ⟨oc, od, dt, sl⟩ := o
    simp only at h2 h3
    subst h2 h3
    exact PySem.W.kia_tup Z I.kIn p h1 e hx fun tk => ⟨.bl b, H, I.tok tk, rfl, q⟩
theorem tyY_of {E : Ev} {v : V} {d : D} {t : String} (r : RepV K mg E H v d) (h : tyD d = some t) : TyY K H v (.type t) := by
  cases d <;> first
    | (cases h; done)
    | (cases h; skip)
  · rw [r.non]; exact .x (.base .non)
  · rw [r.bl]; exact .x (.base (.bl _))
  · rw [r.int]; exact .x (.base (.int _))
  · rw [r.str]; exact .x (.base (.str _))
  · obtain ⟨a, vs, rfl, ha, _⟩ := r.tup; exact .x (.base (.tup ha))
  · obtain ⟨a, o, vs, rfl, ha, _⟩ := r.xt; exact .x (.fTuple ha)
  · obtain ⟨a, vs, rfl, ha, _⟩ := r.lst; exact .x (.base (.lst ha))
  · obtain ⟨a, kvs, rfl, ha | ⟨o, ha⟩, _⟩ := r.dk
    · exact .x (.base (.dK ha))
    · exact .x (.fDict ha)
  · obtain ⟨a, kvs, rfl, ha | ⟨o, ha⟩, _⟩ := r.dt
    · exact .x (.base (.dT ha))
    · exact .fDT ha
theorem clOf_rep {E : Ev} : ∀ {vs : List V} {ts : List D} {ns : List String}, RepL K mg E H vs ts → clOf ts = some ns → Paired ClsV vs (ns.map Value.type) ∧ ∀ n ∈ ns, n ∈ clNs
  | _, _, _, .nil, h => by cases h; exact ⟨.nil, fun _ z => nomatch z⟩
  | _, _, _, .cons (d := d) r t, h => by
    cases d <;> first
      | (cases h; done)
      | skip
    unfold clOf at h
    split at h
    · rename_i hc
      obtain ⟨ns', h1, rfl⟩ := Option.map_eq_some_iff.mp h
      obtain ⟨p, q⟩ := clOf_rep t h1
      cases r
      refine ⟨.cons (.ty _) p, fun n hn => ?_⟩
      rcases List.mem_cons.mp hn with rfl | hn
      · exact List.contains_iff_mem.mp hc
      · exact q n hn
    · cases h
theorem kitAny_isB {t : String} (ht : t ∈ tyNs) : ∀ {ns : List String}, (∀ n ∈ ns, n ∈ clNs) → PySem.W.kitAny K (.type t) (ns.map Value.type) = some (ns.any fun n => isB t n)
  | [], _ => kitAny_nil
  | n :: ns, h => by
    have e := kit_isB t ht n (h n List.mem_cons_self)
    rw [List.map_cons, List.any_cons]
    refine kitAny_cons (kit_ty e) (fun z => ?_) fun z => by rw [z, Bool.true_or]
    rw [z, Bool.false_or]
    exact kitAny_isB ht fun k hk => h k (List.mem_cons_of_mem _ hk)
theorem cd_isi : CallD K mg isiD (rIsiY K) := fun E H xs ds d Q hN r g q => by
  unfold isiD at g
  split at g
  · rename_i x n
    split at g
    · rename_i hc
      obtain ⟨t, ht, rfl⟩ := Option.map_eq_some_iff.mp g
      cases r with
      | cons r t' =>
        cases t' with
        | cons r' t' =>
          cases t'
          cases r' with
          | cell c => exact c.elim
          | of r' =>
          cases r'
          exact .inl ⟨_, _, _, _, _, rfl, .ty n, tyY_of r ht, kit_ty (kit_isB t (tyD_in ht) n (List.contains_iff_mem.mp hc)), q _ _ (Same.refl _) (.bl _)⟩
    · cases g
  · rename_i x ts
    split at g
    · rename_i ns hc
      obtain ⟨t, ht, rfl⟩ := Option.map_eq_some_iff.mp g
      cases r with
      | cons r t' =>
        cases t' with
        | cons r' t' =>
          cases t'
          obtain ⟨a, vs, rfl, ha, rv⟩ := r'.tup
          obtain ⟨h1, h2⟩ := clOf_rep rv hc
          exact .inr ⟨_, a, vs, _, _, _, rfl, ha, h1, tyY_of r ht, kitAny_isB (tyD_in ht) h2, q _ _ (Same.refl _) (.bl _)⟩
    · cases g
  · cases g
end
end PD
namespace PD
open PySem PySem.Spec PyProof.Rows L2
variable [TabC]
structure Trp (N : Addr → Prop) (H H' : Hp) : Prop where
  tup : ∀ a xs, H a = some (.tup xs) → H' a = some (.tup xs)
  lst : ∀ a xs, ¬ N a → H a = some (.lst xs) → H' a = some (.lst xs)
  rd : ∀ a u, ¬ N a → (∀ o w, u ≠ .frz o w) → Rd H a u → Rd H' a u
  xt : ∀ a o xs, H a = some (.frz o (.tup xs)) → H' a = some (.frz o (.tup xs))
  lam : ∀ a φ, H a = some (.ext φ) → H' a = some (.ext φ)
  tbj : ∀ P q j, TabJ H P q j → TabJ H' P q j
section
variable {K : PySem.W.Frag} {mg : Str → Option Value} {E : Ev} {H H' : Hp}
theorem Trp.dk {N : Addr → Prop} (t : Trp N H H') {a : Addr} {kvs : List (Key × V)} (n : ¬ N a) (h : Rd H a (.dK kvs)) : Rd H' a (.dK kvs) := t.rd _ _ n (fun _ _ z => nomatch z) h
theorem Trp.dt {N : Addr → Prop} (t : Trp N H H') {a : Addr} {kvs : List (List Key × V)} (n : ¬ N a) (h : Rd H a (.dT kvs)) : Rd H' a (.dT kvs) := t.rd _ _ n (fun _ _ z => nomatch z) h
theorem Trp.ls {N : Addr → Prop} (t : Trp N H H') {a : Addr} {xs : List V} (n : ¬ N a) (h : Rd H a (.lst xs)) : Rd H' a (.lst xs) := t.rd _ _ n (fun _ _ z => nomatch z) h
mutual
theorem Rep.trp (t : Trp E.N H H') : ∀ {v : V} {d : D}, Rep K mg E H v d → Rep K mg E H' v d
  | _, _, .non => .non
  | _, _, .bl b => .bl b
  | _, _, .int b => .int b
  | _, _, .str b => .str b
  | _, _, .ty b => .ty b
  | _, _, .tup h r => .tup (t.tup _ _ h) (RepL.trp t r)
  | _, _, .xt h k r => .xt (t.xt _ _ _ h) k (RepL.trp t r)
  | _, _, .lst h n r => .lst (t.lst _ _ n h) n (RepL.trp t r)
  | _, _, .dk h n l r => .dk (t.dk n h) n l (RepL.trp t r)
  | _, _, .dt h n l r => .dt (t.dt n h) n l (RepL.trp t r)
  | _, _, .scr ns h n => .scr ns (t.ls n h) n
  | _, _, .scrK ns h => .scrK ns h
  | _, _, .obj n h => .obj n h
  | _, _, .fn h k => .fn h k
  | _, _, .lam hs ht hj h n => .lam hs ht (t.tbj _ _ _ hj) (t.lam _ _ h) n
theorem RepL.trp (t : Trp E.N H H') : ∀ {v : List V} {d : List D}, RepL K mg E H v d → RepL K mg E H' v d
  | _, _, .nil => .nil
  | _, _, .cons h r => .cons (Rep.trp t h) (RepL.trp t r)
end
theorem Cell.trp (t : Trp E.N H H') {a : Addr} {d : D} (k : ∀ o, H a = some o → H' a = some o) (c : Cell K mg E H a d) : Cell K mg E H' a d := by
  cases d <;> first
    | exact c.elim
    | (obtain ⟨vs, h, r⟩ := c; exact ⟨vs, k _ h, r.trp t⟩)
    | (obtain ⟨vs, h, l, r⟩ := c; exact ⟨vs, k _ h, l, r.trp t⟩)
def DictO (o : HO) : Prop := (∃ kvs, o = .dK kvs) ∨ ∃ kvs, o = .dT kvs
theorem DictO.mut {o : HO} (h : DictO o) : Mut (some o) := by
  rcases h with ⟨_, rfl⟩ | ⟨_, rfl⟩ <;> exact trivial
theorem DictO.nt {u : HO} (h : DictO u) : (∀ ps, u ≠ .tbl ps) ∧ ∀ b q, u ≠ LamX.CodeO b q := by
  rcases h with ⟨_, rfl⟩ | ⟨_, rfl⟩ <;> (constructor <;> (intros; intro z; (try unfold LamX.CodeO at z); cases z))
theorem trp_lock {N : Addr → Prop} {d : Addr} {u : HO} {od : Obj} (h : H d = some u) (hu : DictO u) : Trp N H (upd H d (.frz od u)) where
  tup := fun a xs q => by rw [upd_ne]; exact q; intro e; rw [e, h] at q; cases q; rcases hu with ⟨_, z⟩ | ⟨_, z⟩ <;> cases z
  lst := fun a xs _ q => by rw [upd_ne]; exact q; intro e; rw [e, h] at q; cases q; rcases hu with ⟨_, z⟩ | ⟨_, z⟩ <;> cases z
  rd := fun a w _ nf q => by
    by_cases e : a = d
    · subst e
      rcases q with q | ⟨o, q⟩
      · rw [h] at q; cases q; exact .inr ⟨od, upd_same⟩
      · rw [h] at q; cases q; rcases hu with ⟨_, z⟩ | ⟨_, z⟩ <;> cases z
    · rcases q with q | ⟨o, q⟩
      · exact .inl (by rw [upd_ne e]; exact q)
      · exact .inr ⟨o, by rw [upd_ne e]; exact q⟩
  xt := fun a o xs q => by rw [upd_ne]; exact q; intro e; rw [e, h] at q; cases q; rcases hu with ⟨_, z⟩ | ⟨_, z⟩ <;> cases z
  lam := fun a φ q => by rw [upd_ne]; exact q; intro e; rw [e, h] at q; cases q; rcases hu with ⟨_, z⟩ | ⟨_, z⟩ <;> cases z
  tbj := fun P q j t => tabS_at t h hu.nt
theorem trp_unlock {N : Addr → Prop} {d : Addr} {u : HO} {od : Obj} (h : H d = some (.frz od u)) (hu : DictO u) : Trp N H (upd H d u) where
  tup := fun a xs q => by rw [upd_ne]; exact q; intro e; rw [e, h] at q; cases q
  lst := fun a xs _ q => by rw [upd_ne]; exact q; intro e; rw [e, h] at q; cases q
  rd := fun a w _ nf q => by
    by_cases e : a = d
    · subst e
      rcases q with q | ⟨o, q⟩
      · rw [h] at q; cases q; exact (nf _ _ rfl).elim
      · rw [h] at q; cases q; exact .inl upd_same
    · rcases q with q | ⟨o, q⟩
      · exact .inl (by rw [upd_ne e]; exact q)
      · exact .inr ⟨o, by rw [upd_ne e]; exact q⟩
  xt := fun a o xs q => by rw [upd_ne]; exact q; intro e; rw [e, h] at q; cases q; rcases hu with ⟨_, z⟩ | ⟨_, z⟩ <;> cases z
  lam := fun a φ q => by rw [upd_ne]; exact q; intro e; rw [e, h] at q; cases q
  tbj := fun P q j t => tabS_at t h
theorem dm_upd {d : Addr} {o1 o2 : HO} (h : H d = some o1) : ∀ a o, H a = some o → ∃ o', upd H d o2 a = some o' := fun a o q => by
  by_cases e : a = d
  · exact ⟨o2, by rw [e, upd_same]⟩
  · exact ⟨o, by rw [upd_ne e]; exact q⟩
variable {W W2 : Wd} {σ σ0 : L2.St} {H0 : Hp} {m m0 m' : M} {d : Addr} {u : HO} {od : Obj}
theorem Sit.trp {E0 : Ev} {H0 : Hp} (S : Sit K mg W σ H m) (t : Trp (W.ev m.obs.length).N H H') (k : ∀ a o, (W.ev m.obs.length).Mx a → H a = some o → H' a = some o) (x : Ext E0 H0 (W.ev m.obs.length) H') (dm : ∀ a o, H a = some o → ∃ o', H' a = some o') (tb : ∀ P q j, TabJ H P q j → TabJ H' P q j) :
    Sit K mg { W with E0 := E0, H0 := H0 } σ H' m where
  len := S.len
  ext := x
  pl := fun i d e => let ⟨v, hv, r⟩ := S.pl i d e; ⟨v, hv, r.trp t⟩
  ow := fun i d e => let ⟨a, ea, es, c⟩ := S.ow i d e; ⟨a, ea, es, c.trp t fun o q => k a o (.inl ⟨i, ea⟩) q⟩
  owi := S.owi
  inj := S.inj
  ob := fun n ds e => (S.ob n ds e).trp t fun o q => k _ o (.inr ⟨n, (List.getElem?_eq_some_iff.mp e).1, rfl⟩) q
  obi := S.obi
  obo := S.obo
  n0 := fun a e => let ⟨o, q⟩ := S.n0 a e; dm a o q
  o0 := S.o0
  tab := fun P q h => tb P q _ (S.tab P q h)
theorem Sit.lock (S : Sit K mg W σ H m) (h : H d = some u) (hu : DictO u) (n : ¬ (W.ev m.obs.length).N d) (od : Obj) : Sit K mg (W.base m.obs.length (upd H d (.frz od u))) σ (upd H d (.frz od u)) m :=
  S.trp (trp_lock h hu) (fun a o z q => by rw [upd_ne (fun e => n (by rw [← e]; exact W.sub _ a z))]; exact q) .refl (dm_upd h) fun P q j t => tabS_at t h hu.nt
theorem Ext.unlock {E E' : Ev} (h : H d = some u) (hu : DictO u) (x : Ext E (L2.upd H d (.frz od u)) E' H') : Ext E H E' (L2.upd H' d u) := by
  have nd : ∀ b, L2.upd H d (.frz od u) b = none → H b = none := fun b z => by
    by_cases e : b = d
    · rw [e, upd_same] at z; cases z
    · rw [upd_ne e] at z; exact z
  refine ⟨x.no, x.ob, fun b z => (x.n2 b z).elim .inl fun z => .inr (nd b z), fun b z => (x.m2 b z).elim .inl fun z => .inr (nd b z), fun b o q => ?_, fun b o n nt q => ?_, fun b xs q => ?_, fun b o w q => ?_, fun P q j tt t => tabS_at (x.tbl P q j tt (tabS_at t h hu.nt)) (x.frz _ _ _ upd_same)⟩
  · by_cases e : b = d
    · exact ⟨u, by rw [e, upd_same]⟩
    · obtain ⟨o', q'⟩ := x.dm b o (by rw [upd_ne e]; exact q)
      exact ⟨o', by rw [upd_ne e]; exact q'⟩
  · by_cases e : b = d
    · rw [e, upd_same, ← h, ← e]; exact q
    · rw [upd_ne e]; exact x.keep0 b o n nt (by rw [upd_ne e]; exact q)
  · have e : b ≠ d := fun e => by rw [e, h] at q; cases q; rcases hu with ⟨_, z⟩ | ⟨_, z⟩ <;> cases z
    rw [upd_ne e]; exact x.tup b xs (by rw [upd_ne e]; exact q)
  · have e : b ≠ d := fun e => by rw [e, h] at q; cases q; rcases hu with ⟨_, z⟩ | ⟨_, z⟩ <;> cases z
    rw [upd_ne e]; exact x.frz b o w (by rw [upd_ne e]; exact q)
theorem Sit.unlock (S0 : Sit K mg W σ0 H0 m0) (h : H0 d = some u) (hu : DictO u) (n : ¬ (W.ev m0.obs.length).N d) (S2 : Sit K mg W2 σ H m) (e1 : W2.E0 = W.ev m0.obs.length) (e2 : W2.H0 = upd H0 d (.frz od u)) :
    H d = some (.frz od u) ∧ ¬ (W2.ev m.obs.length).N d ∧ Sit K mg { W2 with E0 := W.E0, H0 := W.H0 } σ (upd H d u) m := by
  have x := S2.ext
  rw [e1, e2] at x
  have hd : H d = some (.frz od u) := x.frz _ _ _ upd_same
  have nd := x.notN upd_same n
  exact ⟨hd, nd, S2.trp (trp_unlock hd hu) (fun a o z q => by rw [upd_ne (fun e => nd (by rw [← e]; exact W2.sub _ a z))]; exact q) (S0.ext.trans (x.unlock h hu)) (dm_upd hd) fun P q j t => tabS_at t hd⟩
abbrev lockE (D : Ends) (d : Addr) (od : Obj) (u : HO) : Ends := ⟨fun σ' H' => H' d = some (.frz od u) ∧ D.nx σ' (upd H' d u), fun v H' => H' d = some (.frz od u) ∧ D.rt v (upd H' d u), fun σ' H' => H' d = some (.frz od u) ∧ D.bk σ' (upd H' d u), fun σ' H' => H' d = some (.frz od u) ∧ D.ct σ' (upd H' d u)⟩
theorem FPost.lock {D : Ends} {fl : Flow'} (S0 : Sit K mg W σ0 H0 m0) (h : H0 d = some u) (hu : DictO u) (n : ¬ (W.ev m0.obs.length).N d) (q : FPost K mg D W m' fl) : FPost K mg (lockE D d od u) (W.base m0.obs.length (upd H0 d (.frz od u))) m' fl := by
  cases fl with
  | nx =>
    intro W' σ' H' l S
    obtain ⟨h1, h2, h3⟩ := S0.unlock h hu n S l.2.1 l.2.2
    exact ⟨h1, q { W' with E0 := W.E0, H0 := W.H0 } σ' _ ⟨l.1, rfl, rfl⟩ h3⟩
  | bk =>
    intro W' σ' H' l S
    obtain ⟨h1, h2, h3⟩ := S0.unlock h hu n S l.2.1 l.2.2
    exact ⟨h1, q { W' with E0 := W.E0, H0 := W.H0 } σ' _ ⟨l.1, rfl, rfl⟩ h3⟩
  | ct =>
    intro W' σ' H' l S
    obtain ⟨h1, h2, h3⟩ := S0.unlock h hu n S l.2.1 l.2.2
    exact ⟨h1, q { W' with E0 := W.E0, H0 := W.H0 } σ' _ ⟨l.1, rfl, rfl⟩ h3⟩
  | rt r =>
    intro W' σ' H' v l S rv
    obtain ⟨h1, h2, h3⟩ := S0.unlock h hu n S l.2.1 l.2.2
    exact ⟨h1, q { W' with E0 := W.E0, H0 := W.H0 } σ' _ v ⟨l.1, rfl, rfl⟩ h3 (rv.trp (trp_unlock h1 hu))⟩
  | rf r =>
    intro W' σ' H' a l nN z S c
    have e1 : (W'.add a).E0 = W.ev m0.obs.length := l.2.1
    obtain ⟨h1, h2, h3⟩ := S0.unlock h hu n S e1 l.2.2
    have ne : a ≠ d := fun e => h2 (.inl (.inr e.symm))
    refine ⟨h1, q { W' with E0 := W.E0, H0 := W.H0 } σ' _ a ⟨l.1, rfl, rfl⟩ nN ?_ h3 (c.trp (trp_unlock h1 hu) fun o q => by rw [upd_ne ne]; exact q)⟩
    rw [l.2.1, l.2.2] at z
    rcases z with z | z
    · exact S0.ext.m2 a z
    · by_cases e : a = d
      · exact (ne e).elim
      · have z' : upd H0 d (.frz od u) a = none := z
        rw [upd_ne e] at z'
        exact .inr (S0.ext.nn z')
end
def itemsD (kds : List (Key × D)) : List D := kds.map fun kv => .tup [dK kv.1, kv.2]
section
variable {K : PySem.W.Frag} {mg : Str → Option Value} {E0 : Ev} {H0 : Hp}
theorem ItD.items {d : Addr} {o : Obj} {kvs : List (Key × V)} {kds : List (Key × D)} (sb : E0.Sub) (h : H0 d = some (.frz o (.dK kvs))) (r : RepK K mg E0 H0 kvs kds) : ItD K mg E0 H0 (Iti d o kvs) (itemsD kds) := by
  refine .pair sb walk_items (by rw [r.len]; simp [itemsD]) (fun E H x => x.frz _ _ _ h) fun i x y c hx hy hc => ?_
  unfold itemsD at hc
  rw [List.getElem?_map] at hc
  obtain ⟨⟨k, dd⟩, hk, rfl⟩ := Option.map_eq_some_iff.mp hc
  obtain ⟨⟨k1, v1⟩, h1, rfl⟩ := Option.map_eq_some_iff.mp hx
  obtain ⟨⟨k2, v2⟩, h2, rfl⟩ := Option.map_eq_some_iff.mp hy
  rw [h1] at h2; cases h2
  have e1 : (kvs.map (·.1))[i]? = some k1 := by rw [List.getElem?_map, h1]; rfl
  rw [r.k, List.getElem?_map, hk] at e1
  cases e1
  have e2 : (kds.map (·.2))[i]? = some dd := by rw [List.getElem?_map, hk]; rfl
  obtain ⟨w, hw, rw'⟩ := r.v.get' e2
  rw [List.getElem?_map, h1] at hw
  cases hw
  exact ⟨_, _, rfl, rep_dK _, rw'⟩
end
section
variable {X : Cx} {tg e : Expr} {f : Co D} {fb : Co Flow'} {pos p apos cpos tpos : Pos} {body : List Stmt} {t : Bool} {is : List Nat} {elts : List Expr} {kk : Nat}
def iItemsF (f : Co D) : Co (List D) := Co.bind f fun d => Co.lift (match d with
  | .dk kds => some (itemsD kds)
  | _ => none)
def sForItems (i : Nat) (t : Bool) (is : List Nat) (b : Co Flow') : Co Flow' := fun m => match m.env[i]? with
  | some (.pl (.dk kds)) => forL t is b (itemsD kds) m
  | _ => .no
end
end PD
namespace PD
open PySem PySem.Spec PyProof.Rows L2
variable [TabC]
section
variable {K : PySem.W.Frag} {mg : Str → Option Value} {W : Wd} {σ : L2.St} {H H' : Hp} {m m' : M} {a : Addr} {ds : List D} {ob' : Nat → Addr}
abbrev Wd.newOb (W : Wd) (no : Nat) (a : Addr) : Wd := { W with ob := fun n => if n = no then a else W.ob n }
theorem Sit.newOb (S : Sit K mg (W.add a) σ H m) (h0 : W.H0 a = none) (nN : ¬ (W.ev m.obs.length).N a) (c : Cell K mg ((W.add a).ev m.obs.length) H a (.lst ds)) :
    Sit K mg (W.newOb m.obs.length a) σ H { m with obs := m.obs ++ [ds] } := by
  have hl : (m.obs ++ [ds]).length = m.obs.length + 1 := by rw [List.length_append]; rfl
  have obn : ∀ n, n < m.obs.length → (W.newOb m.obs.length a).ob n = W.ob n := fun n h => if_neg (Nat.ne_of_lt h)
  have oba : (W.newOb m.obs.length a).ob m.obs.length = a := if_pos rfl
  have nle : ∀ b, ((W.newOb m.obs.length a).ev (m.obs ++ [ds]).length).N b → ((W.add a).ev m.obs.length).N b := fun b z => by
    rcases z with z | z | ⟨n, hn, z⟩
    · exact .inl (.inl z)
    · exact .inr (.inl z)
    · rw [hl] at hn
      by_cases e : n = m.obs.length
      · subst e; rw [oba] at z; exact .inl (.inr z.symm)
      · exact .inr (.inr ⟨n, by omega, by rw [← obn n (by omega)]; exact z⟩)
  have le : ((W.add a).ev m.obs.length).Le ((W.newOb m.obs.length a).ev (m.obs ++ [ds]).length) := ⟨by show m.obs.length ≤ (m.obs ++ [ds]).length; omega, fun n h => obn n h, nle⟩
  refine ⟨S.len, ⟨?_, ?_, fun b z => S.ext.n2 b (nle b z), fun b z => ?_, S.ext.dm, S.ext.keep0, S.ext.tup, S.ext.frz, S.ext.tbl⟩, fun i d e => ?_, fun i d e => ?_, S.owi, S.inj, fun n es e => ?_, fun n k h1 h2 e => ?_, fun n i h e => ?_, fun b z => S.n0 b (.inl z), fun i b e z => S.o0 i b e (.inl z), S.tab⟩
  · exact Nat.le_trans S.ext.no (by show m.obs.length ≤ (m.obs ++ [ds]).length; omega)
  · intro n h
    have h' : n < m.obs.length := Nat.lt_of_lt_of_le h S.ext.no
    exact (obn n h').trans (S.ext.ob n h)
  · rcases z with z | ⟨n, hn, z⟩
    · exact S.ext.m2 b (.inl z)
    · rw [hl] at hn
      by_cases e : n = m.obs.length
      · subst e; rw [oba] at z; exact .inr (by rw [← z]; exact h0)
      · exact S.ext.m2 b (.inr ⟨n, by omega, by rw [← obn n (by omega)]; exact z⟩)
  · obtain ⟨v, hv, r⟩ := S.pl i d e
    exact ⟨v, hv, r.le le⟩
  · obtain ⟨b, hb, es, c⟩ := S.ow i d e
    exact ⟨b, hb, es, c.le le⟩
  · have e' : (m.obs ++ [ds])[n]? = some es := e
    by_cases hn : n < m.obs.length
    · rw [List.getElem?_append_left hn] at e'
      rw [obn n hn]
      exact (S.ob n es e').le le
    · have hn2 : n = m.obs.length := by
        have := (List.getElem?_eq_some_iff.mp e').1
        rw [hl] at this; omega
      subst hn2
      rw [List.getElem?_append_right (Nat.le_refl _), Nat.sub_self] at e'
      cases e'
      rw [oba]
      exact c.le le
  · have h1' : n < (m.obs ++ [ds]).length := h1
    have h2' : k < (m.obs ++ [ds]).length := h2
    rw [hl] at h1' h2'
    have key : ∀ n, n < m.obs.length → W.ob n ≠ a := fun n hn z => nN (.inr (.inr ⟨n, hn, z⟩))
    by_cases e1 : n = m.obs.length <;> by_cases e2 : k = m.obs.length
    · rw [e1, e2]
    · rw [e1, oba, obn k (by omega)] at e; exact (key k (by omega) e.symm).elim
    · rw [e2, oba, obn n (by omega)] at e; exact (key n (by omega) e).elim
    · rw [obn n (by omega), obn k (by omega)] at e
      exact S.obi n k (by omega) (by omega) e
  · have h' : n < (m.obs ++ [ds]).length := h
    rw [hl] at h'
    by_cases e1 : n = m.obs.length
    · rw [e1, oba] at e
      exact S.o0 i a e (.inr rfl)
    · rw [obn n (by omega)] at e
      exact S.obo n i (by omega) e
end
def sSetOb (i : Nat) (f : Co D) : Co Flow' := Co.bind f fun d m => match d with
  | .lst ds => .ok .nx { env := m.env.set i (.pl (.obj m.obs.length)), obs := m.obs ++ [ds] }
  | _ => .no
section
variable {X : Cx} {a b c e f2 : Expr} {es : List Expr} {pos apos cpos tp : Pos} {fe fd fi : Co D}
theorem rdS_setOb {i : Nat} {D : Ends} {σ : L2.St} {H : Hp} {K : PySem.W.Frag} {mg : Str → Option Value} {f : Co PD.D} (h : rdS K mg (sSetOb i f) D σ H) : rdF K mg f σ H fun v H1 => gName i v σ H1 D.nx := by
  obtain ⟨W, m, S, fl, m', hf, q⟩ := h
  obtain ⟨d, m1, e1, e2⟩ := Co.bind_ok hf
  cases d <;> first
    | (cases e2; done)
    | skip
  cases e2
  refine ⟨W, m, S, _, m1, e1, fun a ob' H' hn x nN S' c => ?_⟩
  have S2 := Sit.newOb (W := { W with ob := ob' }) S' (S.ext.nn hn) nN c
  have hl : ∀ (es : List PD.D), m1.obs.length < (m1.obs ++ [es]).length := fun es => by rw [List.length_append]; exact Nat.lt_succ_self _
  have r : ∀ (es : List PD.D), Rep K mg ((Wd.newOb { W with ob := ob' } m1.obs.length a).ev (m1.obs ++ [es]).length) H' (.ref a) (.obj m1.obs.length) := fun es => by
    have := Rep.obj (K := K) (mg := mg) (E := (Wd.newOb { W with ob := ob' } m1.obs.length a).ev (m1.obs ++ [es]).length) (H := H') m1.obs.length (hl es)
    have e : ((Wd.newOb { W with ob := ob' } m1.obs.length a).ev (m1.obs ++ [es]).length).ob m1.obs.length = a := if_pos rfl
    rw [e] at this
    exact this
  exact q (Wd.drop (Wd.newOb { W with ob := ob' } m1.obs.length a) i) _ H' (by exact ⟨rfl, rfl, rfl⟩) (S2.setPl (i := i) (r _))
theorem ss_setOb {i : Nat} {x : Str} {p : Pos} (hN : X.N.Nodup) (he : EF X e fe) (hi : X.N[i]? = some x := by rfl) (hx : Loc X.env.scope x := by first | exact Or.inl rfl | exact Or.inr rfl) (hs : swapsWith e (some (.Name x p)) pos.line X.env = pure false := by rfl)
    (hf : X.fn x = true ∨ X.env.scope.names.lookup x = some .local := by first | exact .inl rfl | exact .inr rfl) : SS X (.Assign [.Name x p] e pos) (sSetOb i fe) := PS.imp (ps_set hN hi hx he hs hf) fun D σ H h => rdS_setOb h
theorem rdS_setP {i : Nat} {D : Ends} {σ : L2.St} {H : Hp} {K : PySem.W.Frag} {mg : Str → Option Value} {f : Co PD.D} (h : rdS K mg (sSet i f) D σ H) : rdF K mg f σ H fun v H1 => gName i v σ H1 D.nx := by
  obtain ⟨W, m, S, fl, m', hf, q⟩ := h
  obtain ⟨d, m1, e1, e2⟩ := Co.bind_ok hf
  cases e2
  exact ⟨W, m, S, d, m1, e1, fun a ob' H' hn x nN S' c => q (Wd.drop { W with ob := ob' } i) _ H' (by exact ⟨rfl, rfl, rfl⟩) (S'.forget.setPl (i := i) (Cell.rep nN (c.le (Wd.add_le _ _ _))))⟩
variable {tg iter elt tg1 iter1 : Expr} {ifs ifs1 : List Expr} {fi' fi1 : Co (List D)} {t t1 : Bool} {is is1 : List Nat} {ft ft1 : Co Bool} {scope : Scope} {own : List (Str × Nat)} {i : Nat}
theorem ss_setLcP {y : Str} {py spos : Pos} (hN : X.N.Nodup) (hi : EI X tg iter fi') (ok : BlkOk X.N X.env.scope scope own)
    (hg : ∀ (s : Shared) (H : Hp) (C : Addr) (cl : List (Str × Addr)) (fp : List Addr), GG (X.blk s H scope (compEnvC scope cl C X.env) fp) tg t is)
    (ht : ∀ (s : Shared) (H : Hp) (C : Addr) (cl : List (Str × Addr)) (fp : List Addr), ETs (X.blk s H scope (compEnvC scope cl C X.env) fp) ifs ft)
    (he : ∀ (s : Shared) (H : Hp) (C : Addr) (cl : List (Str × Addr)) (fp : List Addr), EE (X.blk s H scope (compEnvC scope cl C X.env) fp) elt fe)
    (hy : X.N[i]? = some y := by rfl) (hyl : X.env.scope.names.lookup y = some .local := by rfl) (hsw : swapsWith (.ListComp elt [⟨tg, iter, ifs, 0⟩] scope pos) (some (.Name y py)) spos.line X.env = pure true := by exact sw_true rfl rfl rfl rfl)
    (hv : ∀ i ∈ is, i ∈ own.map (·.2) := by decide) (hc : X.calm = true := by rfl) (hs : ∀ x, foldedSetIterable iter X.env x = pure x := by intro _; rfl) :
    SS X (.Assign [.Name y py] (.ListComp elt [⟨tg, iter, ifs, 0⟩] scope pos) spos) (sSet i (eLc fi' t is (own.map (·.2)) ft fe)) :=
  PS.imp (ps_setLc hc hN hy hyl hsw hi ok hg ht he hs) fun D σ H h => lc_rd hv (rdS_setP h)
end
section
variable {P : Program} {w : World} {K : PySem.W.Frag} {mg : Str → Option Value} {base : Heap}
theorem has_mk {x : Str} {st : Stmt} {f : Addr} {fd : FuncData} {N ps : List Str} {k : Nat} {body : Co Flow'} (fr : Bool) (F : Fun K x x st f fd) (m : mg x = some (.ref f)) (b : Binds K fd ps []) (S : FnScope N ps (defScope st))
    (hb : ∀ (cdv : Value) (A : Around) (outer : List Env) (s : Shared) (H : Hp) (E : XK), Room k (A.deeper (envOfC x (defScope st) s.heap.objs.size f cdv)) → SSs (BX P w K mg base N x st f cdv A outer s H E) (defBody st) body) :
    Has P w K mg base (k + 1) x (runF N.length ps.length body fr) fr := ⟨f, fd, ps, m, F.kp, fn_ok F S hb, b⟩
theorem Has.mono {j k : Nat} {x : Str} {F : Fd} {fr : Bool} (h : Has P w K mg base j x F fr) (l : j ≤ k) : Has P w K mg base k x F fr := by
  obtain ⟨f, fd, ps, m, kp, G, b⟩ := h.ex
  exact ⟨f, fd, ps, m, kp, G.mono l, b⟩
def spLaw (K : PySem.W.Frag) : Sp := fun vs H Q _ => ∃ (a : Addr) (ns : List Int), vs = [.ref a] ∧ SqL K H a (ns.map V.int) ∧ ns.length ≤ 63 ∧ (∀ H', Q (.bl true) H') ∧ TabAll H
theorem law_end {f : Addr} {F : Fd} {k : Nat} {fd : FuncData} {ps : List Str} (G : FnOk P w K mg base CX0 k f fd ps (spD K mg F false)) (hF : ∀ ns : List Int, ns.length ≤ 63 → ∃ obs', F [.scr ns] [] = some (.bl true, obs')) :
    FnOk P w K mg base CX0 k f fd ps (spLaw K) := G.imp fun vs H Q E ⟨a, ns, ev, hs, hl, q, tb⟩ => by
  obtain ⟨obs', hf⟩ := hF ns hl
  refine ⟨⟨fun _ => False, fun _ => False, fun _ => 0, 0⟩, [], [.scr ns], .bl true, obs', ⟨rfl, fun _ z => z.elim, fun _ z => z.elim, fun n z => absurd z (Nat.not_lt_zero n), fun n z => absurd z (Nat.not_lt_zero n), fun n _ z => absurd z (Nat.not_lt_zero n), fun n ds z => by simp at z, tb⟩, ?_, hf, fun v ob' H' c => ?_⟩
  · subst ev
    refine .cons ?_ .nil
    rcases hs with hs | hs
    · exact .scr ns hs fun z => z
    · exact .scrK ns fun H' => .inr hs
  · obtain ⟨_, _, _, r⟩ := c
    cases r
    exact q H'
end
end PD
namespace PD
open PySem PySem.Spec PyProof.Rows L2
variable [TabC]
def sMove (i j : Nat) : Co Flow' := fun m => match m.env[j]? with
  | some (.ow d) => if i < m.env.length ∧ i ≠ j then .ok .nx { m with env := (m.env.set j .un).set i (.ow d) } else .no
  | _ => .no
def vAny (i : Nat) : Co Opd := fun m => match m.env[i]? with
  | some (.ow _) => .ok (.slot i) m
  | some (.pl d) => .ok (.val d) m
  | _ => .no
def orL (f g : List D → Option D) (ds : List D) : Option D := match f ds with
  | some d => some d
  | none => g ds
section
variable {X : Cx} {a b c e : Expr} {es : List Expr} {pos p : Pos} {g g1 g2 : Co Opd} {gs : Co (List Opd)} {f : Co D}
theorem eb_any (i : Nat) {x : Str} (hN : X.N[i]? = some x := by rfl) (hv : Vis X.env.scope x := by first | exact Or.inl rfl | exact Or.inr (Or.inl rfl) | exact Or.inr (Or.inr rfl)) (hd : (x == ("__debug__" : Str)) = false := by decide)
    (hcd : (x == ("__classdict__" : Str)) = false := by decide) : EB X (.Name x pos) (vAny i) := PE.imp (pe_var hN hv hd hcd) fun σ H Q ⟨W, m, S, d, m', hf, q⟩ => by
  unfold vAny at hf
  split at hf
  · rename_i e he
    cases hf
    obtain ⟨a, e1, e2, c⟩ := S.ow i _ he
    exact ⟨_, e2, q _ W.ob H (.refl S) ⟨a, e1, rfl⟩⟩
  · rename_i e he
    cases hf
    obtain ⟨v, e1, r⟩ := S.pl i _ he
    exact ⟨v, e1, q v W.ob H (.refl S) r⟩
  · cases hf
theorem call_lenT : CallR X (.builtin "len") (fun xs H Q => ∃ (a : Addr) (kvs : List (List Key × V)), xs = [V.ref a] ∧ Rd H a (.dT kvs) ∧ Q (.int kvs.length) H) := by
  intro pins s σ H xs us Q I r h
  obtain ⟨p, kvs, rfl, hp, q⟩ := h
  obtain ⟨u, rfl, rx⟩ := vals1 r
  obtain rfl : u = .ref p := rx
  obtain ⟨z, hd, ys, rel, dd⟩ := dt_rd I.hok hp
  have hl : kvs.length = ys.length := Paired.length rel
  refine call_len_dictH hd dd (by rw [← hl]; rw [sizeLine_eq] at z; omega) ?_
  rw [← hl]
  exact ⟨.int ((kvs.length : Nat) : Int), H, I.tok _, ⟨_, rfl⟩, q⟩
def lenTD : List D → Option D
  | [.dt xs] => some (.int xs.length)
  | _ => none
theorem cd_lenT {K : PySem.W.Frag} {mg : Str → Option Value} : CallD K mg lenTD (fun xs H Q => ∃ (a : Addr) (kvs : List (List Key × V)), xs = [V.ref a] ∧ Rd H a (.dT kvs) ∧ Q (.int kvs.length) H) := fun E H xs ds d Q hN r g q => by
  unfold lenTD at g
  split at g
  · cases g
    cases r with
    | cons r t =>
      cases t
      obtain ⟨a, kvs, rfl, ha, l, rv⟩ := r.dt
      refine ⟨a, kvs, rfl, ha, q _ _ (Same.refl _) ?_⟩
      rw [(RepK.mk l rv).len]
      exact .int _
  · cases g
def lenU : List D → Option D := orL lenD (orL lenKD lenTD)
theorem ee_len (hm : X.mg "len" = none) (ha : EBs X [e] gs) (hg : Gl X "len" := by rfl) (he : starEach [e] X.env = (false, eval e X.env) :: starEach [] X.env := by rfl) (hpl : (backTo pos (starEach [] X.env)).any (·.1) = false := by rfl) : EE X (.Call (.Name "len" p) [e] [] pos) (eCall lenU gs) :=
  ee_callB (CallR.or call_len (CallR.or call_lenK call_lenT)) (CallD.or cd_len (CallD.or cd_lenK cd_lenT)) hm PySem.boot_len ha hg (by decide) (by decide) he hpl
theorem ee_abs (hm : X.mg "abs" = none) (ha : EBs X [e] gs) (hg : Gl X "abs" := by rfl) (he : starEach [e] X.env = (false, eval e X.env) :: starEach [] X.env := by rfl) (hpl : (backTo pos (starEach [] X.env)).any (·.1) = false := by rfl) : EE X (.Call (.Name "abs" p) [e] [] pos) (eCall absD gs) :=
  ee_callB call_abs cd_abs hm rfl ha hg (by decide) (by decide) he hpl
theorem ee_sum (hm : X.mg "sum" = none) (ha : EBs X [e] gs) (hc : X.calm = true := by rfl) (hg : Gl X "sum" := by rfl) (he : starEach [e] X.env = (false, eval e X.env) :: starEach [] X.env := by rfl) (hpl : (backTo pos (starEach [] X.env)).any (·.1) = false := by rfl) : EE X (.Call (.Name "sum" p) [e] [] pos) (eCall sumD gs) :=
  ee_callB (cr_sum hc) cd_sum hm rfl ha hg (by decide) (by decide) he hpl
theorem ee_all (hm : X.mg "all" = none) (ha : EBs X [e] gs) (hc : X.calm = true := by rfl) (hg : Gl X "all" := by rfl) (he : starEach [e] X.env = (false, eval e X.env) :: starEach [] X.env := by rfl) (hpl : (backTo pos (starEach [] X.env)).any (·.1) = false := by rfl) : EE X (.Call (.Name "all" p) [e] [] pos) (eCall allD gs) :=
  ee_callB (cr_all hc) cd_all hm rfl ha hg (by decide) (by decide) he hpl
theorem ee_isi (hm : X.mg "isinstance" = none) (ha : EBs X [a, b] gs) (hg : Gl X "isinstance" := by rfl) (he : starEach [a, b] X.env = (false, eval a X.env) :: starEach [b] X.env := by rfl) (hpl : (backTo pos (starEach [b] X.env)).any (·.1) = false := by rfl) : EE X (.Call (.Name "isinstance" p) [a, b] [] pos) (eCall isiD gs) :=
  ee_callB call_isiY cd_isi hm rfl ha hg (by decide) (by decide) he hpl
theorem ee_tuple (hm : X.mg "tuple" = none) (ha : EBs X [e] gs) (hg : Gl X "tuple" := by rfl) (he : starEach [e] X.env = (false, eval e X.env) :: starEach [] X.env := by rfl) (hpl : (backTo pos (starEach [] X.env)).any (·.1) = false := by rfl) : EE X (.Call (.Name "tuple" p) [e] [] pos) (eCall tupleD gs) :=
  ee_callTy call_tuple_of cd_tuple hm rfl ha hg (by decide) (by decide) he hpl
def listU : List D → Option D := orL listD listKD
theorem ef_list (hm : X.mg "list" = none) (ha : EBs X [e] gs) (hc : X.calm = true := by rfl) (hg : Gl X "list" := by rfl) (he : starEach [e] X.env = (false, eval e X.env) :: starEach [] X.env := by rfl) (hpl : (backTo pos (starEach [] X.env)).any (·.1) = false := by rfl) : EF X (.Call (.Name "list" p) [e] [] pos) (asL (eCall listU gs)) :=
  ef_callTy (CallR.or call_list_of (call_listD hc)) (CallF.or cf_list cf_listK) hm rfl ha hg (by decide) (by decide) he hpl
theorem ef_sorted (hm : X.mg "sorted" = none) (ha : EBs X [e] gs) (hc : X.calm = true := by rfl) (hg : Gl X "sorted" := by rfl) (he : starEach [e] X.env = (false, eval e X.env) :: starEach [] X.env := by rfl) (hpl : (backTo pos (starEach [] X.env)).any (·.1) = false := by rfl) : EF X (.Call (.Name "sorted" p) [e] [] pos) (asL (eCall sortedID gs)) :=
  ef_callB (op_sortedID hc) cf_sorted hm rfl ha hg (by decide) (by decide) he hpl
theorem ee_int1 (hm : X.mg "int" = none) (ha : EBs X [e] gs) (hg : Gl X "int" := by rfl) (he : starEach [e] X.env = (false, eval e X.env) :: starEach [] X.env := by rfl) (hpl : (backTo pos (starEach [] X.env)).any (·.1) = false := by rfl) : EE X (.Call (.Name "int" p) [e] [] pos) (eCall intD gs) :=
  ee_callTy call_int1 cd_int hm rfl ha hg (by decide) (by decide) he hpl
end
theorem hu65 {A : Around} {k : Nat} (hr : Room k A) : A.units + 65 < cLine := by have := hr.un; omega
theorem hu64 {A : Around} {k : Nat} (hr : Room k A) : A.units + 64 < cLine := hr.units
theorem hu1 {A : Around} {k : Nat} (hr : Room k A) : A.units + 1 < cLine := by have := hr.un; omega
end PD
namespace PD
open PySem PySem.Spec PyProof.Rows L2
variable [TabC]
def eM1S (g : Str → D → Option D) (f : Co D) (gb : Co Opd) : Co D := Co.bind f fun d => match d with
  | .str s => Co.bind gb fun o m => match o.get m with
    | some d2 => match g s d2 with
      | some r => .ok r m
      | none => .no
    | none => .no
  | _ => fun _ => .no
def StrM (K : PySem.W.Frag) (mg : Str → Option Value) (g : Str → D → Option D) (r : V → List V → Hp → VK → Prop) : Prop :=
  ∀ (E : Ev) (H : Hp) (s : Str) (y : V) (d2 d : D) (Q : VK), (∀ a, E.N a → ∃ o, H a = some o) → RepV K mg E H y d2 → g s d2 = some d → (∀ v H', Same H H' → Rep K mg E H' v d → Q v H') → r (.str s) [y] H Q
section
variable {X : Cx} {a b e : Expr} {f : Co D} {gb : Co Opd} {apos pos : Pos}
theorem ee_m1S {g : Str → D → Option D} {r : V → List V → Hp → VK → Prop} (h : PE X e (tM1 r (rdE X.K X.mg f) (rdB X.K X.mg gb))) (hg : StrM X.K X.mg g r) : EE X e (eM1S g f gb) := PE.imp h fun σ H Q ⟨W, m, S, d, m', hf, q⟩ => by
  obtain ⟨ds, m1, e1, hf⟩ := Co.bind_ok hf
  cases ds <;> first
    | (cases hf; done)
    | skip
  rename_i s
  obtain ⟨o, m2, e2, hf⟩ := Co.bind_ok hf
  refine ⟨W, m, S, _, m1, e1, fun x ob1 H1 A1 r1 => ?_⟩
  cases r1
  refine ⟨⟨s, rfl⟩, _, m1, A1.2, o, m2, e2, fun y ob2 H2 A2 r2 => ?_⟩
  have A := A1.trans A2
  cases h1 : o.get m2 with
  | none => simp only [h1] at hf; cases hf
  | some d2 =>
    cases h2 : g s d2 with
    | none => simp only [h1, h2] at hf; cases hf
    | some d3 =>
      simp only [h1, h2] at hf
      cases hf
      exact hg _ H2 s y d2 _ Q (fun a z => A.2.dom z) (r2.view A.2 h1) h2 fun v H' sm rv => q v ob2 H' (A.trans (.same A.2 sm)) rv
def toStrs : List D → Option (List Str)
  | [] => some []
  | .str i :: ds => (toStrs ds).map (i :: ·)
  | _ :: _ => none
theorem toStrs_some : ∀ {ds : List D} {ns : List Str}, toStrs ds = some ns → ds = ns.map D.str
  | [], ns, h => by cases h; rfl
  | d :: ds, ns, h => by
    cases d <;> first
      | (cases h; done)
      | skip
    rename_i i
    obtain ⟨ms, h1, rfl⟩ := Option.map_eq_some_iff.mp h
    rw [toStrs_some h1]; rfl
theorem toStrs_map (ns : List Str) : toStrs (ns.map D.str) = some ns := by
  induction ns with
  | nil => rfl
  | cons n ns ih => rw [List.map_cons]; show (toStrs _).map _ = _; rw [ih]; rfl
def joinD (a : Str) : D → Option D
  | .lst ds => (toStrs ds).bind fun ys => if (ys.map (·.length)).sum + ys.length * a.length ≤ 16777216 then some (.str (Txt.join a ys)) else none
  | .tup ds => (toStrs ds).bind fun ys => if (ys.map (·.length)).sum + ys.length * a.length ≤ 16777216 then some (.str (Txt.join a ys)) else none
  | _ => none
theorem strm_join : StrM X.K X.mg joinD (fun x xs H Q => ∃ a p, ∃ ys : List Str, x = .str a ∧ xs = [.ref p] ∧ (SqL X.K H p (ys.map V.str) ∨ SqT X.K H p (ys.map V.str)) ∧
    (ys.map (·.length)).sum + ys.length * a.length ≤ 16777216 ∧ Q (.str (Txt.join a ys)) H) := fun E H s y d2 d Q hN r g q => by
  unfold joinD at g
  split at g
  · obtain ⟨ys, h1, g⟩ := Option.bind_eq_some_iff.mp g
    split at g
    · rename_i hz
      cases g
      obtain ⟨p, vs, rfl, hp, rl⟩ := r.lst
      rw [toStrs_some h1] at rl
      have e := rl.strs
      subst e
      exact ⟨s, p, ys, rfl, rfl, .inl (SqL.of hp), hz, q _ _ (Same.refl _) (.str _)⟩
    · cases g
  · obtain ⟨ys, h1, g⟩ := Option.bind_eq_some_iff.mp g
    split at g
    · rename_i hz
      cases g
      obtain ⟨p, vs, rfl, hp, rl⟩ := r.tup
      rw [toStrs_some h1] at rl
      have e := rl.strs
      subst e
      exact ⟨s, p, ys, rfl, rfl, .inr (SqT.of hp), hz, q _ _ (Same.refl _) (.str _)⟩
    · cases g
  · cases g
theorem ee_join (ho : EE X a f) (he : EB X b gb) (hs : starEach [b] X.env = [(false, eval b X.env)] := by rfl) (hbase : attributeBase a "join" X.env (eval a X.env) = eval a X.env := by rfl) (hline : (apos.endLine == pos.line) = true := by rfl) :
    EE X (.Call (.Attribute a "join" apos) [b] [] pos) (eM1S joinD f gb) := ee_m1S (pe_join ho he hs hbase hline) strm_join
end
end PD
namespace PD
open PySem PySem.Spec PyProof.Rows L2
variable [TabC]
abbrev KO : KeyOrd := listOrd itemOrd
theorem KO.le_trans {a b c : KO.α} (h1 : KO.blt b a = false) (h2 : KO.blt c b = false) : KO.blt c a = false := by
  cases h : KO.blt c a with
  | false => rfl
  | true => rcases KO.negTrans c b a h with z | z <;> simp_all
section
variable {K : PySem.W.Frag} {mg : Str → Option Value} {E : Ev} {H : Hp} {X : Cx}
theorem RepL.ofMap {g : V → D} : ∀ {vs : List V}, (∀ v ∈ vs, Rep K mg E H v (g v)) → RepL K mg E H vs (vs.map g)
  | [], _ => .nil
  | v :: vs, h => .cons (h v List.mem_cons_self) (RepL.ofMap fun u hu => h u (List.mem_cons_of_mem _ hu))
end
end PD
namespace PD
open PySem PySem.Spec PyProof.Rows L2
variable [TabC]
def tK (k : List Key) : D := .tup (k.map dK)
def keysOf : D → Option (List D)
  | .dk kds => some (kds.map fun kv => dK kv.1)
  | .dt kds => some (kds.map fun kv => tK kv.1)
  | _ => none
def iKeysV (i : Nat) : Co (List D) := fun m => match m.env[i]? with
  | some (.pl d) => match keysOf d with
    | some ds => .ok ds m
    | none => .no
  | _ => .no
section
variable {K : PySem.W.Frag} {mg : Str → Option Value} {E0 : Ev} {H0 : Hp}
theorem rep_tK {E : Ev} {H : Hp} {q : Addr} {k : List Key} (h : H q = some (.tup (k.map kV))) : Rep K mg E H (.ref q) (tK k) := by
  refine .tup h ?_
  clear h
  induction k with
  | nil => exact .nil
  | cons x k ih => exact .cons (rep_dK x) ih
theorem ItD.keys {d : Addr} {o : Obj} {kvs : List (Key × V)} {kds : List (Key × D)} (sb : E0.Sub) (h : H0 d = some (.frz o (.dK kvs))) (l : kvs.map (·.1) = kds.map (·.1)) : ItD K mg E0 H0 (Itk d o kvs) (kds.map fun kv => dK kv.1) := by
  refine .of walk_keys (by have := congrArg List.length l; simpa using this) (fun E H x => x.frz _ _ _ h) fun i E H v H' e y => ?_
  obtain ⟨rfl, k, w, hk, rfl⟩ := y
  refine ⟨Same.refl _, fun c hc => ?_⟩
  rw [List.getElem?_map] at hc
  obtain ⟨⟨k2, dd⟩, hk2, rfl⟩ := Option.map_eq_some_iff.mp hc
  have e1 : (kvs.map (·.1))[i]? = some k := by rw [List.getElem?_map, hk]; rfl
  rw [l, List.getElem?_map, hk2] at e1
  cases e1
  exact rep_dK _
theorem ItD.keysT {d : Addr} {o : Obj} {kvs : List (List Key × V)} {kds : List (List Key × D)} (sb : E0.Sub) (h : H0 d = some (.frz o (.dT kvs))) (l : kvs.map (·.1) = kds.map (·.1)) : ItD K mg E0 H0 (Itkt d o kvs) (kds.map fun kv => tK kv.1) := by
  refine .of walk_keysT (by have := congrArg List.length l; simpa using this) (fun E H x => x.frz _ _ _ h) fun i E H v H' e y => ?_
  obtain ⟨rfl, k, w, q, hk, rfl, hq⟩ := y
  refine ⟨Same.refl _, fun c hc => ?_⟩
  rw [List.getElem?_map] at hc
  obtain ⟨⟨k2, dd⟩, hk2, rfl⟩ := Option.map_eq_some_iff.mp hc
  have e1 : (kvs.map (·.1))[i]? = some k := by rw [List.getElem?_map, hk]; rfl
  rw [l, List.getElem?_map, hk2] at e1
  cases e1
  exact rep_tK hq
end
section
variable {K : PySem.W.Frag} {mg : Str → Option Value}
theorem keys_rdI {σ : L2.St} {H : Hp} {R : It → Hp → Prop} {i : Nat} {d : Addr} {o : Obj} {u : HO} (hσ : σ[i]? = some (some (V.ref d))) (hH : H d = some (.frz o u)) (h : rdI K mg (iKeysV i) σ H R) : iKeys (tVar i) σ H R := by
  obtain ⟨W, m, S, ds, m', hf, q⟩ := h
  unfold iKeysV at hf
  split at hf
  · rename_i dd ek
    split at hf
    · rename_i ds' hk
      cases hf
      obtain ⟨v, hv, r⟩ := S.pl i _ ek
      rw [hσ] at hv
      cases hv
      refine ⟨_, hσ, d, o, rfl, ?_⟩
      cases dd <;> first
        | (cases hk; done)
        | skip
      · cases hk
        cases r with
        | @dk _ kvs _ hd n l r =>
          rcases hd with hd | ⟨o2, hd⟩
          · rw [hH] at hd; cases hd
          · rw [hH] at hd; cases hd
            exact .inl ⟨_, hH, q _ W.ob H (.refl S) fun M' hM => .keys hM hH l⟩
      · cases hk
        cases r with
        | @dt _ kvs _ hd n l r =>
          rcases hd with hd | ⟨o2, hd⟩
          · rw [hH] at hd; cases hd
          · rw [hH] at hd; cases hd
            exact .inr ⟨_, hH, q _ W.ob H (.refl S) fun M' hM => .keysT hM hH l⟩
    · cases hf
  · cases hf
variable {W : Wd} {σ : L2.St} {H : Hp} {m m' : M} {d : Addr} {u : HO} {Q : VK}
theorem rdF_lock {f : Co D} {dd : D} (S0 : Sit K mg W σ H m) (h : H d = some u) (hu : DictO u) (n : ¬ (W.ev m.obs.length).N d) (od : Obj) (hf : f m = .ok dd m')
    (q : ∀ a ob' H', H a = none → Ext (W.ev m.obs.length) H ({ W with ob := ob' }.ev m'.obs.length) H' → ¬ ({ W with ob := ob' }.ev m'.obs.length).N a → Sit K mg ({ W with ob := ob' }.add a) σ H' m' →
      Cell K mg (({ W with ob := ob' }.add a).ev m'.obs.length) H' a dd → Q (.ref a) H') :
    rdF K mg f σ (upd H d (.frz od u)) fun v H' => H' d = some (.frz od u) ∧ Q v (upd H' d u) := by
  refine ⟨W.base m.obs.length (upd H d (.frz od u)), m, S0.lock h hu n od, dd, m', hf, fun a ob' H2 ha x nN S c => ?_⟩
  have ne : a ≠ d := fun e => by rw [e, upd_same] at ha; cases ha
  rw [upd_ne ne] at ha
  obtain ⟨h1, h2, h3⟩ := S0.unlock h hu n S rfl rfl
  exact ⟨h1, q a ob' (upd H2 d u) ha (x.unlock h hu) nN h3 (c.trp (trp_unlock h1 hu) fun o q => by rw [upd_ne ne]; exact q)⟩
end
section
variable {X : Cx} {tg e elt : Expr} {ft : Co Bool} {fe : Co D} {fb : Co Flow'} {pos p : Pos} {body : List Stmt} {t : Bool} {is : List Nat} {ifs : List Expr} {scope : Scope} {own : List (Str × Nat)}
theorem ef_lcKeys (i : Nat) {x : Str} (hN : X.N.Nodup) (ok : BlkOk X.N X.env.scope scope own)
    (hg : ∀ (s : Shared) (H : Hp) (C : Addr) (cl : List (Str × Addr)) (fp : List Addr), GG (X.blk s H scope (compEnvC scope cl C X.env) fp) tg t is)
    (ht : ∀ (s : Shared) (H : Hp) (C : Addr) (cl : List (Str × Addr)) (fp : List Addr), ETs (X.blk s H scope (compEnvC scope cl C X.env) fp) ifs ft)
    (he : ∀ (s : Shared) (H : Hp) (C : Addr) (cl : List (Str × Addr)) (fp : List Addr), EE (X.blk s H scope (compEnvC scope cl C X.env) fp) elt fe)
    (hi : X.N[i]? = some x := by rfl) (hvi : Vis X.env.scope x := by first | exact Or.inl rfl | exact Or.inr (Or.inl rfl) | exact Or.inr (Or.inr rfl)) (hd : (x == ("__debug__" : Str)) = false := by decide)
    (hcd : (x == ("__classdict__" : Str)) = false := by decide)
    (hv : ∀ i ∈ is, i ∈ own.map (·.2) := by decide) (hc : X.calm = true := by rfl) (hs : ∀ y, foldedSetIterable (.Name x p) X.env y = pure y := by intro _; rfl) :
    EF X (.ListComp elt [⟨tg, .Name x p, ifs, 0⟩] scope pos) (eLc (iKeysV i) t is (own.map (·.2)) ft fe) := by
  have R := pe_lc (elt := elt) (g := gD X.K X.mg t is) (tt := rdT X.K X.mg ft) (te := rdE X.K X.mg fe) (pos := pos) hc hN (pi_keys (tg := tg) (pe_var (pos := p) hi hvi hd hcd)) ok hg ht he hs
  refine PE.imp (PE.or (pe_lock R) R) fun σ H Q h => ?_
  obtain ⟨W, m, S, dd, m', hf, q⟩ := h
  have hf0 := hf
  obtain ⟨ds, m1, e1, _⟩ := Co.bind_ok hf
  unfold iKeysV at e1
  split at e1
  · rename_i d0 ek
    split at e1
    · rename_i ds' hk
      obtain ⟨v, hv0, r⟩ := S.pl i _ ek
      have key : ∀ (d : Addr) (u : HO), v = .ref d → DictO u → Rd H d u → ¬ (W.ev m.obs.length).N d → (tLockE (tLc (iKeys (tVar i)) (gD X.K X.mg t is) (rdT X.K X.mg ft) (rdE X.K X.mg fe) (own.map (·.2))) σ H Q ∨ tLc (iKeys (tVar i)) (gD X.K X.mg t is) (rdT X.K X.mg ft) (rdE X.K X.mg fe) (own.map (·.2)) σ H Q) := fun d u ev hu hd n => by
        subst ev
        rcases hd with hd | ⟨o, hd⟩
        · refine .inl ⟨d, u, hd, hu.mut, fun od => ?_⟩
          have h1 := lc_rd (own := own) hv (rdF_lock (Q := Q) S hd hu n od hf0 q)
          exact keys_rdI hv0 upd_same h1
        · refine .inr ?_
          have h1 := lc_rd (own := own) hv (Q := Q) ⟨W, m, S, dd, m', hf0, q⟩
          exact keys_rdI hv0 hd h1
      cases d0 <;> first
        | (cases hk; done)
        | skip
      · cases r with
        | @dk d kvs _ hd n l r => exact key d _ rfl (.inl ⟨_, rfl⟩) hd n
      · cases r with
        | @dt d kvs _ hd n l r => exact key d _ rfl (.inr ⟨_, rfl⟩) hd n
    · cases e1
  · cases e1
def sForKeys (i : Nat) (t : Bool) (is : List Nat) (b : Co Flow') : Co Flow' := fun m => match m.env[i]? with
  | some (.pl d) => match keysOf d with
    | some ds => forL t is b ds m
    | none => .no
  | _ => .no
theorem ss_forKeys (i : Nat) {x : Str} (hg : GG X tg t is) (hb : SSs X body fb) (hN : X.N[i]? = some x := by rfl) (hv : Vis X.env.scope x := by first | exact Or.inl rfl | exact Or.inr (Or.inl rfl) | exact Or.inr (Or.inr rfl)) (hd : (x == ("__debug__" : Str)) = false := by decide)
    (hcd : (x == ("__classdict__" : Str)) = false := by decide)
    (hp : PassesOwn (model X.prog X.w) X.A X.env X.xe := by exact PassesOwn.never) (hc : X.calm = true := by rfl) (hs : ∀ y, foldedSetIterable (.Name x p) X.env y = pure y := by intro _; rfl) :
    SS X (.For tg (.Name x p) body [] pos) (sForKeys i t is fb) := by
  have R := ps_for (pos := pos) hp hc (pi_keys (tg := tg) (pe_var (pos := p) hN hv hd hcd)) hg hb hs
  refine PS.imp (PS.or (ps_lock R) R) fun D σ H ⟨W, m, S, fl, m', hf, q⟩ => ?_
  unfold sForKeys at hf
  split at hf
  · rename_i d0 ek
    split at hf
    · rename_i ds hk
      obtain ⟨v, hv, r⟩ := S.pl i _ ek
      cases d0 <;> first
        | (cases hk; done)
        | skip
      · cases hk
        cases r with
        | @dk d kvs _ hd n l r =>
          have hu : DictO (.dK kvs) := .inl ⟨_, rfl⟩
          rcases hd with hd | ⟨o, hd⟩
          · refine .inl ⟨d, _, hd, trivial, fun od => ⟨_, hv, d, od, rfl, .inl ⟨kvs, upd_same, ?_⟩⟩⟩
            exact for_rd (S.lock hd hu n od) (.keys (Wd.sub _ _) upd_same l) hf (q.lock S hd hu n)
          · exact .inr ⟨_, hv, d, o, rfl, .inl ⟨kvs, hd, for_rd S (.keys (Wd.sub _ _) hd l) hf q⟩⟩
      · cases hk
        cases r with
        | @dt d kvs _ hd n l r =>
          have hu : DictO (.dT kvs) := .inr ⟨_, rfl⟩
          rcases hd with hd | ⟨o, hd⟩
          · refine .inl ⟨d, _, hd, trivial, fun od => ⟨_, hv, d, od, rfl, .inr ⟨kvs, upd_same, ?_⟩⟩⟩
            exact for_rd (S.lock hd hu n od) (.keysT (Wd.sub _ _) upd_same l) hf (q.lock S hd hu n)
          · exact .inr ⟨_, hv, d, o, rfl, .inr ⟨kvs, hd, for_rd S (.keysT (Wd.sub _ _) hd l) hf q⟩⟩
    · cases hf
  · cases hf
end
end PD
namespace PD
open PySem PySem.Spec PyProof.Rows L2
variable [TabC]
section
variable {X : Cx} {e : Expr} {es : List Expr} {p : Pos} {f : Co D} {fs : Co (List D)}
def seqOf : D → Option (List D)
  | .lst xs => some xs
  | .tup xs => some xs
  | _ => none
def eStar (f : Co D) (fs : Co (List D)) : Co (List D) := Co.bind f fun d => Co.bind fs fun ds m => match seqOf d with
  | some xs => .ok (xs ++ ds) m
  | none => .no
theorem ea_star (ha : EE X e f) (hr : EA X es fs) (hs : starEach (.Starred e p :: es) X.env = (true, eval e X.env) :: starEach es X.env := by rfl) : EA X (.Starred e p :: es) (eStar f fs) :=
  PA.imp (StX.pa_star ha hr hs) fun σ H Q ⟨W, m, S, d, m', hf, q⟩ => by
    obtain ⟨d1, m1, e1, hf⟩ := Co.bind_ok hf
    obtain ⟨ds, m2, e2, hf⟩ := Co.bind_ok hf
    refine ⟨W, m, S, d1, m1, e1, fun v ob1 H1 A1 r1 => ?_⟩
    cases d1 <;> first
      | (cases hf; done)
      | skip
    · rename_i xs
      cases hf
      obtain ⟨a, vs, rfl, hx, ra⟩ := (RepV.of r1).tup
      exact ⟨a, vs, rfl, .inl (SqT.of hx), _, m1, A1.2, ds, _, e2, fun ys ob2 H2 A2 r2 => q _ ob2 H2 (A1.trans A2) ((A2.repL ra).append r2)⟩
    · rename_i xs
      cases hf
      obtain ⟨a, vs, rfl, hx, ra⟩ := (RepV.of r1).lst
      exact ⟨a, vs, rfl, .inr (SqL.of hx), _, m1, A1.2, ds, _, e2, fun ys ob2 H2 A2 r2 => q _ ob2 H2 (A1.trans A2) ((A2.repL ra).append r2)⟩
end
end PD
namespace PD
open PySem PySem.Spec PyProof.Rows L2
variable [TabC]
def dcL (t : Bool) (is vs : List Nat) (ft : Co Bool) (fk fv : Co D) : List D → List (Key × D) → Co (List (Key × D))
  | [], acc, m => .ok acc m
  | d :: ds, acc, m => match setTg t is d m.env with
    | none => .no
    | some env => match ft { m with env := env } with
      | .no => .no
      | .ok false m1 => if noOw vs m1.env = true then dcL t is vs ft fk fv ds acc { m1 with env := wipeE m1.env vs } else .no
      | .ok true m1 => match fk m1 with
        | .no => .no
        | .ok k m2 => match fv m2 with
          | .no => .no
          | .ok y m3 => match keyD k with
            | none => .no
            | some kk => if noOw vs m3.env = true then dcL t is vs ft fk fv ds (putD acc kk y) { m3 with env := wipeE m3.env vs } else .no
def eDc (fi : Co (List D)) (t : Bool) (is vs : List Nat) (ft : Co Bool) (fk fv : Co D) : Co D := Co.bind fi fun ds m =>
  if noOw vs m.env = true ∧ ds.length < sizeLine then match dcL t is vs ft fk fv ds [] { m with env := wipeE m.env vs } with
    | .ok acc m' => .ok (.dk acc) { m' with env := unwipe m.env m'.env vs }
    | .no => .no
  else .no
theorem putD_len (kds : List (Key × D)) (k : Key) (v : D) : (putD kds k v).length ≤ kds.length + 1 := by
  unfold putD
  split <;> simp
section
variable {X : Cx} {tg iter kx vx : Expr} {ifs : List Expr} {fi : Co (List D)} {t : Bool} {is : List Nat} {ft : Co Bool} {fk fv : Co D} {scope : Scope} {own : List (Str × Nat)} {pos : Pos} {i : Nat}
theorem dc_rd {σ : L2.St} {H : Hp} {Q : VK} {K : PySem.W.Frag} {mg : Str → Option Value} (hv : ∀ i ∈ is, i ∈ own.map (·.2)) (h : rdF K mg (eDc fi t is (own.map (·.2)) ft fk fv) σ H Q) : tDc (rdI K mg fi) (gD K mg t is) (rdT K mg ft) (rdE K mg fk) (rdE K mg fv) (own.map (·.2)) σ H Q := by
  obtain ⟨W, m, S, d, m', hf, q⟩ := h
  obtain ⟨ds, m1, e1, hf⟩ := Co.bind_ok hf
  generalize own.map (·.2) = vs at *
  split at hf
  · rename_i hc
    obtain ⟨h0, hz⟩ := hc
    split at hf
    · rename_i res mf el
      cases hf
      refine ⟨W, m, S, ds, m1, e1, fun J ob' H1 A it Dl hD => ?_⟩
      obtain ⟨Y, wk, yd⟩ := it _ (Wd.sub _ _)
      have S1 := A.2
      have sm := same_new hD (.dK [])
      have Sa : Sit K mg (({ W with ob := ob' } : Wd).base m1.obs.length H1 |>.add Dl) (L2.wipe σ vs) (upd H1 Dl (.dK [])) { m1 with env := wipeE m1.env vs } := (S1.rebase.add hD sm ⟨_, upd_same⟩).wipe h0
      have nm1 : ¬ ({ W with ob := ob' }.ev m1.obs.length).Mx Dl := fun z => S1.fresh hD (.inr z)
      refine walk_loop wk (fun i H => ∃ W2 m2 kvs acc, Lat (({ W with ob := ob' } : Wd).base m1.obs.length H1 |>.add Dl) W2 ∧ (∀ j, j ∉ vs → W2.own j = W.own j) ∧ ¬ (W2.ev m2.obs.length).Mx Dl ∧ Sit K mg W2 (L2.wipe σ vs) H m2 ∧
        H Dl = some (.dK kvs) ∧ RepK K mg (W2.ev m2.obs.length) H kvs acc ∧ acc.length ≤ i ∧ dcL t is vs ft fk fv (ds.drop i) acc m2 = .ok res mf)
        ⟨_, _, [], [], Lat.refl _, fun _ _ => rfl, nm1, Sa, upd_same, .nil, Nat.zero_le _, el⟩
        (fun i H _ ⟨W2, m2, kvs, acc, l, _, _, S2, _⟩ => ⟨_, by have := S2.ext; rw [l.2.1, l.2.2] at this; exact this⟩) (fun i x H H' hi ⟨W2, m2, kvs, acc, l, ho, nm, S2, hl, ra, hlen, h2⟩ y => ?_)
        fun H ⟨W2, m2, kvs, acc, l, ho, nm, S2, hl, ra, hlen, h2⟩ => ?_
      · have ed : ds.drop i = ds[i] :: ds.drop (i + 1) := List.drop_eq_getElem_cons hi
        rw [ed] at h2
        unfold dcL at h2
        have x2 := S2.ext
        rw [l.2.1, l.2.2] at x2
        obtain ⟨sm2, rp⟩ := yd i _ H x H' x2 y
        cases e2 : setTg t is ds[i] m2.env with
        | none => rw [e2] at h2; cases h2
        | some env =>
          rw [e2] at h2
          simp only at h2
          have lN : W2.N0 Dl := by rw [l.1]; exact .inr rfl
          refine ⟨W2, m2, ds[i], env, S2.same sm2, rp ds[i] (by simp [hi]), e2, fun W3 xs l3 o3 w3 S3 => ⟨(setSt_wipe hv).trans (wipe_idem fun _ z => z), ?_⟩⟩
          have l3N : W3.N0 Dl := by rw [l3.1]; exact lN
          have nm3 : ¬ (W3.ev m2.obs.length).Mx Dl := fun z => by
            rcases z with ⟨j, hj⟩ | ⟨n, hn, en⟩
            · exact S3.o0 j Dl hj l3N
            · exact nm (.inr ⟨n, hn, by rw [← en, o3]⟩)
          have lt3 := l.trans l3
          have own3 : ∀ j, j ∉ vs → W3.own j = W.own j := fun j hj => (w3 j fun z => hj (hv j z)).trans (ho j hj)
          have hl' : H' Dl = some (.dK kvs) := sm2 _ _ hl
          have le3 : (W2.ev m2.obs.length).Le (W3.ev m2.obs.length) := by
            refine ⟨Nat.le_refl _, fun n _ => congrFun o3 n, fun b z => ?_⟩
            rcases z with z | ⟨j, z⟩ | ⟨n, hn, z⟩
            · exact .inl (by rw [← l3.1]; exact z)
            · by_cases hj : j ∈ is
              · obtain ⟨d3, hd3⟩ := S3.owi j b z
                rcases setTg_get e2 j with ⟨d4, h4⟩ | ⟨h4, _⟩
                · have h5 : env[j]? = some (.ow d3) := hd3
                  rw [h4] at h5; cases h5
                · exact absurd hj h4
              · exact .inr (.inl ⟨j, by rw [← w3 j hj]; exact z⟩)
            · exact .inr (.inr ⟨n, hn, by rw [← o3]; exact z⟩)
          have ra3 : RepL K mg (W3.ev m2.obs.length) H' (kvs.map (·.2)) (acc.map (·.2)) := (ra.v.up sm2).le le3
          have lkv := ra.len
          cases e3 : ft { m2 with env := env } with
          | no => rw [e3] at h2; cases h2
          | ok b m3 =>
            rw [e3] at h2
            refine ⟨W3, _, S3, b, m3, e3, fun ob3 H3 A3 => ?_⟩
            have hl3 : H3 Dl = some (.dK kvs) := A3.1.keep _ _ nm3 hl'
            have nm4 := A3.1.notM hl' nm3
            have ra4 := ra3.ext A3.1 (Wd.sub _ _)
            cases b with
            | false =>
              show if false = true then _ else _
              rw [if_neg (by decide)]
              simp only at h2
              split at h2
              · rename_i hn
                refine ⟨_, { m3 with env := wipeE m3.env vs }, kvs, acc, lt3.trans (show Lat W3 { W3 with ob := ob3 } from ⟨rfl, rfl, rfl⟩), own3, nm4, ?_, hl3, ⟨ra.k, ra4⟩, by omega, h2⟩
                have := A3.2.wipe hn
                rw [setSt_wipe hv] at this
                have e : L2.wipe (L2.wipe σ vs) vs = L2.wipe σ vs := wipe_idem fun _ z => z
                rw [e] at this
                exact this
              · cases h2
            | true =>
              show if true = true then _ else _
              rw [if_pos rfl]
              simp only at h2
              cases e4 : fk m3 with
              | no => rw [e4] at h2; cases h2
              | ok kd m4 =>
                rw [e4] at h2
                simp only at h2
                cases e5 : fv m4 with
                | no => rw [e5] at h2; cases h2
                | ok yv m5 =>
                  rw [e5] at h2
                  simp only at h2
                  cases e6 : keyD kd with
                  | none => rw [e6] at h2; cases h2
                  | some kk =>
                    rw [e6] at h2
                    simp only at h2
                    split at h2
                    · rename_i hn
                      refine ⟨_, m3, A3.2, kd, m4, e4, fun v ob4 H4 A4 rv => ⟨_, m4, A4.2, yv, m5, e5, fun z ob5 H5 A5 rz => ?_⟩⟩
                      have ek := rep_key rv e6
                      have hl4 := A4.1.keep _ _ nm4 hl3
                      have nm5 := A4.1.notM hl3 nm4
                      have hl5 := A5.1.keep _ _ nm5 hl4
                      have nm6 := A5.1.notM hl4 nm5
                      refine ⟨kvs, kk, ek, hl5, by omega, ?_⟩
                      have Sw := A5.2.wipe hn
                      rw [setSt_wipe hv] at Sw
                      have e : L2.wipe (L2.wipe σ vs) vs = L2.wipe σ vs := wipe_idem fun _ z => z
                      rw [e] at Sw
                      obtain ⟨S5, up⟩ := Sw.updC (a := Dl) (o1 := .dK kvs) (o2 := .dK (putK kvs kk z)) l3N nm6 hl5 (fun _ z => nomatch z) (fun _ _ z => nomatch z) (by rw [lt3.2.2]; exact hD)
                      have rk : RepK K mg ({ W3 with ob := ob5 }.ev m5.obs.length) H5 (putK kvs kk z) (putD acc kk yv) := RepK.put ⟨ra.k, (ra4.ext A4.1 (Wd.sub _ _)).ext A5.1 (Wd.sub _ _)⟩ kk rz
                      refine ⟨_, { m5 with env := wipeE m5.env vs }, putK kvs kk z, putD acc kk yv, lt3.trans (show Lat W3 { W3 with ob := ob5 } from ⟨rfl, rfl, rfl⟩), own3, nm6, S5, upd_same, ⟨rk.k, up _ _ rk.v⟩, ?_, h2⟩
                      have := putD_len acc kk yv
                      omega
                    · cases h2
      · rw [List.drop_length] at h2
        cases h2
        have ownE : W2.own = W.own := by
          funext j
          by_cases hj : j ∈ vs
          · have e1 : W2.own j = none := by
              cases e : W2.own j with
              | none => rfl
              | some a =>
                obtain ⟨d, hd⟩ := S2.owi j a e
                obtain ⟨b, _, es, _⟩ := S2.ow j d hd
                exact absurd hj (wipe_some es).2
            have e2 : W.own j = none := by
              cases e : W.own j with
              | none => rfl
              | some a =>
                obtain ⟨d, hd⟩ := S1.owi j a e
                exact absurd hj (noOw_out h0 hd)
            rw [e1, e2]
          · exact ho j hj
        obtain ⟨N0, E0, H0, own2, ob2⟩ := W2
        obtain ⟨l1, l2, l3⟩ := l
        simp only at l1 l2 l3 ownE
        subst l1 l2 l3 ownE
        have S3 := S1.back (S1.unwipe h0 S2.ext S2) rfl rfl
        refine q Dl ob2 H (A.1.nn hD) (A.1.trans (S2.ext.sub rfl rfl (fun b z => ?_) fun b z => .inl z)) (fun z => ?_) S3 ⟨kvs, hl, ra.k, ra.v⟩
        · exact .inl (z.elim (fun z => .inl (.inl z)) .inr)
        · rcases z with z | z
          · obtain ⟨o, z⟩ := S1.n0 Dl z
            rw [hD] at z; cases z
          · exact nm z
    · cases hf
  · cases hf
theorem ef_dc (hN : X.N.Nodup) (hi : EI X tg iter fi) (ok : BlkOk X.N X.env.scope scope own)
    (hg : ∀ (s : Shared) (H : Hp) (C : Addr) (cl : List (Str × Addr)) (fp : List Addr), GG (X.blk s H scope (compEnvC scope cl C X.env) fp) tg t is)
    (ht : ∀ (s : Shared) (H : Hp) (C : Addr) (cl : List (Str × Addr)) (fp : List Addr), ETs (X.blk s H scope (compEnvC scope cl C X.env) fp) ifs ft)
    (hk : ∀ (s : Shared) (H : Hp) (C : Addr) (cl : List (Str × Addr)) (fp : List Addr), EE (X.blk s H scope (compEnvC scope cl C X.env) fp) kx fk)
    (he : ∀ (s : Shared) (H : Hp) (C : Addr) (cl : List (Str × Addr)) (fp : List Addr), EE (X.blk s H scope (compEnvC scope cl C X.env) fp) vx fv)
    (hv : ∀ i ∈ is, i ∈ own.map (·.2) := by decide) (hc : X.calm = true := by rfl) (hs : ∀ x, foldedSetIterable iter X.env x = pure x := by intro _; rfl) :
    EF X (.DictComp kx vx [⟨tg, iter, ifs, 0⟩] scope pos) (eDc fi t is (own.map (·.2)) ft fk fv) := PE.imp (pe_dc hc hN hi ok hg ht hk he hs) fun σ H Q h => dc_rd hv h
end
end PD
namespace PD
open PySem PySem.Spec PyProof.Rows L2
variable [TabC]
def ItdT (d : Addr) (o : Obj) (kvs : List (List Key × V)) : It :=
  ⟨fun i H => H d = some (.frz o (.dT kvs)) ∧ i < kvs.length, fun i H x H' => H' = H ∧ ∃ k, kvs[i]? = some (k, x), fun i H => H d = some (.frz o (.dT kvs)) ∧ kvs.length ≤ i⟩
section
variable {X : Cx} {pins : List (Addr × Obj)} {σ : L2.St} {H : Hp} {s : Shared} {d : Addr} {o : Obj}
theorem frzT2 {kvs : List (List Key × V)} (I : Inv X pins σ H s) (h : H d = some (.frz o (.dT kvs))) :
    (d == sysModules) = false ∧ s.heap.get? d = some o ∧ o.ExactDict ∧ ∃ (es : Array DictEntry) (ep : Nat), o.data = .dict es ep ∧ es.size = kvs.length ∧
      ∀ (i : Nat) (k : List Key) (v : V), kvs[i]? = some (k, v) → ∃ (en : DictEntry) (q : Addr), es[i]? = some en ∧ en.key = .ref q ∧ H q = some (.tup (k.map kV)) ∧ RelV v en.val := by
  obtain ⟨hd, _, hs, xs, pr, o', es, ep, ho, hx, hdt, he, _⟩ := I.hok d _ h
  rw [hd] at ho; cases ho
  have l1 : es.size = xs.length := size_of_entries he
  have l2 := Paired.length pr
  refine ⟨hs, hd, hx, es, ep, hdt, l1.trans l2.symm, fun i k v e => ?_⟩
  obtain ⟨b, hb, _, e2, e3⟩ := paired_get pr e
  have en := entry_at he i
  rw [hb] at en
  exact ⟨_, b.2.1, en, rfl, e2, e3⟩
end
section
variable {P : Program} {w : World} {K : PySem.W.Frag} {tg : Expr} {d : Addr} {o : Obj} {es : Array DictEntry} {ep : Nat}
theorem turn_valsT {kvs : List (List Key × V)} (it : Addr) (hod : o.data = .dict es ep) : Turn P w K tg (ItdT d o kvs) [it] it (fun i h => h.IsValIter it d i kvs.length ep) where
  mem := by simp
  obj := fun i h st b hb => by
    cases List.mem_singleton.mp hb
    obtain ⟨oi, e, c, dd⟩ := st
    exact ⟨oi, e, fun v z => by rw [dd] at z; cases z⟩
  keep := fun i h h' st k => st.at fun oi e => k it (by simp) oi e
  item := by
    intro X hP hw hK hc i pins s σ H E I hf st hg
    subst hP hw hK
    have f := hf it (by simp)
    obtain ⟨hs, hgd, hx, es', ep', hdt, hsz, ent⟩ := frzT2 I hg.1
    cases (dict_ep hod hdt).1; cases (dict_ep hod hdt).2
    obtain ⟨⟨k, v⟩, hkv⟩ : ∃ p, kvs[i]? = some p := ⟨_, List.getElem?_eq_getElem hg.2⟩
    obtain ⟨en, q, hen, _, _, rv⟩ := ent i k v hkv
    have hi : i < es.size := by rw [hsz]; exact hg.2
    have hen2 : es[i] = en := by
      rw [Array.getElem?_eq_getElem hi] at hen
      exact Option.some.inj hen
    rw [← hsz] at st
    refine wpAny_pyNext_values_item_raw st ⟨_, hgd, hx, hdt⟩ hi fun h' st' sb => ?_
    have I1 : Inv X pins σ H { s with heap := h' } := I.turned (t' := s.toks) (fun b ob hb e => (sb.2 b hb).trans e) f.1 f.2.1 f.2.2.2.1 f.2.2.2.2.1 f.2.2.2.2.2
    obtain ⟨oi, e, c, dd⟩ := id st'
    rw [hen2]
    refine ⟨en.val, rfl, go_of (s := { s with heap := h' }) e c dd (by decide) ⟨v, H, I1, rv, ⟨rfl, k, hkv⟩, ?_, fun b hb => (hf b hb).1⟩⟩
    show h'.IsValIter it d (i + 1) kvs.length _
    rw [← hsz]
    exact st'
  done := by
    intro X hP hw hK hc i pins s σ H E I hf st hg
    subst hP hw hK
    have f := hf it (by simp)
    obtain ⟨hs, hgd, hx, es', ep', hdt, hsz, ent⟩ := frzT2 I hg.1
    cases (dict_ep hod hdt).1; cases (dict_ep hod hdt).2
    have hi := hg.2
    rw [← hsz] at st hi
    exact wpAny_pyNext_values_end_raw (I.ok.hd hc) st ⟨_, hgd, hx, hdt⟩ hi fun h' eb => ⟨rfl, I.turned (t' := s.toks) (fun b ob hb e => eb b ob hb e) f.1 f.2.1 f.2.2.2.1 f.2.2.2.2.1 f.2.2.2.2.2⟩
  self := fun A i s Q E st h => wpAny_pyIter_valiter st h
end
def iValsT (td : TE) : TI := fun σ H R => td σ H fun x H1 => ∃ d o kvs, x = .ref d ∧ H1 d = some (.frz o (.dT kvs)) ∧ R (ItdT d o kvs) H1
section
variable {X : Cx} {tg e : Expr} {td : TE} {apos cpos : Pos}
theorem pi_valuesT (he : PE X e td) (hbase : attributeBase e "values" X.env (eval e X.env) = eval e X.env := by rfl) (hline : (apos.endLine == cpos.line) = true := by rfl) : PI X tg (.Call (.Attribute e "values" apos) [] [] cpos) (iValsT td) := by
  refine ⟨fun pins s σ H R I h => ?_⟩
  refine wpAny_Call_method (T := "dict") (id := "dict.values") hbase rfl hline F.plainAttrs_dict F.slot_dict_values F.type_dict_values (thn (he.run pins s σ H _ I h) fun u s1 ⟨x, H1, I1, rx, d, o, kvs, ex, hd, q⟩ => ?_)
  subst ex
  cases (show u = Value.ref d from rx)
  obtain ⟨hs, hgd, hx, es, ep, hdt, hsz, ent⟩ := frzT2 I1 hd
  have raw : s1.heap.DictRaw d es ep := ⟨_, hgd, hx, hdt⟩
  refine ⟨raw.typeIs, fun a ea => by cases ea; exact ⟨_, hgd, hx.2.1⟩, ?_⟩
  have I2 : Inv X pins σ H1 { s1 with heap := s1.heap.push { cls := .type "dict_values", data := .fields #[.ref d] } } := I1.kept (t' := s1.toks) fun b ob q => Heap.get?_push_of_some _ q
  have fin : wpAny (model X.prog X.w) X.A (pyIter (.ref s1.heap.objs.size)) (PIE X pins σ tg R) X.xe { s1 with heap := s1.heap.push { cls := .type "dict_values", data := .fields #[.ref d] } } := by
    refine wpAny_pyIter_values_raw (d := d) (ep := ep) (es := es) ⟨_, Heap.get?_push_size _ rfl, rfl, rfl⟩ (raw.at fun o e => Heap.get?_push_of_some _ e) (pi_one (tk := s1.toks) I2 _ (turn_valsT _ hdt) ⟨_, Heap.get?_push_size _ rfl, rfl, ?_⟩ q)
    rw [hsz] <;> rfl
  show wpAny _ _ (callWith cpos (.builtin "dict.values") [.ref d] [] []) _ X.xe s1
  exact method_meetsIn F.slot_dict_values F.entry_dict_values rfl (PySem.evalArgs_none ⟨rfl, raw.typeIs, F.args_dict_values_1 _, _, meets_dict_values_raw d hs, ⟨⟨es, ep, raw⟩, fin⟩⟩)
end
end PD
namespace PD
open PySem PySem.Spec PyProof.Rows L2
variable [TabC]
def valsOf : D → Option (List D)
  | .dk kds => some (kds.map (·.2))
  | .dt kds => some (kds.map (·.2))
  | _ => none
section
variable {K : PySem.W.Frag} {mg : Str → Option Value} {E0 : Ev} {H0 : Hp}
theorem walk_valsT {d : Addr} {o : Obj} {kvs : List (List Key × V)} : Walk (ItdT d o kvs) kvs.length (fun H => H d = some (.frz o (.dT kvs))) (fun i H x H' => H' = H ∧ ∃ k, kvs[i]? = some (k, x)) :=
  ⟨fun _ _ h q => ⟨q, h⟩, fun _ q => ⟨q, Nat.le_refl _⟩, fun _ _ _ _ _ _ y => y⟩
theorem ItD.vals {d : Addr} {o : Obj} {kvs : List (Key × V)} {kds : List (Key × D)} (sb : E0.Sub) (h : H0 d = some (.frz o (.dK kvs))) (r : RepK K mg E0 H0 kvs kds) : ItD K mg E0 H0 (Itd d o kvs) (kds.map (·.2)) := by
  refine .of walk_values (by rw [List.length_map]; exact r.len) (fun E H x => x.frz _ _ _ h) fun i E H v H' e y => ?_
  obtain ⟨rfl, k, hk⟩ := y
  refine ⟨Same.refl _, fun c hc => ?_⟩
  obtain ⟨w, hw, rw'⟩ := r.v.get' hc
  rw [List.getElem?_map, hk] at hw
  cases hw
  exact rw'.ext e sb
theorem ItD.valsT {d : Addr} {o : Obj} {kvs : List (List Key × V)} {kds : List (List Key × D)} (sb : E0.Sub) (h : H0 d = some (.frz o (.dT kvs))) (r : RepK K mg E0 H0 kvs kds) : ItD K mg E0 H0 (ItdT d o kvs) (kds.map (·.2)) := by
  refine .of walk_valsT (by rw [List.length_map]; exact r.len) (fun E H x => x.frz _ _ _ h) fun i E H v H' e y => ?_
  obtain ⟨rfl, k, hk⟩ := y
  refine ⟨Same.refl _, fun c hc => ?_⟩
  obtain ⟨w, hw, rw'⟩ := r.v.get' hc
  rw [List.getElem?_map, hk] at hw
  cases hw
  exact rw'.ext e sb
end
def iVals2 (td : TE) : TI := fun σ H R => iVals td σ H R ∨ iValsT td σ H R
section
variable {X : Cx} {tg e : Expr} {fb : Co Flow'} {pos p apos cpos : Pos} {body : List Stmt} {t : Bool} {is : List Nat}
theorem pi_vals2 {td : TE} (he : PE X e td) (hbase : attributeBase e "values" X.env (eval e X.env) = eval e X.env := by rfl) (hline : (apos.endLine == cpos.line) = true := by rfl) : PI X tg (.Call (.Attribute e "values" apos) [] [] cpos) (iVals2 td) :=
  ⟨fun pins s σ H R I h => h.elim ((pi_values he hbase hline).run pins s σ H R I) ((pi_valuesT he hbase hline).run pins s σ H R I)⟩
def sForVals (i : Nat) (t : Bool) (is : List Nat) (b : Co Flow') : Co Flow' := fun m => match m.env[i]? with
  | some (.pl d) => match valsOf d with
    | some ds => forL t is b ds m
    | none => .no
  | _ => .no
theorem ss_forVals (i : Nat) {x : Str} (hg : GG X tg t is) (hb : SSs X body fb) (hN : X.N[i]? = some x := by rfl) (hv : Vis X.env.scope x := by first | exact Or.inl rfl | exact Or.inr (Or.inl rfl) | exact Or.inr (Or.inr rfl)) (hd : (x == ("__debug__" : Str)) = false := by decide)
    (hcd : (x == ("__classdict__" : Str)) = false := by decide) (hbase : attributeBase (.Name x p) "values" X.env (eval (.Name x p) X.env) = eval (.Name x p) X.env := by rfl) (hline : (apos.endLine == cpos.line) = true := by rfl)
    (hp : PassesOwn (model X.prog X.w) X.A X.env X.xe := by exact PassesOwn.never) (hc : X.calm = true := by rfl) (hs : ∀ y, foldedSetIterable (.Call (.Attribute (.Name x p) "values" apos) [] [] cpos) X.env y = pure y := by intro _; rfl) :
    SS X (.For tg (.Call (.Attribute (.Name x p) "values" apos) [] [] cpos) body [] pos) (sForVals i t is fb) := by
  have R := ps_for (pos := pos) hp hc (pi_vals2 (tg := tg) (apos := apos) (cpos := cpos) (pe_var (pos := p) hN hv hd hcd) hbase hline) hg hb hs
  refine PS.imp (PS.or (ps_lock R) R) fun D σ H ⟨W, m, S, fl, m', hf, q⟩ => ?_
  unfold sForVals at hf
  split at hf
  · rename_i d0 ek
    split at hf
    · rename_i ds hk
      obtain ⟨v, hv, r⟩ := S.pl i _ ek
      cases d0 <;> first
        | (cases hk; done)
        | skip
      · cases hk
        cases r with
        | @dk d kvs _ hd n l r =>
          have hu : DictO (.dK kvs) := .inl ⟨_, rfl⟩
          rcases hd with hd | ⟨o, hd⟩
          · refine .inl ⟨d, _, hd, trivial, fun od => .inl ⟨_, hv, d, od, kvs, rfl, upd_same, ?_⟩⟩
            exact for_rd (S.lock hd hu n od) (.vals (Wd.sub _ _) upd_same ⟨l, r.trp (trp_lock hd hu)⟩) hf (q.lock S hd hu n)
          · exact .inr (.inl ⟨_, hv, d, o, kvs, rfl, hd, for_rd S (.vals (Wd.sub _ _) hd ⟨l, r⟩) hf q⟩)
      · cases hk
        cases r with
        | @dt d kvs _ hd n l r =>
          have hu : DictO (.dT kvs) := .inr ⟨_, rfl⟩
          rcases hd with hd | ⟨o, hd⟩
          · refine .inl ⟨d, _, hd, trivial, fun od => .inr ⟨_, hv, d, od, kvs, rfl, upd_same, ?_⟩⟩
            exact for_rd (S.lock hd hu n od) (.valsT (Wd.sub _ _) upd_same ⟨l, r.trp (trp_lock hd hu)⟩) hf (q.lock S hd hu n)
          · exact .inr (.inr ⟨_, hv, d, o, kvs, rfl, hd, for_rd S (.valsT (Wd.sub _ _) hd ⟨l, r⟩) hf q⟩)
    · cases hf
  · cases hf
end
end PD
namespace PD
open PySem PySem.Spec PyProof.Rows L2
variable [TabC]
def itemsTD (kds : List (List Key × D)) : List D := kds.map fun kv => .tup [tK kv.1, kv.2]
def pairsOf : D → Option (List D)
  | .dk kds => some (itemsD kds)
  | .dt kds => some (itemsTD kds)
  | _ => none
section
variable {X : Cx} {tg e elt kx vx : Expr} {fb : Co Flow'} {ft : Co Bool} {fe fk fv : Co D} {pos p apos cpos tpos : Pos} {body : List Stmt} {t : Bool} {is : List Nat} {elts : List Expr} {kk : Nat} {ifs : List Expr} {scope : Scope} {own : List (Str × Nat)}
def sForPairs (i : Nat) (t : Bool) (is : List Nat) (b : Co Flow') : Co Flow' := fun m => match m.env[i]? with
  | some (.pl d) => match pairsOf d with
    | some ds => forL t is b ds m
    | none => .no
  | _ => .no
end
end PD
namespace PD
open PySem PySem.Spec PyProof.Rows L2
variable [TabC]
def tDisp1T (tk tv : TE) : TE := fun σ H Q => ∀ p, H p = none → tk σ (upd H p (.dT [])) fun x H1 => tv σ H1 fun y H2 => H2 p = some (.dT []) ∧ ∃ q k, x = .ref q ∧ H2 q = some (.tup (k.map kV)) ∧ Q (.ref p) (upd H2 p (.dT [(k, y)]))
theorem pe_disp1T {X : Cx} {pos : Pos} {k v : Expr} {tk tv : TE} (hu : X.A.units + 1 < cLine) (hk : PE X k tk) (hv : PE X v tv) : PE X (.Dict [some k] [v] pos) (tDisp1T tk tv) := by
  refine ⟨fun pins s σ H Q I h => ?_⟩
  have hn := I.hok.fresh (Nat.le_refl s.heap.objs.size)
  have I1 := I.laid (a := s.heap.objs.size) (o := .dT []) (h' := s.heap.push { cls := .type "dict", data := .dict #[] }) (t' := s.toks) (fun _ _ q => Heap.get?_push_of_some _ q) (Nat.le_refl _) (dt_empty s.heap I.big)
  have hall : ([some k] : List (Option Expr)).all (·.isSome) = true := rfl
  have hln := pairTrees_length [some k] [v] X.env pos hall rfl
  rw [arm_eval_Dict, zip_pairTrees [some k] [v] X.env pos hall rfl, dictDisplay_pairs _ (fun e => by rw [e] at hln; cases hln) (by rw [hln]; show 1 < 17; decide)]
  refine wpAny_bind (wpAny_standAt (wpAny_bind (wpAny_subDictH (knd := tupleKind (mixKind X.prog X.w)) (Q := fun d s' => wpAny (model X.prog X.w) X.A (pure (Value.ref d)) _ X.xe s') (show X.A.units < cLine by omega) (by rw [hln]; show 1 ≤ 15; decide) ?_)))
  refine pairTrees_cons_walk (thn (hk.run pins _ σ _ _ I1 (h _ hn)) fun u s1 ⟨x, H1, I1', rx, q1⟩ => thn (hv.run pins s1 σ H1 _ I1' q1) fun u2 s2 ⟨y, H2, I2, ry, e, q, kk, ex, hq, q2⟩ => pairTrees_nil_walk ?_)
  subst ex
  cases (show u = Value.ref q from rx)
  obtain ⟨z, hd, xs, rel, dd⟩ := dt_of I2.hok e
  cases rel
  refine ⟨[(kk, q, u2)], ⟨rfl, rfl, key_of I2.hok hq, trivial⟩, dd, fun h' tk' dd' hs => wpAny_pure ⟨.ref s.heap.objs.size, _, ?_, rfl, q2⟩⟩
  obtain ⟨o, es, ep, ho, h2, h3, h4, _, h5⟩ := dd'
  refine d_write I2 (by rw [e]; exact True.intro) hs ⟨o, ho⟩ ⟨by show 1 ≤ sizeLine; rw [sizeLine_eq]; decide, hd, [(kk, q, u2)], .cons ⟨rfl, ?_, ry⟩ .nil, o, es, ep, ho, h2, h3, h4, h5⟩
  rw [upd_ne (ne_of hq e (fun z => nomatch z))]
  exact hq
end PD
namespace PD
open PySem PySem.Spec PyProof.Rows L2
variable [TabC]
def eDisp1T (fk fv : Co D) : Co D := Co.bind fk fun k => Co.bind fv fun v m => match keyT k with
  | some kk => .ok (.dt [(kk, v)]) m
  | none => .no
theorem rep_keyT {K : PySem.W.Frag} {mg : Str → Option Value} {E : Ev} {H : Hp} {x : V} {k : D} {kk : List Key} (r : Rep K mg E H x k) (h : keyT k = some kk) : ∃ q, x = .ref q ∧ H q = some (.tup (kk.map kV)) := by
  cases k <;> first
    | (cases h; done)
    | skip
  obtain ⟨b, vs, rfl, hb, rb⟩ := (RepV.of r).tup
  rw [repL_keys rb h] at hb
  exact ⟨b, rfl, hb⟩
section
variable {X : Cx} {k v : Expr} {pos : Pos} {fk fv : Co D}
theorem ef_disp1T (hu : X.A.units + 1 < cLine) (hk : EE X k fk) (hv : EE X v fv) : EF X (.Dict [some k] [v] pos) (eDisp1T fk fv) := PE.imp (pe_disp1T hu hk hv) fun σ H Q ⟨W, m, S, d, m', hf, q⟩ p hp => by
  obtain ⟨kd, m1, e1, hf⟩ := Co.bind_ok hf
  obtain ⟨vd, m2, e2, hf⟩ := Co.bind_ok hf
  split at hf
  · rename_i kk hkk
    cases hf
    have sm := same_new hp (.dT [])
    have S0 := S.add hp sm ⟨_, upd_same⟩
    have nm : ¬ ((W.add p).ev m.obs.length).Mx p := fun z => S.fresh hp (.inr z)
    refine ⟨_, m, S0, kd, m1, e1, fun x ob1 H1 A1 r1 => ⟨_, m1, A1.2, vd, _, e2, fun y ob2 H2 A2 r2 => ?_⟩⟩
    have A := A1.trans A2
    obtain ⟨b, rfl, hb⟩ := rep_keyT r1 hkk
    have hp' := A.1.keep _ _ nm upd_same
    have nm2 := A.1.notM upd_same nm
    have hb2 : H2 b = some (.tup (kk.map kV)) := A2.1.tup b _ hb
    refine ⟨hp', b, kk, rfl, hb2, ?_⟩
    have h0 : W.H0 p = none := S.ext.nn hp
    obtain ⟨S5, up⟩ := A.2.updC (a := p) (o2 := .dT [(kk, y)]) (.inr rfl) nm2 hp' (fun _ z => nomatch z) (fun _ _ z => nomatch z) h0
    have xt : Ext (W.ev m.obs.length) H ({ W with ob := ob2 }.ev m'.obs.length) (upd H2 p (.dT [(kk, y)])) := by
      have e := A.1
      have ne : ∀ b o, H b = some o → b ≠ p := fun b o q z => by rw [z, hp] at q; cases q
      refine ⟨e.no, e.ob, fun b z => ?_, fun b z => ?_, fun b o q => ?_, fun b o n nt q => ?_, fun b xs q => ?_, fun b o u q => ?_, fun P q j tt t => tabS_at (e.tbl P q j tt (t.ext sm)) hp'⟩
      · rcases e.n2 b (z.elim (fun z => .inl (.inl z)) .inr) with (z | z) | z
        · exact z.elim (fun z => .inl (.inl z)) fun z => .inr (by rw [z]; exact hp)
        · exact .inl (.inr z)
        · exact .inr (sm_none sm z)
      · rcases e.m2 b z with z | z
        · exact .inl z
        · exact .inr (sm_none sm z)
      · obtain ⟨o', q'⟩ := e.dm b o (sm _ _ q)
        exact ⟨o', by rw [upd_ne (ne b o q)]; exact q'⟩
      · rw [upd_ne (ne b o q)]; exact e.keep0 b o (fun z => n z) nt (sm _ _ q)
      · rw [upd_ne (ne b _ q)]; exact e.tup b xs (sm _ _ q)
      · rw [upd_ne (ne b _ q)]; exact e.frz b o u (sm _ _ q)
    refine q p ob2 _ hp xt (fun z => ?_) S5 ⟨[(kk, y)], upd_same, rfl, up _ _ (.cons r2 .nil)⟩
    rcases z with z | z
    · obtain ⟨o, z⟩ := S.n0 p z
      rw [hp] at z; cases z
    · exact nm2 z
  · cases hf
end
end PD
namespace PD
open PySem PySem.Spec PyProof.Rows L2
variable [TabC]
section
variable {prog : Program} {w : World} {A : Around} {E : Value → Shared → Prop} {s : Shared}
theorem sliceApplied_rev {sl : Addr} {vl vu vs : Value} {n : Nat} {Q : Int × Int × Nat → Shared → Prop} (hs : s.heap.IsSliceOf sl vl vu vs) (pl : IsPart vl none) (pu : IsPart vu none) (ps : IsPart vs (some (-1)))
    (h : Q ((n : Int) - 1, -1, n) s) : wpAny (model prog w) A (Builtin.Slice.sliceApplied (.ref sl) (pure (n : Int))) Q E s := by
  obtain ⟨os, hos, hcs, hds⟩ := hs
  unfold Builtin.Slice.sliceApplied Builtin.Slice.sliceFields
  refine wpAny_bind (wpAny_bind (wpAny_field hos hds rfl (wpAny_bind (wpAny_field hos hds rfl (wpAny_bind (wpAny_field hos hds rfl (wpAny_pure ?_)))))))
  refine wpAny_bind (HT.slicePart_ ps ?_)
  show wpAny (model prog w) A (if ((-1 : Int) == 0) = true then _ else _) Q E s
  rw [if_neg (by decide)]
  refine wpAny_bind (HT.slicePart_ pl (wpAny_bind (HT.slicePart_ pu (wpAny_bind (wpAny_pure ?_)))))
  have e1 : Builtin.Slice.sliceAdjust none none (-1) (n : Int) = ((n : Int) - 1, -1) := by
    unfold Builtin.Slice.sliceAdjust
    rfl
  rw [show (some (-1 : Int)).getD 1 = -1 from rfl, e1]
  have e2 : Builtin.Slice.slicePlaces ((n : Int) - 1) (-1) (-1) = n := by
    unfold Builtin.Slice.slicePlaces
    simp
    omega
  show wpAny (model prog w) A (pure ((n : Int) - 1, (-1 : Int), Builtin.Slice.slicePlaces ((n : Int) - 1) (-1) (-1))) Q E s
  rw [e2]
  exact wpAny_pure h
theorem fm_congr {α β : Type} {f g : α → Option β} : ∀ {l : List α}, (∀ a ∈ l, f a = g a) → l.filterMap f = l.filterMap g
  | [], _ => rfl
  | a :: l, h => by rw [List.filterMap_cons, List.filterMap_cons, h a (List.mem_cons_self ..), fm_congr fun b hb => h b (List.mem_cons_of_mem _ hb)]
theorem pick_rev (xs : List Value) : ((List.range xs.length).filterMap fun (k : Nat) => xs.toArray[((xs.length : Int) - 1 + (k : Int) * -1).toNat]?) = xs.reverse := by
  have h : ∀ k, k < xs.length → xs.toArray[((xs.length : Int) - 1 + (k : Int) * -1).toNat]? = xs.reverse[k]? := fun k hk => by
    rw [show ((xs.length : Int) - 1 + (k : Int) * -1).toNat = xs.length - 1 - k by omega, List.getElem?_reverse hk]
    simp
  rw [fm_congr (g := fun k => xs.reverse[k]?) fun k hk => h k (List.mem_range.mp hk), ← List.length_reverse]
  generalize xs.reverse = ys
  induction ys with
  | nil => rfl
  | cons y ys ih =>
    rw [List.length_cons, List.range_succ_eq_map, List.filterMap_cons]
    simp only [List.getElem?_cons_zero]
    rw [List.filterMap_map]
    congr 1
theorem getItem_tuple_rev {t sl : Addr} {xs : List Value} {vl vu vs : Value} {Q : Value → Shared → Prop} (ht : IsTup s.heap t xs.toArray) (hs : s.heap.IsSliceOf sl vl vu vs) (pl : IsPart vl none) (pu : IsPart vu none) (ps : IsPart vs (some (-1)))
    (h : Q (.ref s.heap.objs.size) { s with heap := s.heap.push { cls := .type "tuple", data := .seq xs.reverse.toArray } }) (hz : xs.length ≤ sizeLine) : wpAny (model prog w) A (getItem (.ref t) (.ref sl)) Q E s := by
  obtain ⟨os, hos, hcs, hds⟩ := id hs
  have hTs : s.TypeIs (.ref sl) "slice" := ⟨os, hos, hcs⟩
  unfold getItem
  refine wpAny_holding (wpAny_bind (wpAny_sequenceKey (IsTup.typeIs ht) (by decide) (wpAny_bind (wpAny_callSpecial?_slot (IsTup.typeIs ht) slot_tuple_getitem (wpAny_call_entry slot_tuple_getitem (IsTup.typeIs ht) entry_tuple_getitem ?_)))))
  unfold Builtin.«tuple.__getitem__»
  change wpAny _ _ (Bind.bind (Builtin.Tuple.tupleItemsOf (Value.ref t)) _) _ _ _
  refine wpAny_bind (tupleItemsOf_ ht (wpAny_bind (wpAny_typeOf hTs ?_)))
  rw [if_pos (by decide)]
  refine wpAny_bind (sliceApplied_rev hs pl pu ps ?_)
  show wpAny (model prog w) A.in1 (if ((((xs.toArray.size : Nat) : Int) - 1 == 0) && ((-1 : Int) == 1) && (xs.toArray.size == xs.toArray.size)) = true then _ else _) _ E s
  rw [if_neg (by simp)]
  have hp := pick_rev xs
  rw [show xs.toArray.size = xs.length from rfl, hp]
  unfold Builtin.Tuple.tupleExact
  refine wpAny_bind (wpAny_newObj_type (wpAny_pure ⟨_, rfl, wpAny_pure h⟩) ?_)
  show xs.reverse.toArray.size ≤ sizeLine
  simpa using hz
end
section
variable {X : Cx} {e : Expr} {te : TE}
def tRevT (K : PySem.W.Frag) (te : TE) : TE := fun σ H Q => te σ H fun x H1 => ∃ a xs, x = V.ref a ∧ SqT K H1 a xs ∧ ∀ (p : Addr), H1 p = none → Q (V.ref p) (upd H1 p (.tup xs.reverse))
theorem pe_revT {k : Nat} {p1 p2 p3 pos : Pos} (he : PE X e te) : PE X (.Subscript e (.Slice none none (some (.UnaryOp .USub (.Constant (.int 1) k p1) p2)) p3) pos) (tRevT X.K te) := by
  refine ⟨fun pins s σ H Q I h => Subscript_ (thn (he.run pins s σ H _ I h) ?_)⟩
  rintro v s1 ⟨x, H1, I1, r1, a, xs, rfl, hx, q⟩
  cases r1
  have hst : PO X (some (.UnaryOp .USub (.Constant (.int 1) k p1) p2)) _ := po_some (pe_un un_neg pe_int)
  refine wpAny_Slice (thn (po_none.run pins s1 σ H1 (fun o H2 => o = none ∧ H2 = H1) I1 ⟨rfl, rfl⟩) ?_)
  rintro vl s2 ⟨l, H2, I2, pl, el, e2⟩
  subst el e2
  refine thn (po_none.run pins s2 σ _ (fun o H3 => o = none ∧ H3 = _) I2 ⟨rfl, rfl⟩) ?_
  rintro vu s3 ⟨u, H3, I3, pu, eu, e3⟩
  subst eu e3
  refine thn (hst.run pins s3 σ _ (fun o H4 => o = some (-1) ∧ H4 = _) I3 ⟨1, rfl, -1, rfl, rfl, rfl⟩) ?_
  rintro vs s4 ⟨o, H4, I4, ps, eo, e4⟩
  subst eo e4
  have I5 := Inv.kept (t' := s4.toks) I4 fun b ob q => Heap.get?_push_of_some { cls := Value.type "slice", data := Data.fields #[vl, vu, vs] } q
  obtain ⟨its, r, ht, hz⟩ := I5.tuple hx
  have hlen := Vals.length r
  refine tail_any (IsTup.typeIs ht) slot_tuple_getitem.lookup (getItem_tuple_rev ht (Heap.IsSliceOf.new s4.1 vl vu vs) pl pu ps ?_ (by omega)) rfl
  exact ⟨.ref _, upd _ _ (.tup xs.reverse), Inv.laid I5 (fun b ob q => Heap.get?_push_of_some _ q) (Nat.le_refl _) ⟨by rw [List.length_reverse]; exact hz, its.reverse, Vals.reverse r, IsTup.new _ _⟩, rfl, q _ (HOk.fresh I5.hok (Nat.le_refl _))⟩
end
section
variable {X : Cx} {e : Expr} {g1 : Co Opd}
def revUD : D → Option D
  | .lst xs => some (.lst xs.reverse)
  | .tup xs => some (.tup xs.reverse)
  | .xt xs => some (.tup xs.reverse)
  | _ => none
theorem ee_rev {k : Nat} {p1 p2 p3 pos : Pos} (he : EB X e g1) : EE X (.Subscript e (.Slice none none (some (.UnaryOp .USub (.Constant (.int 1) k p1) p2)) p3) pos) (eOp1 revUD g1) :=
  PE.imp (PE.or (pe_revL he) (pe_revT he)) fun σ H Q ⟨W, m, S, d, m', hf, q⟩ => by
    obtain ⟨o1, m1, e1, hf⟩ := Co.bind_ok hf
    obtain ⟨d1, k1, k3, rfl⟩ := Opd1.ok hf
    unfold revUD at k3
    split at k3
    · cases k3
      refine .inl ⟨W, m, S, o1, _, e1, fun x ob1 H1 A1 r1 => ?_⟩
      obtain ⟨a, vs, rfl, ha, ra⟩ := (r1.view A1.2 k1).lst
      exact ⟨a, vs, rfl, SqL.of ha, fun p hp => q _ ob1 _ (A1.trans (.same A1.2 (same_new hp _))) (.newL (fun a z => A1.2.dom z) hp ra.reverse)⟩
    · cases k3
      refine .inr ⟨W, m, S, o1, _, e1, fun x ob1 H1 A1 r1 => ?_⟩
      obtain ⟨a, vs, rfl, ha, ra⟩ := (r1.view A1.2 k1).tup
      exact ⟨a, vs, rfl, SqT.of ha, fun p hp => q _ ob1 _ (A1.trans (.same A1.2 (same_new hp _))) (.newT hp ra.reverse)⟩
    · cases k3
      refine .inr ⟨W, m, S, o1, _, e1, fun x ob1 H1 A1 r1 => ?_⟩
      obtain ⟨a, o, vs, rfl, ha, _, ra⟩ := (r1.view A1.2 k1).xt
      exact ⟨a, vs, rfl, .inl (.inr ⟨o, ha⟩), fun p hp => q _ ob1 _ (A1.trans (.same A1.2 (same_new hp _))) (.newT hp ra.reverse)⟩
    · cases k3
end
end PD
namespace PD
open PySem PySem.Spec PyProof.Rows L2
variable [TabC]
theorem paired_len {α β : Type} {R : α → β → Prop} : ∀ {xs : List α} {ys : List β}, Paired R xs ys → xs.length = ys.length
  | _, _, .nil => rfl
  | _, _, .cons _ r => by rw [List.length_cons, List.length_cons, paired_len r]
theorem d_dictSetT {X : Cx} {pins : List (Addr × Obj)} {σ : L2.St} {H : Hp} {s : Shared} {E : Value → Shared → Prop} {D q : Addr} {kvs : List (List Key × V)} {k : List Key} {v : V} {r : Value} {Q : Unit → Shared → Prop}
    (I : Inv X pins σ H s) (hD : H D = some (.dT kvs)) (hz : kvs.length < sizeLine) (hq : H q = some (.tup (k.map kV))) (rv : L2.RelV v r) (hu : X.A.units + 1 < cLine)
    (h : ∀ s', Inv X pins σ (upd H D (.dT (L2.putK kvs k v))) s' → Q () s') : wpAny (model X.prog X.w) X.A (dictSet D (.ref q) r) Q E s := by
  obtain ⟨z, hd, xs, rel, dd⟩ := dt_of I.hok hD
  have hxs : xs.length ≤ sizeLine := by rw [← paired_len rel]; exact z
  refine wpAny_dictSet_heap (knd := tupleKind (mixKind X.prog X.w)) ?room (key_of I.hok hq) dd (fun h' dd' hs => h _ ?_) hxs
  case room => show X.A.units < cLine; omega
  obtain ⟨o, es, ep, ho, h2, h3, h4, _, h5⟩ := dd'
  refine d_write I (by rw [hD]; exact True.intro) hs ⟨o, ho⟩ ⟨?_, hd, storedH xs k q r, ?_, o, es, ep, ho, h2, h3, h4, h5⟩
  · have := L2.length_putK kvs k v
    omega
  · refine KT.put (KT.keeps rel fun b ys e => ?_) k ?_ rv
    · rw [upd_ne (ne_of e hD (fun z => nomatch z))]; exact e
    · rw [upd_ne (ne_of hq hD (fun z => nomatch z))]; exact hq
def tDcT (wi : TI) (g : TG) (tt : TT) (tk tv : TE) (vs : List Nat) : TE := fun σ H Q => wi σ H fun J H1 => ∀ (D : Addr), H1 D = none → ∃ W : Nat → Nat → Hp → Prop, (∃ m, W 0 m (upd H1 D (HO.dT []))) ∧ ∀ (i m : Nat) (H : Hp), W i m H → J.stop i H ∧ Q (V.ref D) H ∨ J.go i H ∧
  ∃ Nx : Hp → Prop, (∀ (H' : Hp), Nx H' → ∃ m', m' < m ∧ W (i + 1) m' H') ∧ ∀ (x : V) (H' : Hp), J.yld i H x H' → g x (L2.wipe σ vs) H' fun σ2 H2 => L2.wipe σ2 vs = L2.wipe σ vs ∧
    tt σ2 H2 fun b H3 => if b = true then tk σ2 H3 fun y H4 => tv σ2 H4 fun z H5 => ∃ kvs k q, y = V.ref q ∧ H5 q = some (.tup (k.map kV)) ∧ H5 D = some (HO.dT kvs) ∧ kvs.length < sizeLine ∧ Nx (upd H5 D (HO.dT (L2.putK kvs k z))) else Nx H3
section
variable {X : Cx} {pins : List (Addr × Obj)} {s : Shared} {σ : L2.St} {H : Hp} {Q : VK} {kx vx tg iter : Expr} {ifs : List Expr} {scope : Scope} {own : List (Str × Nat)} {pos pos' : Pos} {wi : TI} {g : TG} {tt : TT} {tk tv : TE}
theorem dcT_core {use : Option (Value → Sem Unit)} {Qf : Value → Shared → Prop} (hu : X.A.units + 1 < cLine) (hc : X.calm = true) (hN : X.N.Nodup) (I : Inv X pins σ H s) (hi : PI X tg iter wi) (ok : BlkOk X.N X.env.scope scope own)
    (hg : ∀ (s : Shared) (H : Hp) (C : Addr) (cl : List (Str × Addr)) (fp : List Addr), PG (X.blk s H scope (compEnvC scope cl C X.env) fp) tg g)
    (ht : ∀ (s : Shared) (H : Hp) (C : Addr) (cl : List (Str × Addr)) (fp : List Addr), PTs (X.blk s H scope (compEnvC scope cl C X.env) fp) ifs tt)
    (hk : ∀ (s : Shared) (H : Hp) (C : Addr) (cl : List (Str × Addr)) (fp : List Addr), PE (X.blk s H scope (compEnvC scope cl C X.env) fp) kx tk)
    (he : ∀ (s : Shared) (H : Hp) (C : Addr) (cl : List (Str × Addr)) (fp : List Addr), PE (X.blk s H scope (compEnvC scope cl C X.env) fp) vx tv)
    (hs : ∀ (x : Value), foldedSetIterable iter X.env x = pure x) (h : tDcT wi g tt tk tv (own.map (·.2)) σ H Q)
    (hRR : ∀ (D C : Addr) (s' : Shared) (m : Str → Option Value) (H' : Hp), Inv X pins σ H' s' → Q (V.ref D) H' → s'.heap.Ns C m → FpOk X pins H' C → compPost (model X.prog X.w) X.A X.xe use Qf (Value.ref D) C (Except.ok Flow.next) s') :
    wpAny (model X.prog X.w) X.A (comprehension (kx.DictComp vx [⟨tg, iter, ifs, 0⟩] scope pos) scope X.env pos' newDict false (eval iter X.env) use) Qf X.xe s := by
  have hfree : ∀ y ∈ scope.names, y.2 = NameKind.free → _ := fun y hy e => (ok.free y hy e).elim (fun k => I.ok.has y.1 (Or.inl k)) fun k => I.ok.has y.1 (Or.inr k)
  refine wpAny_comprehension_free rfl hs (closure_ok hfree) ok.kind (fun y hy e => by rw [ok.uniq y hy, e]) (thn (hi.run pins s σ H _ I h) fun xv s1 hx => thn hx fun itv s2 ⟨it, fp, tn, J, H2, e, I2, T, st2, f2, q⟩ => ?_)
  subst e
  refine wpAny_newObj_type ?_
  have hDn := I2.hok.fresh (Nat.le_of_eq rfl)
  obtain ⟨W, ⟨m0, w0⟩, turn⟩ := q s2.heap.objs.size hDn
  have I3 := I2.laid (a := s2.heap.objs.size) (o := .dT []) (h' := s2.heap.push { cls := .type "dict", data := .dict #[] }) (t' := s2.toks) (fun _ _ q => Heap.get?_push_of_some _ q) (Nat.le_refl _) (dt_empty s2.heap I2.big)
  generalize hs3 : ({ s2 with heap := s2.heap.push { cls := .type "dict", data := .dict #[] } } : Shared) = s3 at *
  have h3 : s3.heap = s2.heap.push { cls := .type "dict", data := .dict #[] } := by rw [← hs3]
  have sz : ∀ b ∈ fp, b < s2.heap.objs.size := fun b hb => let ⟨o, e, _⟩ := T.obj 0 s2.heap st2 b hb; Heap.lt_size e
  have f3 : ∀ b ∈ fp, FpOk X pins (upd H2 s2.heap.objs.size (.dT [])) b ∧ b < s3.heap.objs.size := fun b hb => by
    have hlt := sz b hb
    refine ⟨⟨by rw [upd_ne (Nat.ne_of_lt hlt)]; exact (f2 b hb).1, (f2 b hb).2⟩, by rw [h3, Heap.size_push]; exact Nat.lt_succ_of_lt hlt⟩
  have st3 := T.keep 0 s2.heap s3.heap st2 fun b _ o e => by rw [h3]; exact Heap.get?_push_of_some _ e
  have I4 := block_start I3 ok hN f3
  have pg := hg s3 (upd H2 s2.heap.objs.size (.dT [])) s3.heap.objs.size (cellsFrom (s3.heap.objs.size + 1) scope.names (cloFrom X.env.cells scope.names [])) fp
  have pt := ht s3 (upd H2 s2.heap.objs.size (.dT [])) s3.heap.objs.size (cellsFrom (s3.heap.objs.size + 1) scope.names (cloFrom X.env.cells scope.names [])) fp
  have pk := hk s3 (upd H2 s2.heap.objs.size (.dT [])) s3.heap.objs.size (cellsFrom (s3.heap.objs.size + 1) scope.names (cloFrom X.env.cells scope.names [])) fp
  have pe := he s3 (upd H2 s2.heap.objs.size (.dT [])) s3.heap.objs.size (cellsFrom (s3.heap.objs.size + 1) scope.names (cloFrom X.env.cells scope.names [])) fp
  refine newEnv_comp ?_
  have st4 : tn 0 ({ s3 with heap := pushCells (s3.heap.push { cls := .type "dict", data := .dict #[] }) scope.names } : Shared).heap := T.keep 0 _ _ st3 fun b _ o e => pushCells_keeps _ _ _ _ (Heap.get?_push_of_some _ e)
  show codeAny (model X.prog X.w) X.A (Code.compStart (kx.DictComp vx [⟨tg, iter, ifs, 0⟩] scope pos) 0 (.ref it) (.ref s2.heap.objs.size) (compEnvC scope (cellsFrom (s3.heap.objs.size + 1) scope.names (cloFrom X.env.cells scope.names [])) s3.heap.objs.size X.env))
    (compPost (model X.prog X.w) X.A X.xe use Qf (Value.ref s2.heap.objs.size) s3.heap.objs.size) { s3 with heap := pushCells (s3.heap.push { cls := .type "dict", data := .dict #[] }) scope.names }
  have cL : (compEnvC scope (cellsFrom (s3.heap.objs.size + 1) scope.names (cloFrom X.env.cells scope.names [])) s3.heap.objs.size X.env).locals = s3.heap.objs.size := rfl
  have nfp : ∀ b ∈ fp, upd H2 s2.heap.objs.size (.dT []) b = none := fun b hb => (f3 b hb).1.1
  generalize compEnvC scope (cellsFrom (s3.heap.objs.size + 1) scope.names (cloFrom X.env.cells scope.names [])) s3.heap.objs.size X.env = ce at *
  generalize ({ s3 with heap := pushCells (s3.heap.push { cls := .type "dict", data := .dict #[] }) scope.names } : Shared) = s4 at *
  have stat : ∀ {σ' : L2.St} {H' : Hp} {s' : Shared}, Inv (X.blk s3 (upd H2 s2.heap.objs.size (.dT [])) scope ce fp) [] σ' H' s' → (∀ b ∈ fp, H' b = none) → ∀ b ∈ fp, FpOk (X.blk s3 (upd H2 s2.heap.objs.size (.dT [])) scope ce fp) [] H' b := fun I' hn b hb =>
    ⟨hn b hb, (I'.ok.exf b hb).1, I'.ok.exfs b hb, .inl hb, fun x c e => (I'.ok.exf b hb).2 x c e, fun p hp => absurd hp (by simp)⟩
  have loop := compLoop_anyD (prog := X.prog) (w := X.w) (A := X.A) (s := s4) (R := compPost (model X.prog X.w) X.A X.xe use Qf (Value.ref s2.heap.objs.size) s3.heap.objs.size) (kx := kx) (vx := vx) (target := tg) (iter := iter) (ifs := ifs) (scope := scope) (pos := pos) (it := .ref it) (D := s2.heap.objs.size) (env := ce)
    (fun n s' => ∃ i H', Inv (X.blk s3 (upd H2 s2.heap.objs.size (.dT [])) scope ce fp) [] (L2.wipe σ (own.map (·.2))) H' s' ∧ tn i s'.heap ∧ (∀ b ∈ fp, H' b = none) ∧ W i n H')
    (by
      rintro n s5 ⟨i, H5, I5, st5, n5, w5⟩
      rcases turn i n H5 w5 with ⟨stop, qq⟩ | ⟨go, Nx, hNx, step⟩
      · refine thnF (T.done (X.blk s3 (upd H2 s2.heap.objs.size (.dT [])) scope ce fp) rfl rfl rfl hc i [] s5 _ H5 _ I5 (stat I5 n5) st5 stop) fun r s6 ⟨hr, I6⟩ => ?_
        subst hr
        obtain ⟨m, nm, _⟩ := I6.loc
        have I7 : Inv X pins σ H5 s6 := I3.call' (ch := fp) I6.os I6.base I6.hok I6.bare fun b hb => by
          have f := (f3 b hb).1
          exact ⟨f.2.2.2.1, f.2.1, f.2.2.2.2.1, f.2.2.2.2.2⟩
        refine hRR _ _ s6 m H5 I7 qq (by rw [← cL]; exact nm) (I3.fpOk (Nat.le_refl _) ?_)
        have := I6.free
        rw [show (X.blk s3 (upd H2 s2.heap.objs.size (.dT [])) scope ce fp).env.locals = ce.locals from rfl, cL] at this
        exact this
      · refine thnF (T.item (X.blk s3 (upd H2 s2.heap.objs.size (.dT [])) scope ce fp) rfl rfl rfl hc i [] s5 _ H5 _ I5 (stat I5 n5) st5 go) fun r s6 ⟨u, hr, h6⟩ => ?_
        subst hr
        refine thnF h6 fun _ s7 ⟨x, H7, I7, rx, yl, st7, n7⟩ => ?_
        have I7' := Inv.pinned I7 (stat I7 n7) (T.obj (i + 1) s7.heap st7)
        refine thnF (pg.run _ s7 _ H7 x u _ I7' rx (step x H7 yl)) fun _ s8 ⟨σ8, H8, I8, hw8, q8⟩ => ?_
        have fin : ∀ {H' : Hp} {s' : Shared}, Inv (X.blk s3 (upd H2 s2.heap.objs.size (.dT [])) scope ce fp) ([] ++ pinsAt fp s7.heap) σ8 H' s' → Nx H' → ∃ m, m < n ∧ ∃ i H', Inv (X.blk s3 (upd H2 s2.heap.objs.size (.dT [])) scope ce fp) [] (L2.wipe σ (own.map (·.2))) H' s' ∧ tn i s'.heap ∧ (∀ b ∈ fp, H' b = none) ∧ W i m H' := fun {H' s'} I' hn => by
          obtain ⟨m', hm, w'⟩ := hNx _ hn
          have pin' : ∀ b ∈ fp, ∀ o, s7.heap.get? b = some o → s'.heap.get? b = some o ∧ H' b = none := fun b hb o e => by
            have := I'.pin (b, o) (by
              show (b, o) ∈ [] ++ ([] ++ pinsAt fp s7.heap)
              rw [List.nil_append, List.nil_append]
              exact mem_pinsAt hb e)
            exact ⟨this.1, this.2.1⟩
          refine ⟨m', hm, i + 1, H', ?_, T.keep (i + 1) s7.heap s'.heap st7 fun b hb o e => (pin' b hb o e).1, fun b hb => ?_, w'⟩
          · have I'' := Inv.unpinned I'
            refine I''.weak ?_ fun j v e => (wipe_some (by rw [hw8]; exact e)).1
            rw [← hw8, wipe_length]
          · obtain ⟨o, e, _⟩ := T.obj (i + 1) s7.heap st7 b hb
            exact (pin' b hb o e).2
        refine thnF (pt.run _ s8 σ8 H8 _ I8 q8) fun okb s9 ⟨H9, I9, q9⟩ => ?_
        cases okb with
        | false => exact fin I9 q9
        | true =>
          refine thnF (pk.run _ s9 σ8 H9 _ I9 q9) fun kv s10 ⟨y, H10, I10, ry, q10⟩ => ?_
          refine thnF (pe.run _ s10 σ8 H10 _ I10 q10) fun vv s11 ⟨z, H11, I11, rz, kvs, k, q0, ey, hq0, hD, hlen, hnx⟩ => ?_
          subst ey
          cases (show kv = Value.ref q0 from ry)
          exact d_dictSetT (X := X.blk s3 (upd H2 s2.heap.objs.size (.dT [])) scope ce fp) I11 hD hlen hq0 rz hu fun s' I' => fin I' hnx)
    m0 ⟨0, _, I4, st4, nfp, w0⟩
  exact codeAny_compStart_dict loop (T.self X.A 0 s4 _ _ st4 loop)
end
def dcTL (t : Bool) (is vs : List Nat) (ft : Co Bool) (fk fv : Co D) : List D → List (List Key × D) → Co (List (List Key × D))
  | [], acc, m => .ok acc m
  | d :: ds, acc, m => match setTg t is d m.env with
    | none => .no
    | some env => match ft { m with env := env } with
      | .no => .no
      | .ok false m1 => if noOw vs m1.env = true then dcTL t is vs ft fk fv ds acc { m1 with env := wipeE m1.env vs } else .no
      | .ok true m1 => match fk m1 with
        | .no => .no
        | .ok k m2 => match fv m2 with
          | .no => .no
          | .ok y m3 => match keyT k with
            | none => .no
            | some kk => if noOw vs m3.env = true then dcTL t is vs ft fk fv ds (putD acc kk y) { m3 with env := wipeE m3.env vs } else .no
def eDcT (fi : Co (List D)) (t : Bool) (is vs : List Nat) (ft : Co Bool) (fk fv : Co D) : Co D := Co.bind fi fun ds m =>
  if noOw vs m.env = true ∧ ds.length < sizeLine then match dcTL t is vs ft fk fv ds [] { m with env := wipeE m.env vs } with
    | .ok acc m' => .ok (.dt acc) { m' with env := unwipe m.env m'.env vs }
    | .no => .no
  else .no
theorem putDT_len (kds : List (List Key × D)) (k : List Key) (v : D) : (putD kds k v).length ≤ kds.length + 1 := by
  unfold putD
  split <;> simp
section
variable {X : Cx} {tg iter kx vx : Expr} {ifs : List Expr} {fi : Co (List D)} {t : Bool} {is : List Nat} {ft : Co Bool} {fk fv : Co D} {scope : Scope} {own : List (Str × Nat)} {pos : Pos} {i : Nat}
theorem dcT_rd {σ : L2.St} {H : Hp} {Q : VK} {K : PySem.W.Frag} {mg : Str → Option Value} (hv : ∀ i ∈ is, i ∈ own.map (·.2)) (h : rdF K mg (eDcT fi t is (own.map (·.2)) ft fk fv) σ H Q) : tDcT (rdI K mg fi) (gD K mg t is) (rdT K mg ft) (rdE K mg fk) (rdE K mg fv) (own.map (·.2)) σ H Q := by
  obtain ⟨W, m, S, d, m', hf, q⟩ := h
  obtain ⟨ds, m1, e1, hf⟩ := Co.bind_ok hf
  generalize own.map (·.2) = vs at *
  split at hf
  · rename_i hc
    obtain ⟨h0, hz⟩ := hc
    split at hf
    · rename_i res mf el
      cases hf
      refine ⟨W, m, S, ds, m1, e1, fun J ob' H1 A it Dl hD => ?_⟩
      obtain ⟨Y, wk, yd⟩ := it _ (Wd.sub _ _)
      have S1 := A.2
      have sm := same_new hD (.dT [])
      have Sa : Sit K mg (({ W with ob := ob' } : Wd).base m1.obs.length H1 |>.add Dl) (L2.wipe σ vs) (upd H1 Dl (.dT [])) { m1 with env := wipeE m1.env vs } := (S1.rebase.add hD sm ⟨_, upd_same⟩).wipe h0
      have nm1 : ¬ ({ W with ob := ob' }.ev m1.obs.length).Mx Dl := fun z => S1.fresh hD (.inr z)
      refine walk_loop wk (fun i H => ∃ W2 m2 kvs acc, Lat (({ W with ob := ob' } : Wd).base m1.obs.length H1 |>.add Dl) W2 ∧ (∀ j, j ∉ vs → W2.own j = W.own j) ∧ ¬ (W2.ev m2.obs.length).Mx Dl ∧ Sit K mg W2 (L2.wipe σ vs) H m2 ∧
        H Dl = some (.dT kvs) ∧ RepK K mg (W2.ev m2.obs.length) H kvs acc ∧ acc.length ≤ i ∧ dcTL t is vs ft fk fv (ds.drop i) acc m2 = .ok res mf)
        ⟨_, _, [], [], Lat.refl _, fun _ _ => rfl, nm1, Sa, upd_same, .nil, Nat.zero_le _, el⟩
        (fun i H _ ⟨W2, m2, kvs, acc, l, _, _, S2, _⟩ => ⟨_, by have := S2.ext; rw [l.2.1, l.2.2] at this; exact this⟩) (fun i x H H' hi ⟨W2, m2, kvs, acc, l, ho, nm, S2, hl, ra, hlen, h2⟩ y => ?_)
        fun H ⟨W2, m2, kvs, acc, l, ho, nm, S2, hl, ra, hlen, h2⟩ => ?_
      · have ed : ds.drop i = ds[i] :: ds.drop (i + 1) := List.drop_eq_getElem_cons hi
        rw [ed] at h2
        unfold dcTL at h2
        have x2 := S2.ext
        rw [l.2.1, l.2.2] at x2
        obtain ⟨sm2, rp⟩ := yd i _ H x H' x2 y
        cases e2 : setTg t is ds[i] m2.env with
        | none => rw [e2] at h2; cases h2
        | some env =>
          rw [e2] at h2
          simp only at h2
          have lN : W2.N0 Dl := by rw [l.1]; exact .inr rfl
          refine ⟨W2, m2, ds[i], env, S2.same sm2, rp ds[i] (by simp [hi]), e2, fun W3 xs l3 o3 w3 S3 => ⟨(setSt_wipe hv).trans (wipe_idem fun _ z => z), ?_⟩⟩
          have l3N : W3.N0 Dl := by rw [l3.1]; exact lN
          have nm3 : ¬ (W3.ev m2.obs.length).Mx Dl := fun z => by
            rcases z with ⟨j, hj⟩ | ⟨n, hn, en⟩
            · exact S3.o0 j Dl hj l3N
            · exact nm (.inr ⟨n, hn, by rw [← en, o3]⟩)
          have lt3 := l.trans l3
          have own3 : ∀ j, j ∉ vs → W3.own j = W.own j := fun j hj => (w3 j fun z => hj (hv j z)).trans (ho j hj)
          have hl' : H' Dl = some (.dT kvs) := sm2 _ _ hl
          have le3 : (W2.ev m2.obs.length).Le (W3.ev m2.obs.length) := by
            refine ⟨Nat.le_refl _, fun n _ => congrFun o3 n, fun b z => ?_⟩
            rcases z with z | ⟨j, z⟩ | ⟨n, hn, z⟩
            · exact .inl (by rw [← l3.1]; exact z)
            · by_cases hj : j ∈ is
              · obtain ⟨d3, hd3⟩ := S3.owi j b z
                rcases setTg_get e2 j with ⟨d4, h4⟩ | ⟨h4, _⟩
                · have h5 : env[j]? = some (.ow d3) := hd3
                  rw [h4] at h5; cases h5
                · exact absurd hj h4
              · exact .inr (.inl ⟨j, by rw [← w3 j hj]; exact z⟩)
            · exact .inr (.inr ⟨n, hn, by rw [← o3]; exact z⟩)
          have ra3 : RepL K mg (W3.ev m2.obs.length) H' (kvs.map (·.2)) (acc.map (·.2)) := (ra.v.up sm2).le le3
          have lkv := ra.len
          cases e3 : ft { m2 with env := env } with
          | no => rw [e3] at h2; cases h2
          | ok b m3 =>
            rw [e3] at h2
            refine ⟨W3, _, S3, b, m3, e3, fun ob3 H3 A3 => ?_⟩
            have hl3 : H3 Dl = some (.dT kvs) := A3.1.keep _ _ nm3 hl'
            have nm4 := A3.1.notM hl' nm3
            have ra4 := ra3.ext A3.1 (Wd.sub _ _)
            cases b with
            | false =>
              show if false = true then _ else _
              rw [if_neg (by decide)]
              simp only at h2
              split at h2
              · rename_i hn
                refine ⟨_, { m3 with env := wipeE m3.env vs }, kvs, acc, lt3.trans (show Lat W3 { W3 with ob := ob3 } from ⟨rfl, rfl, rfl⟩), own3, nm4, ?_, hl3, ⟨ra.k, ra4⟩, by omega, h2⟩
                have := A3.2.wipe hn
                rw [setSt_wipe hv] at this
                have e : L2.wipe (L2.wipe σ vs) vs = L2.wipe σ vs := wipe_idem fun _ z => z
                rw [e] at this
                exact this
              · cases h2
            | true =>
              show if true = true then _ else _
              rw [if_pos rfl]
              simp only at h2
              cases e4 : fk m3 with
              | no => rw [e4] at h2; cases h2
              | ok kd m4 =>
                rw [e4] at h2
                simp only at h2
                cases e5 : fv m4 with
                | no => rw [e5] at h2; cases h2
                | ok yv m5 =>
                  rw [e5] at h2
                  simp only at h2
                  cases e6 : keyT kd with
                  | none => rw [e6] at h2; cases h2
                  | some kk =>
                    rw [e6] at h2
                    simp only at h2
                    split at h2
                    · rename_i hn
                      refine ⟨_, m3, A3.2, kd, m4, e4, fun v ob4 H4 A4 rv => ⟨_, m4, A4.2, yv, m5, e5, fun z ob5 H5 A5 rz => ?_⟩⟩
                      obtain ⟨q0, ek, hq0⟩ := rep_keyT rv e6
                      have hl4 := A4.1.keep _ _ nm4 hl3
                      have nm5 := A4.1.notM hl3 nm4
                      have hl5 := A5.1.keep _ _ nm5 hl4
                      have nm6 := A5.1.notM hl4 nm5
                      refine ⟨kvs, kk, q0, ek, A5.1.tup _ _ hq0, hl5, by omega, ?_⟩
                      have Sw := A5.2.wipe hn
                      rw [setSt_wipe hv] at Sw
                      have e : L2.wipe (L2.wipe σ vs) vs = L2.wipe σ vs := wipe_idem fun _ z => z
                      rw [e] at Sw
                      obtain ⟨S5, up⟩ := Sw.updC (a := Dl) (o1 := .dT kvs) (o2 := .dT (putK kvs kk z)) l3N nm6 hl5 (fun _ z => nomatch z) (fun _ _ z => nomatch z) (by rw [lt3.2.2]; exact hD)
                      have rk : RepK K mg ({ W3 with ob := ob5 }.ev m5.obs.length) H5 (putK kvs kk z) (putD acc kk yv) := RepK.put ⟨ra.k, (ra4.ext A4.1 (Wd.sub _ _)).ext A5.1 (Wd.sub _ _)⟩ kk rz
                      refine ⟨_, { m5 with env := wipeE m5.env vs }, putK kvs kk z, putD acc kk yv, lt3.trans (show Lat W3 { W3 with ob := ob5 } from ⟨rfl, rfl, rfl⟩), own3, nm6, S5, upd_same, ⟨rk.k, up _ _ rk.v⟩, ?_, h2⟩
                      have := putDT_len acc kk yv
                      omega
                    · cases h2
      · rw [List.drop_length] at h2
        cases h2
        have ownE : W2.own = W.own := by
          funext j
          by_cases hj : j ∈ vs
          · have e1 : W2.own j = none := by
              cases e : W2.own j with
              | none => rfl
              | some a =>
                obtain ⟨d, hd⟩ := S2.owi j a e
                obtain ⟨b, _, es, _⟩ := S2.ow j d hd
                exact absurd hj (wipe_some es).2
            have e2 : W.own j = none := by
              cases e : W.own j with
              | none => rfl
              | some a =>
                obtain ⟨d, hd⟩ := S1.owi j a e
                exact absurd hj (noOw_out h0 hd)
            rw [e1, e2]
          · exact ho j hj
        obtain ⟨N0, E0, H0, own2, ob2⟩ := W2
        obtain ⟨l1, l2, l3⟩ := l
        simp only at l1 l2 l3 ownE
        subst l1 l2 l3 ownE
        have S3 := S1.back (S1.unwipe h0 S2.ext S2) rfl rfl
        refine q Dl ob2 H (A.1.nn hD) (A.1.trans (S2.ext.sub rfl rfl (fun b z => ?_) fun b z => .inl z)) (fun z => ?_) S3 ⟨kvs, hl, ra.k, ra.v⟩
        · exact .inl (z.elim (fun z => .inl (.inl z)) .inr)
        · rcases z with z | z
          · obtain ⟨o, z⟩ := S1.n0 Dl z
            rw [hD] at z; cases z
          · exact nm z
    · cases hf
  · cases hf
end
end PD
namespace PD
open PySem PySem.Spec PyProof.Rows L2
variable [TabC]
def eNewOb (f : Co D) : Co D := Co.bind f fun d m => match d with
  | .lst ds => .ok (.obj m.obs.length) { env := m.env, obs := m.obs ++ [ds] }
  | _ => .no
section
variable {X : Cx} {e : Expr} {f : Co D}
theorem ee_newOb (he : EF X e f) : EE X e (eNewOb f) := PE.imp he fun σ H Q ⟨W, m, S, d, m', hf, q⟩ => by
  obtain ⟨d1, m1, e1, e2⟩ := Co.bind_ok hf
  cases d1 <;> first
    | (cases e2; done)
    | skip
  rename_i ds
  cases e2
  refine ⟨W, m, S, _, m1, e1, fun a ob' H' hn x nN S' c => ?_⟩
  have S2 := Sit.newOb (W := { W with ob := ob' }) S' (S.ext.nn hn) nN c
  have hl : (m1.obs ++ [ds]).length = m1.obs.length + 1 := by rw [List.length_append]; rfl
  have oba : (Wd.newOb { W with ob := ob' } m1.obs.length a).ob m1.obs.length = a := if_pos rfl
  have obn : ∀ n, n < m1.obs.length → (Wd.newOb { W with ob := ob' } m1.obs.length a).ob n = ob' n := fun n h => if_neg (Nat.ne_of_lt h)
  have r : Rep X.K X.mg ((Wd.newOb { W with ob := ob' } m1.obs.length a).ev (m1.obs ++ [ds]).length) H' (.ref a) (.obj m1.obs.length) := by
    have := Rep.obj (K := X.K) (mg := X.mg) (E := (Wd.newOb { W with ob := ob' } m1.obs.length a).ev (m1.obs ++ [ds]).length) (H := H') m1.obs.length (by show m1.obs.length < (m1.obs ++ [ds]).length; omega)
    have e : ((Wd.newOb { W with ob := ob' } m1.obs.length a).ev (m1.obs ++ [ds]).length).ob m1.obs.length = a := oba
    rw [e] at this
    exact this
  refine q (.ref a) (Wd.newOb { W with ob := ob' } m1.obs.length a).ob H' ⟨⟨?_, fun n h => ?_, fun b z => ?_, fun b z => ?_, x.dm, x.keep0, x.tup, x.frz, x.tbl⟩, S2⟩ r
  · exact Nat.le_trans x.no (by show m1.obs.length ≤ (m1.obs ++ [ds]).length; omega)
  · have h' : n < m1.obs.length := Nat.lt_of_lt_of_le h x.no
    exact (obn n h').trans (x.ob n h)
  · rcases z with z | z | ⟨n, hn2, z⟩
    · exact x.n2 b (.inl z)
    · exact x.n2 b (.inr (.inl z))
    · have hn3 : n < m1.obs.length + 1 := by rw [← hl]; exact hn2
      by_cases e : n = m1.obs.length
      · subst e
        exact .inr (by rw [← show a = b from oba.symm.trans z]; exact hn)
      · exact x.n2 b (.inr (.inr ⟨n, by show n < m1.obs.length; omega, (obn n (by omega)).symm.trans z⟩))
  · rcases z with z | ⟨n, hn2, z⟩
    · exact x.m2 b (.inl z)
    · have hn3 : n < m1.obs.length + 1 := by rw [← hl]; exact hn2
      by_cases e : n = m1.obs.length
      · subst e
        exact .inr (by rw [← show a = b from oba.symm.trans z]; exact hn)
      · exact x.m2 b (.inr ⟨n, by show n < m1.obs.length; omega, (obn n (by omega)).symm.trans z⟩)
end
def neNilD : D → D → Option D
  | .lst xs, .lst [] => some (.bl (!xs.isEmpty))
  | _, _ => none
def rNeNil (K : PySem.W.Frag) : R2 := fun x y H Q => ∃ (a b : Addr) (vs : List V), x = .ref a ∧ y = .ref b ∧ SqL K H a vs ∧ SqL K H b [] ∧ Q (.bl (!vs.isEmpty)) H
section
variable {X : Cx}
theorem op_neNil (hu : X.A.units + 64 < cLine) : OpR X (compareOp .NotEq) (rNeNil X.K) := by
  rintro pins s σ H x y v u Q I rx ry ⟨a, b, vs, rfl, rfl, ha, hb, q⟩
  cases rx
  cases ry
  obtain ⟨its, r1, p1, _⟩ := I.list ha
  obtain ⟨its2, r2, p2, _⟩ := I.list hb
  have hz : its2 = [] := by cases r2; rfl
  subst hz
  have hlen := r1.length
  have hu2 : X.A.units < cLine := by omega
  cases vs with
  | nil =>
    have h0 : its = [] := by cases r1; rfl
    subst h0
    have h := SeqAt.RcNeAt.lists (A := X.A) (s := s) (e := fun _ => true) p1.isList p2.isList rfl hu2 fun j h1 _ => absurd h1 (by simp)
    exact h _ _ _ _ ⟨.bl false, H, I, rfl, q⟩
  | cons w ws =>
    have h := SeqAt.RcNeAt.lists_lengths (A := X.A) (s := s) p1.isList p2.isList (by
      cases its with
      | nil => cases r1
      | cons i its => simp) hu2
    exact h _ _ _ _ ⟨.bl true, H, I, rfl, q⟩
theorem opd_neNil {K : PySem.W.Frag} {mg : Str → Option Value} : OpD K mg neNilD (rNeNil K) := fun E H x y d1 d2 d Q hN r1 r2 g q => by
  unfold neNilD at g
  split at g
  · cases g
    obtain ⟨a, vs, rfl, ha, ra⟩ := r1.lst
    obtain ⟨b, ws, rfl, hb, rb⟩ := r2.lst
    cases rb
    refine ⟨a, b, vs, rfl, rfl, SqL.of ha, SqL.of hb, ?_⟩
    have e := ra.length
    rename_i xs
    have e2 : vs.isEmpty = xs.isEmpty := by
      cases vs <;> cases xs <;> first | rfl | simp at e
    rw [e2]
    exact q _ _ (Same.refl _) (.bl _)
  · cases g
end
end PD
namespace PD
open PySem PySem.Spec PyProof.Rows L2
variable [TabC]
def keyZ (xs : List Int) : KO.α := xs.map fun x => (Sum.inl x : Int ⊕ List Nat)
def insZ (x : List Int) : List (List Int) → List (List Int)
  | [] => [x]
  | y :: ys => if KO.blt (keyZ y) (keyZ x) = true then y :: insZ x ys else x :: y :: ys
def sortZ : List (List Int) → List (List Int)
  | [] => []
  | x :: xs => insZ x (sortZ xs)
theorem insZ_perm (x : List Int) : ∀ ys, (insZ x ys).Perm (x :: ys)
  | [] => .refl _
  | y :: ys => by
    unfold insZ
    split
    · exact ((insZ_perm x ys).cons y).trans (.swap x y ys)
    · exact .refl _
theorem sortZ_perm : ∀ xs, (sortZ xs).Perm xs
  | [] => .refl _
  | x :: xs => (insZ_perm x (sortZ xs)).trans ((sortZ_perm xs).cons x)
def UpZ (ys : List (List Int)) : Prop := ys.Pairwise fun x y => KO.blt (keyZ y) (keyZ x) = false
theorem insZ_up (x : List Int) : ∀ ys, UpZ ys → UpZ (insZ x ys)
  | [], _ => List.pairwise_singleton _ _
  | y :: ys, h => by
    obtain ⟨h1, h2⟩ := List.pairwise_cons.mp h
    unfold insZ
    cases hb : KO.blt (keyZ y) (keyZ x) with
    | true =>
      rw [if_pos rfl]
      refine List.pairwise_cons.mpr ⟨fun z hz => ?_, insZ_up x ys h2⟩
      rcases List.mem_cons.mp ((insZ_perm x ys).subset hz) with rfl | hz
      · cases h3 : KO.blt (keyZ z) (keyZ y) with
        | false => rfl
        | true =>
          have := KO.trans _ _ _ hb h3
          rw [KO.irrefl] at this
          cases this
      · exact h1 z hz
    | false =>
      rw [if_neg (by decide)]
      refine List.pairwise_cons.mpr ⟨fun z hz => ?_, h⟩
      rcases List.mem_cons.mp hz with rfl | hz
      · exact hb
      · exact KO.le_trans hb (h1 z hz)
theorem sortZ_up : ∀ xs, UpZ (sortZ xs)
  | [] => List.Pairwise.nil
  | x :: xs => insZ_up x _ (sortZ_up xs)
theorem keyZ_inj {a b : List Int} (h : keyZ a = keyZ b) : a = b := by
  unfold keyZ at h
  exact (List.map_inj_right (fun x y e => Sum.inl.inj e)).mp h
theorem upZ_eq : ∀ {a b : List (List Int)}, a.Perm b → UpZ a → UpZ b → a = b := by
  intro a
  induction a with
  | nil => intro b p _ _; exact (List.nil_perm.mp p).symm
  | cons x a ih =>
    intro b p ha hb
    cases b with
    | nil => exact absurd p.length_eq (by simp)
    | cons y b =>
      have hxy : x = y := by
        rcases List.mem_cons.mp (p.subset List.mem_cons_self) with e | hx
        · exact e
        rcases List.mem_cons.mp (p.symm.subset (List.mem_cons_self (a := y))) with e | hy
        · exact e.symm
        have h1 := (List.pairwise_cons.mp ha).1 y hy
        have h2 := (List.pairwise_cons.mp hb).1 x hx
        exact keyZ_inj (KO.total _ _ h2 h1)
      subst hxy
      rw [ih (List.Perm.cons_inv p) (List.Pairwise.of_cons ha) (List.Pairwise.of_cons hb)]
theorem ltZ_lex : ∀ a b : List Int, KO.blt (keyZ a) (keyZ b) = HT.lexLt a b
  | [], [] => rfl
  | [], y :: ys => rfl
  | x :: xs, [] => rfl
  | x :: xs, y :: ys => by
    have ih := ltZ_lex xs ys
    rw [HT.lexLt_cons]
    show PyProof.Rows.lexLt itemOrd (Sum.inl x :: keyZ xs) (Sum.inl y :: keyZ ys) = _
    rw [lex_cons]
    have ih' : PyProof.Rows.lexLt itemOrd (keyZ xs) (keyZ ys) = HT.lexLt xs ys := ih
    rw [ih']
    show (decide (x < y) || !decide (y < x) && HT.lexLt xs ys) = _
    by_cases h : x = y
    · subst h
      simp
    · rw [if_neg h]
      by_cases h2 : x < y
      · simp [h2]
      · have h3 : y < x := by omega
        simp [h2, h3]
abbrev shZ : Nat → Bool := fun _ => false
theorem items_ints : ∀ {us : List Value} {ys : List Int} (i : Nat), IntsAre us ys → tupItems shZ i us = some (keyZ ys)
  | _, _, _, .nil => by unfold tupItems; rfl
  | _, _, i, .cons y t r => by
    unfold tupItems
    rw [if_neg (fun z => nomatch z), items_ints (i + 1) r]
    rfl
structure TZ (h : Heap) (v : Value) (ys : List Int) : Prop where
  ex : ∃ a o us n, v = .ref a ∧ h.get? a = some o ∧ o.cls = .type "tuple" ∧ o.data = .seq us n ∧ IntsAre us.toList ys
theorem TZ.keeps {h h' : Heap} {v : Value} {ys : List Int} (x : TZ h v ys) (k : ∀ b o, h.get? b = some o → o.cls = .type "tuple" → h'.get? b = some o) : TZ h' v ys := by
  obtain ⟨a, o, us, n, e, ho, hc, hd, hs⟩ := x.ex
  exact ⟨a, o, us, n, e, k a o ho hc, hc, hd, hs⟩
theorem TZ.key {h : Heap} {v : Value} {ys : List Int} (x : TZ h v ys) : (tupKind h shZ).keyOf v = some (keyZ ys) := by
  obtain ⟨a, o, us, n, rfl, ho, _, hd, hs⟩ := x.ex
  show (match h.get? a with
    | some o => match o.data with
      | .seq xs _ => tupItems shZ 0 xs.toList
      | _ => none
    | none => none) = _
  rw [ho]
  simp only [hd]
  exact items_ints 0 hs
theorem TZ.first {h : Heap} {v : Value} {ys : List Int} (x : TZ h v ys) (h0 : ys ≠ []) : ∃ f, TupOf h shZ v f := by
  obtain ⟨a, o, us, n, e, ho, hc, hd, hs⟩ := x.ex
  cases hu : us.toList with
  | nil => rw [hu] at hs; cases hs; exact absurd rfl h0
  | cons f r =>
    rw [hu] at hs
    cases hs with
    | cons y t r2 =>
      refine ⟨.int y t, a, o, us, n, e, ho, hc, hd, ?_, fun _ => ⟨y, t, rfl⟩, fun (z : false = true) => (nomatch z)⟩
      rw [← Array.getElem?_toList, hu]
      rfl
theorem firsts_tz {h : Heap} {g : Value → List Int} : ∀ {vs : List Value}, (∀ v ∈ vs, TZ h v (g v) ∧ g v ≠ []) → ∃ fs, TupsOf h shZ vs fs ∧ fs.length = vs.length
  | [], _ => ⟨[], .nil, rfl⟩
  | v :: vs, hh => by
    obtain ⟨f, hf⟩ := (hh v List.mem_cons_self).1.first (hh v List.mem_cons_self).2
    obtain ⟨fs, h1, h2⟩ := firsts_tz fun u hu => hh u (List.mem_cons_of_mem _ hu)
    exact ⟨f :: fs, .cons hf h1, by simp [h2]⟩
theorem swo_keyZ (g : Value → List Int) : SrtO.Swo fun v u => KO.blt (keyZ (g v)) (keyZ (g u)) := by
  refine ⟨fun x y h => ?_, fun x y z h1 h2 => KO.le_trans h1 h2⟩
  cases h2 : KO.blt (keyZ (g y)) (keyZ (g x)) with
  | false => rfl
  | true =>
    have := KO.trans _ _ _ h h2
    rw [KO.irrefl] at this
    cases this
section
variable {prog : Program} {w : World} {A : Around} {E : Value → Shared → Prop} {s : Shared}
theorem call_lt_tz {a a2 : Addr} {o o2 : Obj} {us us2 : Array Value} {n n2 : Nat} {as bs : List Int} {Qv : Value → Shared → Prop} (ho : s.heap.get? a = some o) (hc : o.cls = .type "tuple") (hd : o.data = .seq us n) (ho2 : s.heap.get? a2 = some o2) (hc2 : o2.cls = .type "tuple") (hd2 : o2.data = .seq us2 n2)
    (hs : IntsAre us.toList as) (hs2 : IntsAre us2.toList bs) (h : Qv (.bool (HT.lexLt as bs)) s) : wpAny (model prog w) A (call (.builtin "tuple.__lt__") [.ref a, .ref a2]) Qv E s := by
  have hT : Shared.TypeIs s (.ref a) "tuple" := ⟨o, ho, hc⟩
  obtain ⟨oc, od, odt, osl⟩ := o
  obtain ⟨oc2, od2, odt2, osl2⟩ := o2
  dsimp only at hc hd hc2 hd2
  subst hc
  subst hd
  subst hc2
  subst hd2
  refine wpAny_call (codeAny_call_builtin F.slot_tuple_lt.plain F.entry_tuple_lt (F.slot_tuple_lt.check _ _ _ _ _ _ _ _ hT (F.args_tuple_lt_2 _ _) ?_))
  exact HT.tuple_lt_ints a a2 us us2 n n2 od od2 osl osl2 as bs hs hs2 prog w A (fun r s' => match r with
    | .ok (.ret v) => Qv v s'
    | .ok _ => False
    | .error e => E e s') s ⟨ho, ho2, h⟩
theorem oneLt_tz {x y : Value} {as bs : List Int} {b : Bool} {Q : Bool → Shared → Prop} (hx : TZ s.heap x as) (hy : TZ s.heap y bs) (hu : A.units < cLine) (h : Q (KO.blt (keyZ as) (keyZ bs)) s) : wpAny (model prog w) A (oneLt' b x y) Q E s := by
  obtain ⟨a, o, us, n, rfl, ho, hc, hd, hs⟩ := hx.ex
  obtain ⟨a2, o2, us2, n2, rfl, ho2, hc2, hd2, hs2⟩ := hy.ex
  rw [ltZ_lex] at h
  rw [oneLt'_eq]
  have hrc : wpAny (model prog w) A (do
      let r ← richCompare CmpOp.Lt (Value.ref a) (Value.ref a2)
      truthOfDropped r) Q E s := by
    refine wpAny_bind ?_
    have := HT.lt_tupInts (prog := prog) (w := w) (A := A) (E := E) (s := s) (l := a) (b := a2) (ns := as) (ms := bs) (Q := fun r s' => wpAny (model prog w) A (truthOfDropped r) Q E s') ⟨o, ho, hc, n, hd⟩ ⟨o2, ho2, hc2, n2, hd2⟩ hs hs2 hu (wpAny_truthy_bool h)
    exact this
  cases b with
  | false => exact hrc
  | true =>
    simp only [if_true]
    refine wpAny_bind (wpAny_cRoomFor hu ?_)
    have hT : Shared.TypeIs s (.ref a) "tuple" := ⟨o, ho, hc⟩
    exact wpAny_bind (wpAny_callSpecialIfBound?_slot hT F.slot_tuple_lt (call_lt_tz ho hc hd ho2 hc2 hd2 hs hs2 (wpAny_truthy_bool h)))
theorem first_tz {v : Value} {ys : List Int} {Q : Option Value → Shared → Prop} (x : TZ s.heap v ys) (h : ∀ f : Option Value, f.isSome = !ys.isEmpty → Q f s) : wpAny (model prog w) A (firstOfTuple' v) Q E s := by
  obtain ⟨a, o, us, n, rfl, ho, hc, hd, hs⟩ := x.ex
  rw [W.kas_first_eq]
  refine wpAny_bind (wpAny_typeOf (T := "tuple") ⟨o, ho, hc⟩ ?_)
  refine wpAny_ite_false (by rfl) ?_
  refine wpAny_bind (listItems_at ho hd (wpAny_pure (h _ ?_)))
  rw [← Array.getElem?_toList]
  cases hs' : us.toList with
  | nil => rw [hs'] at hs; cases hs; rfl
  | cons f r => rw [hs'] at hs; cases hs; rfl
theorem firsts_all {g : Value → List Int} : ∀ (vs : List Value) {Q : List (Option Value) → Shared → Prop}, (∀ v ∈ vs, TZ s.heap v (g v)) → (∀ fs : List (Option Value), fs.map Option.isSome = vs.map (fun v => !(g v).isEmpty) → Q fs s) → wpAny (model prog w) A (List.mapM firstOfTuple' vs) Q E s
  | [], Q, _, h => by
    rw [List.mapM_nil]
    exact wpAny_pure (h [] rfl)
  | v :: vs, Q, hv, h => by
    rw [List.mapM_cons]
    refine wpAny_bind (first_tz (hv v List.mem_cons_self) fun f hf => ?_)
    refine wpAny_bind (firsts_all vs (fun u hu => hv u (List.mem_cons_of_mem _ hu)) fun fs hfs => ?_)
    exact wpAny_pure (h (f :: fs) (by rw [List.map_cons, List.map_cons, hf, hfs]))
theorem kind_tz {g : Value → List Int} {v0 : Value} {vs : List Value} {Q : SortKind → Shared → Prop} (hv : ∀ v ∈ v0 :: vs, TZ s.heap v (g v)) (he : ∃ v ∈ v0 :: vs, g v = []) (h : Q (if (g v0).isEmpty = true then oneType' else general') s) : wpAny (model prog w) A (keyKind' (v0 :: vs).toArray) Q E s := by
  rw [kat_kind_eq, List.mapM_toArray, map_eq_pure_bind]
  refine wpAny_bind (wpAny_bind (firsts_all (v0 :: vs) hv fun fs hfs => wpAny_pure ?_))
  have hall : ¬ (fs.toArray.all fun x => x.isSome) = true := fun z => by
    obtain ⟨v, hm, h0⟩ := he
    rw [List.all_toArray, List.all_eq_true] at z
    have h1 : false ∈ fs.map Option.isSome := by
      rw [hfs]
      exact List.mem_map.mpr ⟨v, hm, by rw [h0]; rfl⟩
    obtain ⟨f, hf, e⟩ := List.mem_map.mp h1
    rw [z f hf] at e
    cases e
  rw [if_neg hall]
  cases fs with
  | nil => cases hfs
  | cons f fs =>
    have h1 : f.isSome = !(g v0).isEmpty := (List.cons.inj hfs).1
    have h2 : ((f :: fs).toArray[0]?.bind id) = f := by
      rw [List.getElem?_toArray]
      rfl
    rw [h2, h1]
    cases hg : (g v0).isEmpty with
    | false =>
      rw [hg, if_neg (by decide)] at h
      rw [if_pos (by decide)]
      exact wpAny_pure h
    | true =>
      rw [hg, if_pos rfl] at h
      rw [if_neg (by decide), oneTypeOnly'_eq, List.mapM_toArray, map_eq_pure_bind]
      refine wpAny_bind (wpAny_bind (wpAny_bind (W.kas_mapM (r := Value.type "tuple") (v0 :: vs) (fun v hm Q' hq => ?_) (wpAny_pure ?_))))
      · obtain ⟨a, o, us, n, rfl, ho, hc, _⟩ := (hv v hm).ex
        exact wpAny_typeOf (T := "tuple") ⟨o, ho, hc⟩ hq
      · have ht : ((v0 :: vs).map fun _ => Value.type "tuple").toArray[0]? = some (Value.type "tuple") := by
          rw [List.getElem?_toArray]
          rfl
        rw [ht]
        have ha : (((v0 :: vs).map fun _ => Value.type "tuple").toArray.all fun x => x == Value.type "tuple") = true := by
          rw [List.all_toArray, List.all_eq_true]
          intro x hx
          obtain ⟨_, _, rfl⟩ := List.mem_map.mp hx
          rfl
        dsimp only
        rw [if_pos ha]
        exact wpAny_pure (wpAny_pure h)
theorem tz_sortable {a : Addr} {vs : List Value} {g : Value → List Int} (h0 : 0 < vs.length) (hu : A.units < cLine) (hp : ∀ v ∈ vs, TZ s.heap v (g v)) (ha : ∀ o, s.heap.get? a = some o → o.cls ≠ .type "tuple") : SrtO.SortableO prog w A s a vs fun v u => KO.blt (keyZ (g v)) (keyZ (g u)) := by
  intro h' keep
  have hp' : ∀ v ∈ vs, TZ h' v (g v) := fun v hm => (hp v hm).keeps fun b o e c => keep b o (fun z => by subst z; exact ha o e c) e
  by_cases he : ∃ v ∈ vs, g v = []
  · cases vs with
    | nil => cases h0
    | cons v0 vs =>
      refine ⟨if (g v0).isEmpty = true then oneType' else general', fun Q E hq => kind_tz (s := { s with heap := h' }) hp' he hq, ?_⟩
      intro p q hm hm'
      have h1 := oneLt_tz (prog := prog) (w := w) (A := A) (E := fun _ _ => False) (s := { s with heap := h' }) (b := (g v0).isEmpty) (Q := fun r s' => s' = { s with heap := h' } ∧ r = KO.blt (keyZ (g p.1)) (keyZ (g q.1))) (hp' _ hm) (hp' _ hm') hu ⟨rfl, rfl⟩
      cases hg : (g v0).isEmpty with
      | true => rw [hg] at h1; exact h1
      | false => rw [hg] at h1; exact h1
  · have hp2 : ∀ v ∈ vs, TZ h' v (g v) ∧ g v ≠ [] := fun v hm => ⟨hp' v hm, fun z => he ⟨v, hm, z⟩⟩
    obtain ⟨fs, h1, h2⟩ := firsts_tz hp2
    refine ⟨tuples' true, fun Q E hq => tup_kind (s := { s with heap := h' }) (by omega) h1 hq, ?_⟩
    intro p q hm hm'
    exact tup_ltAt (shape := shZ) true A _ p.1 q.1 _ _ (hp' _ hm).key (hp' _ hm').key ⟨rfl, rfl⟩
end
end PD
namespace PD
open PySem PySem.Spec PyProof.Rows L2
variable [TabC]
def intsOf (ws : List V) : List Int := ws.filterMap fun v => match v with
  | .int x => some x
  | _ => none
theorem intsOf_map (ys : List Int) : intsOf (ys.map V.int) = ys := by
  unfold intsOf
  rw [List.filterMap_map]
  induction ys with
  | nil => rfl
  | cons y ys ih => rw [List.filterMap_cons]; simp only [Function.comp]; rw [ih]
def tzAt (H : Hp) (v : V) : List Int := match v with
  | .ref t => match H t with
    | some (.tup ws) => intsOf ws
    | _ => []
  | _ => []
def tupZ (ys : List Int) : D := .tup (ys.map D.int)
theorem kV_inl (ys : List Int) : (ys.map (Sum.inl : Int → Key)).map kV = ys.map V.int := by
  rw [List.map_map]
  rfl
def rSortedDZ : List V → Hp → VK → Prop := fun vs H Q => ∃ (d : Addr) (kvs : List (List Key × V)) (ks : List (List Int)), vs = [V.ref d] ∧ Rd H d (.dT kvs) ∧ kvs.map (·.1) = ks.map (fun y => y.map (Sum.inl : Int → Key)) ∧
  ∀ (ys : List V) (p : Addr), ys.map (tzAt H) = sortZ ks → (∀ v ∈ ys, ∃ t, v = V.ref t ∧ H t = some (.tup ((tzAt H v).map V.int))) → H p = none → Q (.ref p) (upd H p (.lst ys))
theorem keys_tz {H : Hp} : ∀ {kvs : List (List Key × V)} {bs : List Addr} {ks : List (List Int)}, IsKeys H kvs bs → kvs.map (·.1) = ks.map (fun y => y.map (Sum.inl : Int → Key)) →
    (bs.map V.ref).map (tzAt H) = ks ∧ ∀ b ∈ bs, H b = some (.tup ((tzAt H (.ref b)).map V.int)) ∧ tzAt H (.ref b) ∈ ks
  | _, _, [], .nil, _ => ⟨rfl, fun b hb => nomatch hb⟩
  | _, _, _ :: _, .nil, e => nomatch e
  | _, _, [], .cons _ _, e => nomatch e
  | _, _, y :: ks, @Paired.cons _ _ _ p b ps bs h t, e => by
    obtain ⟨e1, e2⟩ := List.cons.inj e
    obtain ⟨h1, h2⟩ := keys_tz t e2
    have hb : H b = some (.tup (y.map V.int)) := by
      rw [h]
      show some (HO.tup (List.map kV p.1)) = _
      rw [show p.1 = y.map (Sum.inl : Int → Key) from e1, kV_inl]
    have e3 : tzAt H (.ref b) = y := by
      unfold tzAt
      dsimp only
      rw [hb]
      exact intsOf_map y
    refine ⟨by rw [List.map_cons, List.map_cons, h1, e3], fun c hc => ?_⟩
    rcases List.mem_cons.mp hc with rfl | hc
    · rw [e3]
      exact ⟨hb, List.mem_cons_self⟩
    · exact ⟨(h2 c hc).1, List.mem_cons_of_mem _ (h2 c hc).2⟩
section
variable {X : Cx}
theorem cr_sortedDZ (hcalm : X.calm = true) (hu : X.A.units + 64 < cLine) : CallR X (.builtin "sorted") rSortedDZ := by
  intro pins s σ H xs us Q I r q
  obtain ⟨d, kvs, kss, rfl, hd, hkk, q⟩ := q
  obtain ⟨u, rfl, rx⟩ := r.one
  cases rx
  obtain ⟨z, hs, ks, pr, o, es, ep, ho, hx, hdt, he, hn⟩ := (show ObjOk X.prog X.w H s.heap d (.dT kvs) from hd.ok I.hok)
  have l1 : es.size = ks.length := size_of_entries he
  have l2 : kvs.length = ks.length := Paired.length pr
  obtain ⟨k1, k2⟩ := keys_tz (isKeys_of pr) hkk
  generalize hbs : (ks.map fun x => x.2.1) = bs at k1 k2
  have lbs : bs.length = ks.length := by rw [← hbs, List.length_map]
  refine Calls.call_function_entry PyProof.Rows.kind_sorted PyProof.Rows.plain_sorted PyProof.Rows.entry_sorted (PyProof.Rows.args_sorted1 _) ?_
  unfold Builtin.«sorted»
  refine wpAny_bind (m := checkCount "sorted" 1 1 _) (wpAny_pure ?_)
  refine wpAny_bind (PySem.W.kdu_collect (A := X.A.in1) (kdl_raw hs hx hdt) (I.ok.hd hcalm) ho (by omega) fun h' tk acc hk hacc => ?_)
  have eb : acc.toList = bs.map Value.ref := by
    have ea : acc.toList = ks.map fun x => Value.ref x.2.1 := by
      have hl : acc.toList.length = ks.length := by rw [Array.length_toList, hacc.1]; exact l1
      apply List.ext_getElem?
      intro j
      rw [List.getElem?_map]
      cases hj : acc.toList[j]? with
      | none =>
        have h1 := List.getElem?_eq_none_iff.mp hj
        rw [List.getElem?_eq_none (by omega)]
        all_goals rfl
      | some v =>
        obtain ⟨en, hen, hv⟩ := hacc.2 j v (by rw [← Array.getElem?_toList]; exact hj)
        have qe := entry_at he j
        rw [hen] at qe
        cases hb : ks[j]? with
        | none =>
          rw [hb] at qe
          exact nomatch (show some en = none from qe)
        | some b =>
          rw [hb] at qe
          have e2 : en = entryOfKey (tupleKind (mixKind X.prog X.w)) b := Option.some.inj qe
          rw [hv, e2]
          all_goals rfl
    rw [ea, ← hbs, List.map_map]
    all_goals rfl
  rw [eb]
  have hz : (bs.map Value.ref).length ≤ sizeLine := by rw [List.length_map]; omega
  have I1 : Inv X pins σ H { s with heap := h', toks := tk } := I.kept hk
  refine wpAny_bind (wpAny_newList ?_ hz)
  have hoL : (h'.push (seqObj "list" (bs.map Value.ref).toArray 0)).get? h'.objs.size = some (seqObj "list" (bs.map Value.ref).toArray 0) := Heap.get?_push_size _ rfl
  show wpAny _ _ _ _ _ { s with heap := h'.push (seqObj "list" (bs.map Value.ref).toArray 0), toks := tk }
  have hts : ∀ v ∈ bs.map Value.ref, TZ h' v (tzAt H (backV v)) := fun v hv => by
    obtain ⟨b, hb, rfl⟩ := List.mem_map.mp hv
    obtain ⟨h1, h2⟩ := k2 b hb
    obtain ⟨_, its2, r2, o2, ho2, hc2, n2, hd2⟩ := I1.hok _ _ h1
    exact ⟨b, o2, its2.toArray, n2, rfl, ho2, hc2, hd2, by
      show IntsAre its2.toArray.toList (tzAt H (V.ref b))
      rw [List.toList_toArray]
      exact r2.ints⟩
  have hts2 : ∀ v ∈ bs.map Value.ref, TZ (h'.push (seqObj "list" (bs.map Value.ref).toArray 0)) v (tzAt H (backV v)) := fun v hv => (hts v hv).keeps fun b o e _ => Heap.get?_push_of_some _ e
  refine wpAny_bind (wpAny_holding (wpAny_call_entry PyProof.Rows.slot_list_sort ⟨_, hoL, rfl⟩ PyProof.Rows.entry_list_sort
    (SrtO.list_sort_ord (s := { s with heap := h'.push (seqObj "list" (bs.map Value.ref).toArray 0), toks := tk }) (swo_keyZ fun u => tzAt H (backV u)) hoL hz (fun h2 => tz_sortable (s := { s with heap := h'.push (seqObj "list" (bs.map Value.ref).toArray 0), toks := tk }) (by omega) (by show X.A.units + 1 + 1 < cLine; omega) hts2 fun o e => ?_) fun out g1 g2 => ⟨_, rfl, ?_⟩) (PyProof.Rows.args_list_sort _)))
  · have e' : some o = some (seqObj "list" (bs.map Value.ref).toArray 0) := e.symm.trans hoL
    cases e'
    intro c
    exact absurd (Value.type.inj c) (by decide)
  obtain ⟨e', he'⟩ := PyProof.Rows.sortedHeap_at (vs := bs.map Value.ref) (out := out.toArray) hoL
  have hp : (out.map backV).Perm (bs.map V.ref) := by
    have := g2.perm.map backV
    rw [List.map_map] at this
    exact this
  have hlen : (out.map backV).length ≤ sizeLine := by
    rw [hp.length_eq, List.length_map]
    omega
  have h3 : ∀ u ∈ out, ∃ a, u = Value.ref a := fun u hu => by
    obtain ⟨b, _, e⟩ := List.mem_map.mp (g2.perm.mem_iff.mp hu)
    exact ⟨b, e.symm⟩
  have hsort : (out.map backV).map (tzAt H) = sortZ kss := by
    refine upZ_eq ?_ ?_ (sortZ_up kss)
    · have := hp.map (tzAt H)
      rw [k1] at this
      exact this.trans (sortZ_perm kss).symm
    · unfold UpZ
      rw [List.pairwise_map, List.pairwise_map]
      exact g1
  refine wpAny_pure ⟨_, rfl, .ref h'.objs.size, upd H h'.objs.size (.lst (out.map backV)), I1.laid (t' := tk) (fun b u e => ?_) (Nat.le_refl _)
    (show ObjOk X.prog X.w _ _ _ (.lst (out.map backV)) from ⟨hlen, out, e', vals_back h3, he'⟩), rfl, q _ _ hsort (fun v hv => ?_) (I1.hok.fresh (Nat.le_refl _))⟩
  · have hb : b < h'.objs.size := Heap.lt_size e
    rw [PyProof.Rows.sortedHeap_old (Nat.ne_of_lt hb) (by rw [size_push']; exact Nat.lt_succ_of_lt hb)]
    exact Heap.get?_push_of_some _ e
  · obtain ⟨b, hb, rfl⟩ := List.mem_map.mp (hp.subset hv)
    exact ⟨b, rfl, (k2 b hb).1⟩
end
def keyZs : List Key → Option (List Int)
  | [] => some []
  | .inl x :: r => (keyZs r).map (x :: ·)
  | _ => none
theorem keyZs_some : ∀ {k : List Key} {ys : List Int}, keyZs k = some ys → k = ys.map (Sum.inl : Int → Key)
  | [], ys, h => by cases h; rfl
  | .inl x :: r, ys, h => by
    obtain ⟨ms, h1, rfl⟩ := Option.map_eq_some_iff.mp h
    rw [keyZs_some h1]; rfl
  | .inr x :: r, ys, h => by cases h
def allKeysZ : List (List Key × D) → Option (List (List Int))
  | [] => some []
  | (k, _) :: r => (keyZs k).bind fun ys => (allKeysZ r).map (ys :: ·)
theorem allKeysZ_some : ∀ {kds : List (List Key × D)} {ks : List (List Int)}, allKeysZ kds = some ks → kds.map (·.1) = ks.map fun y => y.map (Sum.inl : Int → Key)
  | [], ks, h => by cases h; rfl
  | (k, v) :: r, ks, h => by
    obtain ⟨ys, h1, h2⟩ := Option.bind_eq_some_iff.mp h
    obtain ⟨ms, h3, rfl⟩ := Option.map_eq_some_iff.mp h2
    rw [List.map_cons, allKeysZ_some h3, keyZs_some h1]; rfl
def sortedDZD : List D → Option D
  | [.dt kds] => (allKeysZ kds).map fun ks => .lst ((sortZ ks).map tupZ)
  | _ => none
section
variable {K : PySem.W.Frag} {mg : Str → Option Value}
theorem rep_tupZ {E : Ev} {H : Hp} {v : V} (h : ∃ t, v = V.ref t ∧ H t = some (.tup ((tzAt H v).map V.int))) : Rep K mg E H v (tupZ (tzAt H v)) := by
  obtain ⟨t, e, ht⟩ := h
  generalize tzAt H v = ys at ht ⊢
  subst e
  refine .tup ht ?_
  clear ht
  induction ys with
  | nil => exact .nil
  | cons y ys ih => exact .cons (.int y) ih
theorem cf_sortedDZ : CallF K mg sortedDZD rSortedDZ := fun E H xs ds es Q r g q => by
  unfold sortedDZD at g
  split at g
  · obtain ⟨ks, h1, g⟩ := Option.map_eq_some_iff.mp g
    cases g
    cases r with
    | cons r t =>
      cases t
      obtain ⟨a, kvs, rfl, ha, hk, _⟩ := r.dt
      refine ⟨a, kvs, ks, rfl, ha, by rw [hk, allKeysZ_some h1], fun ys p hs hv hp => ?_⟩
      refine q p ys hp ?_
      rw [← hs, List.map_map]
      exact RepL.ofMap fun v hv' => rep_tupZ (hv v hv')
  · cases g
end
section
variable {X : Cx} {e : Expr} {es : List Expr} {pos p : Pos} {gs : Co (List Opd)}
theorem ef_sortedDZ (hm : X.mg "sorted" = none) (hu : X.A.units + 64 < cLine) (ha : EBs X [e] gs) (hc : X.calm = true := by rfl) (hg : Gl X "sorted" := by rfl) (he : starEach [e] X.env = (false, eval e X.env) :: starEach [] X.env := by rfl) (hpl : (backTo pos (starEach [] X.env)).any (·.1) = false := by rfl) : EF X (.Call (.Name "sorted" p) [e] [] pos) (asL (eCall sortedDZD gs)) :=
  ef_callB (cr_sortedDZ hc hu) cf_sortedDZ hm rfl ha hg (by decide) (by decide) he hpl
end
end PD
namespace PD
open PySem PySem.Spec PyProof.Rows L2
variable [TabC]
abbrev tupO (us : List Value) : Obj := { cls := .type "tuple", data := .seq us.toArray }
section
variable {X : Cx}
theorem ok_frzT {P : Program} {w : World} {H : Hp} {h : Heap} {a : Addr} {us : List Value} {xs : List V} (r : Vals xs us) (hz : xs.length ≤ sizeLine) (ho : h.get? a = some (tupO us)) : ObjOk P w H h a (.frz (tupO us) (.tup xs)) :=
  ⟨ho, hz, us, r, tupO us, ho, rfl, 0, rfl⟩
end
section
variable {K : PySem.W.Frag} {mg : Str → Option Value} {E : Ev} {H : Hp} {X : Cx} {a b e : Expr} {es : List Expr} {pos apos : Pos} {fs : Co (List D)} {gs : Co (List Opd)} {g1 g2 : Co Opd}
def eTupX (fs : Co (List D)) : Co D := Co.bind fs fun ds m => if ds.length ≤ sizeLine then .ok (.xt ds) m else .no
end
end PD
namespace PD
open PySem PySem.Spec PyProof.Rows L2
variable [TabC]
def findI (z : Int) : List Int → Option Nat
  | [] => none
  | y :: ys => if y = z then some 0 else (findI z ys).map (· + 1)
def idxX : D → D → Option D
  | .xt ds, .int z => (toInts ds).bind fun ys => (findI z ys).map fun (j : Nat) => .int j
  | _, _ => none
def eIdx (f1 : Co D) (g2 : Co Opd) : Co D := Co.bind f1 fun d1 => Co.bind g2 fun o2 => Opd1 (idxX d1) o2
end PD
namespace PD
open PySem PySem.Spec PyProof.Rows L2
variable [TabC]
section
variable {X : Cx}
theorem call_tupleX : CallR X (.type "tuple") (fun xs H Q => ∃ p ys, xs = [.ref p] ∧ SqL X.K H p ys ∧ ∀ (l : Addr) (o : Obj), H l = none → o.dict = none → Q (.ref l) (upd H l (.frz o (.tup ys)))) := by
  intro pins s σ H xs us Q I r h
  obtain ⟨p, ys, rfl, hq, q⟩ := h
  obtain ⟨u, rfl, rx⟩ := vals1 r
  cases rx
  obtain ⟨its, r', pl, hz⟩ := I.list hq
  have hlen := r'.length
  refine call_tuple_list pl.isList (fun h' kp => ?_) (by simp only [List.size_toArray] <;> omega)
  have I1 : Inv X pins σ H { s with heap := h' } := I.kept (t' := s.toks) kp
  exact ⟨.ref h'.objs.size, _, I1.laid (t' := s.toks) (fun b o e => Heap.get?_push_of_some _ e) (Nat.le_refl _) (ok_frzT r' hz (Heap.get?_push_size h' rfl)), rfl, q _ _ (I1.hok.fresh (Nat.le_refl _)) rfl⟩
end
def tupleXD : List D → Option D
  | [.lst xs] => some (.xt xs)
  | _ => none
section
variable {K : PySem.W.Frag} {mg : Str → Option Value}
theorem cd_tupleX : CallD K mg tupleXD (fun xs H Q => ∃ p ys, xs = [.ref p] ∧ SqL K H p ys ∧ ∀ (l : Addr) (o : Obj), H l = none → o.dict = none → Q (.ref l) (upd H l (.frz o (.tup ys)))) := fun E H xs ds d Q hN r g q => by
  unfold tupleXD at g
  split at g
  · cases g
    cases r with
    | cons r t =>
      cases t
      obtain ⟨a, vs, rfl, ha, ra⟩ := r.lst
      exact ⟨a, vs, rfl, SqL.of ha, fun p o hp ho => q _ _ (same_new hp _) (.xt upd_same ho (ra.up (same_new hp _)))⟩
  · cases g
end
section
variable {X : Cx} {e : Expr} {pos p : Pos} {gs : Co (List Opd)}
theorem ee_tupleX (hm : X.mg "tuple" = none) (ha : EBs X [e] gs) (hg : Gl X "tuple" := by rfl) (he : starEach [e] X.env = (false, eval e X.env) :: starEach [] X.env := by rfl) (hpl : (backTo pos (starEach [] X.env)).any (·.1) = false := by rfl) : EE X (.Call (.Name "tuple" p) [e] [] pos) (eCall tupleXD gs) :=
  ee_callTy call_tupleX cd_tupleX hm rfl ha hg (by decide) (by decide) he hpl
end
def ltZD : D → D → Option D
  | .tup xs, .tup ys => (toInts xs).bind fun a => (toInts ys).map fun b => .bl (HT.lexLt a b)
  | _, _ => none
section
variable {K : PySem.W.Frag} {mg : Str → Option Value}
theorem opd_ltZ : OpD K mg ltZD (rLtT K) := fun E H x y d1 d2 d Q hN r1 r2 g q => by
  unfold ltZD at g
  split at g
  · obtain ⟨a, h1, g⟩ := Option.bind_eq_some_iff.mp g
    obtain ⟨b, h2, rfl⟩ := Option.map_eq_some_iff.mp g
    rw [toInts_some h1] at r1
    rw [toInts_some h2] at r2
    obtain ⟨p, vs, rfl, hp, rp⟩ := r1.tup
    obtain ⟨p2, ws, rfl, hp2, rp2⟩ := r2.tup
    rw [rp.ints] at hp
    rw [rp2.ints] at hp2
    exact ⟨p, p2, a, b, rfl, rfl, SqT.of hp, SqT.of hp2, q _ _ (Same.refl _) (.bl _)⟩
  · cases g
end
def rListT : List V → Hp → VK → Prop := fun xs H Q => ∃ (a : Addr) (kvs : List (List Key × V)), xs = [.ref a] ∧ Rd H a (.dT kvs) ∧
  ∀ (ys : List V) (p : Addr), ys.length = kvs.length → (∀ (j : Nat) (k : List Key), (kvs.map (·.1))[j]? = some k → ∃ b : Addr, ys[j]? = some (V.ref b) ∧ H b = some (.tup (k.map kV))) → H p = none → Q (.ref p) (upd H p (.lst ys))
section
variable {X : Cx}
theorem cr_listT (hcalm : X.calm = true) : CallR X (.type "list") rListT := by
  intro pins s σ H xs us Q I r q
  obtain ⟨d, kvs, rfl, hd, q⟩ := q
  obtain ⟨u, rfl, rx⟩ := r.one
  cases rx
  obtain ⟨z, hs, ks, pr, o, es, ep, ho, hx, hdt, he, hn⟩ := (show ObjOk X.prog X.w H s.heap d (.dT kvs) from hd.ok I.hok)
  have l1 : es.size = ks.length := size_of_entries he
  have l2 : kvs.length = ks.length := Paired.length pr
  refine PySem.W.kdl_call (kdl_raw hs hx hdt) (I.ok.hd hcalm) ho (by omega) fun h' tk acc c' hk hD hacc => ?_
  have eb : acc.toList = ks.map fun x => Value.ref x.2.1 := by
    have hl : acc.toList.length = ks.length := by rw [Array.length_toList, hacc.1]; exact l1
    apply List.ext_getElem?
    intro j
    rw [List.getElem?_map]
    cases hj : acc.toList[j]? with
    | none =>
      have h1 := List.getElem?_eq_none_iff.mp hj
      rw [List.getElem?_eq_none (by omega)]
      all_goals rfl
    | some v =>
      obtain ⟨en, hen, hv⟩ := hacc.2 j v (by rw [← Array.getElem?_toList]; exact hj)
      have qe := entry_at he j
      rw [hen] at qe
      cases hb : ks[j]? with
      | none =>
        rw [hb] at qe
        exact nomatch (show some en = none from qe)
      | some b =>
        rw [hb] at qe
        have e2 : en = entryOfKey (tupleKind (mixKind X.prog X.w)) b := Option.some.inj qe
        rw [hv, e2]
        all_goals rfl
  have hv : Vals (ks.map fun x => V.ref x.2.1) acc.toList := by
    rw [eb]
    clear eb hacc hD hk he l1 hn pr q l2
    induction ks with
    | nil => exact .nil
    | cons k ks ih => exact .cons rfl ih
  refine ⟨.ref s.heap.objs.size, upd H s.heap.objs.size (.lst (ks.map fun x => V.ref x.2.1)), I.laid (t' := tk) hk (Nat.le_refl _)
    (show ObjOk X.prog X.w _ _ _ (.lst (ks.map fun x => V.ref x.2.1)) from ⟨by rw [List.length_map, ← l2]; exact z, acc.toList, c', hv, by rw [Array.toArray_toList]; exact hD⟩), rfl, q _ _ (by rw [List.length_map, l2]) (fun j k hj => ?_) (I.hok.fresh (Nat.le_refl _))⟩
  rw [List.getElem?_map] at hj
  obtain ⟨kv, h1, rfl⟩ := Option.map_eq_some_iff.mp hj
  have key : ∀ {l : List (List Key × V)} {m : List (List Key × Addr × Value)} {j : Nat}, KT H l m → l[j]? = some kv → ∃ x, m[j]? = some x ∧ H x.2.1 = some (.tup (kv.1.map kV)) := by
    intro l m j r
    induction r generalizing j with
    | nil => intro h; simp at h
    | @cons p q ps qs hq t ih =>
      intro h
      cases j with
      | zero => rw [List.getElem?_cons_zero] at h; cases h; exact ⟨q, rfl, hq.2.1⟩
      | succ j => rw [List.getElem?_cons_succ] at h; rw [List.getElem?_cons_succ]; exact ih h
  obtain ⟨x, h2, h3⟩ := key pr h1
  exact ⟨x.2.1, by rw [List.getElem?_map, h2]; rfl, h3⟩
end
def listTD : List D → Option D
  | [.dt kds] => some (.lst (kds.map fun kv => tK kv.1))
  | _ => none
section
variable {K : PySem.W.Frag} {mg : Str → Option Value}
theorem cf_listT : CallF K mg listTD rListT := fun E H xs ds es Q r g q => by
  unfold listTD at g
  split at g
  · rename_i kds
    cases g
    cases r with
    | cons r t =>
      cases t
      obtain ⟨a, kvs, rfl, ha, l, rv⟩ := r.dt
      refine ⟨a, kvs, rfl, ha, fun ys p hl hk hp => q p ys hp ?_⟩
      have e : (kds.map fun kv => tK kv.1) = (kvs.map (·.1)).map tK := by rw [l, List.map_map]; rfl
      rw [e]
      have hl2 : ys.length = (kvs.map (·.1)).length := by rw [List.length_map]; exact hl
      clear e hl ha l rv q
      generalize kvs.map (·.1) = ks at hk hl2 ⊢
      induction ks generalizing ys with
      | nil =>
        cases ys with
        | nil => exact .nil
        | cons y ys => cases hl2
      | cons k ks ih =>
        cases ys with
        | nil => cases hl2
        | cons y ys =>
          obtain ⟨b, e1, e2⟩ := hk 0 k rfl
          cases e1
          exact .cons (rep_tK e2) (ih ys (fun j k hj => hk (j + 1) k hj) (by simpa using hl2))
  · cases g
end
section
variable {X : Cx} {e : Expr} {pos p : Pos} {gs : Co (List Opd)}
theorem ef_listT (hm : X.mg "list" = none) (ha : EBs X [e] gs) (hc : X.calm = true := by rfl) (hg : Gl X "list" := by rfl) (he : starEach [e] X.env = (false, eval e X.env) :: starEach [] X.env := by rfl) (hpl : (backTo pos (starEach [] X.env)).any (·.1) = false := by rfl) : EF X (.Call (.Name "list" p) [e] [] pos) (asL (eCall listTD gs)) :=
  ef_callTy (cr_listT hc) cf_listT hm rfl ha hg (by decide) (by decide) he hpl
end
end PD
namespace PD
open PySem PySem.Spec PyProof.Rows L2
variable [TabC]
abbrev PX : Type := Addr × Addr × List Key × V
def mergePX (acc : List (List Key × V)) (ps : List PX) : List (List Key × V) := ps.foldl (fun acc x => L2.putK acc x.2.2.1 x.2.2.2) acc
def rDictX (K : PySem.W.Frag) : List V → Hp → VK → Prop := fun xs H Q => ∃ (p : Addr) (o : Obj) (ps : List PX), xs = [.ref p] ∧ H p = some (.frz o (.tup (ps.map fun x => V.ref x.1))) ∧ o.dict = none ∧
  (∀ x ∈ ps, SqT K H x.1 [V.ref x.2.1, x.2.2.2] ∧ H x.2.1 = some (.tup (x.2.2.1.map kV))) ∧ ∀ D, H D = none → Q (.ref D) (upd H D (.dT (mergePX [] ps)))
theorem mergePX_len : ∀ (ps : List PX) (acc : List (List Key × V)), (mergePX acc ps).length ≤ acc.length + ps.length
  | [], acc => Nat.le_refl _
  | p :: ps, acc => by
    have h1 := mergePX_len ps (L2.putK acc p.2.2.1 p.2.2.2)
    have h2 := L2.length_putK acc p.2.2.1 p.2.2.2
    show (mergePX (L2.putK acc p.2.2.1 p.2.2.2) ps).length ≤ _
    rw [List.length_cons]
    omega
def RPX (H : Hp) (h : Heap) (x : PX) (q : List Key × Addr × Value) : Prop := x.2.2.1 = q.1 ∧ x.2.1 = q.2.1 ∧ H q.2.1 = some (.tup (q.1.map kV)) ∧ RelV x.2.2.2 q.2.2 ∧ PairAt h x.1 (.ref q.2.1) q.2.2
theorem kt_merge {H : Hp} {h : Heap} {ps : List PX} {qs : List (List Key × Addr × Value)} (r : Paired (RPX H h) ps qs) : ∀ {acc : List (List Key × V)} {xs : List (List Key × Addr × Value)}, KT H acc xs → KT H (mergePX acc ps) (storedAllH xs qs) := by
  induction r with
  | nil => exact fun k => k
  | @cons p q ps qs hq t ih =>
    intro acc xs k
    obtain ⟨h1, h2, h3, h4, _⟩ := hq
    have k2 := k.put q.1 h3 h4
    rw [← h1] at k2
    have := ih k2
    show KT H (mergePX (L2.putK acc p.2.2.1 p.2.2.2) ps) (storedAllH (storedH xs q.1 q.2.1 q.2.2) qs)
    rw [← h1]
    exact this
section
variable {X : Cx}
theorem rpx_of {pins : List (Addr × Obj)} {σ : L2.St} {H : Hp} {s : Shared} (I : Inv X pins σ H s) : ∀ (ps : List PX), (∀ x ∈ ps, SqT X.K H x.1 [V.ref x.2.1, x.2.2.2] ∧ H x.2.1 = some (.tup (x.2.2.1.map kV))) →
    ∃ qs : List (List Key × Addr × Value), Paired (RPX H s.heap) ps qs
  | [], _ => ⟨[], .nil⟩
  | x :: ps, h => by
    obtain ⟨qs, hq⟩ := rpx_of I ps fun y hy => h y (List.mem_cons_of_mem _ hy)
    obtain ⟨h1, h2⟩ := h x List.mem_cons_self
    obtain ⟨its, r, p, _⟩ := I.tuple h1
    obtain ⟨u1, u2, rfl, r1, r2⟩ := vals2 r
    cases (show u1 = Value.ref x.2.1 from r1)
    exact ⟨(x.2.2.1, x.2.1, u2) :: qs, .cons ⟨rfl, rfl, h2, r2, .inl p⟩ hq⟩
theorem paired_get {α β : Type} {R : α → β → Prop} {xs : List α} {ys : List β} (r : Paired R xs ys) : ∀ {i : Nat} {y : β}, ys[i]? = some y → ∃ x, xs[i]? = some x ∧ R x y := by
  induction r with
  | nil => intro i y h; simp at h
  | @cons p q ps qs hq t ih =>
    intro i y h
    cases i with
    | zero => rw [List.getElem?_cons_zero] at h; cases h; exact ⟨p, rfl, hq⟩
    | succ i => rw [List.getElem?_cons_succ] at h; rw [List.getElem?_cons_succ]; exact ih h
theorem call_dictX (hcalm : X.calm = true) (hu : X.A.units + 65 < cLine) : CallR X (.type "dict") (rDictX X.K) := by
  intro pins s σ H xs us Q I r q
  obtain ⟨p, o, ps, rfl, hp, hdn, hps, q⟩ := q
  obtain ⟨u, rfl, rx⟩ := r.one
  cases rx
  obtain ⟨hobj, hz, its, r, o2, ho2, hc2, n, hd2⟩ := (show s.heap.get? p = some o ∧ (ps.map fun x => V.ref x.1).length ≤ sizeLine ∧ ∃ its, Vals (ps.map fun x => V.ref x.1) its ∧ IsTup s.heap p its.toArray from I.hok _ _ hp)
  obtain ⟨qs, hq⟩ := rpx_of I ps hps
  have lq : ps.length = qs.length := paired_len hq
  have li : its.length = ps.length := by rw [← r.length, List.length_map]
  rw [List.length_map] at hz
  have e12 : o = o2 := Option.some.inj (hobj.symm.trans ho2)
  subst e12
  have P := PairArg.tuple (prog := X.prog) (w := X.w) p its.toArray (fun i => (ps[i]?.map (·.1)).getD 0) (qs.map fun q => (Value.ref q.2.1, q.2.2))
  have OK : PlainSeq "tuple" s.heap p its.toArray ∧ PairItems s.heap its.toArray (fun i => (ps[i]?.map (·.1)).getD 0) (qs.map fun q => (Value.ref q.2.1, q.2.2)) := by
    refine ⟨⟨o, n, hobj, hc2, hdn, hd2⟩, by rw [List.size_toArray, List.length_map, li, lq], fun j k v hj => ?_⟩
    rw [List.getElem?_map] at hj
    obtain ⟨q', hq', e⟩ := Option.map_eq_some_iff.mp hj
    cases e
    obtain ⟨x, hx, rx⟩ := paired_get hq hq'
    have ex : (ps.map fun x => V.ref x.1)[j]? = some (V.ref x.1) := by rw [List.getElem?_map, hx]; rfl
    obtain ⟨w, hw, hw'⟩ := Vals.get r ex
    cases (show w = Value.ref x.1 from hw')
    refine ⟨?_, ?_⟩
    · rw [List.getElem?_toArray, hw]
      show _ = some (Value.ref ((ps[j]?.map (·.1)).getD 0))
      rw [hx]
      rfl
    · show PairAt s.heap ((ps[j]?.map (·.1)).getD 0) _ _
      rw [hx]
      exact rx.2.2.2.2
  refine call_dict_pairsH (knd := tupleKind (mixKind X.prog X.w)) (ps := qs) P (I.ok.hd hcalm) ?_ OK ⟨by rw [List.length_map], fun i key v h => ?_⟩ (fun h' hk x hx => ?_) (by rw [List.length_map, ← lq]; exact hz) fun h' tk dd hk => ?_
  · show X.A.units + 1 + 1 < cLine
    omega
  · rw [show (PairRel (qs.map fun q => (Value.ref q.2.1, q.2.2)) i key v) = ((qs.map fun q => (Value.ref q.2.1, q.2.2))[i]? = some (key, v)) from rfl, List.getElem?_map] at h
    obtain ⟨q', hq', e⟩ := Option.map_eq_some_iff.mp h
    cases e
    exact ⟨q'.1, q'.2.1, hq', rfl⟩
  · obtain ⟨j, hj, ej⟩ := List.getElem_of_mem hx
    obtain ⟨y, _, ry⟩ := paired_get hq (List.getElem?_eq_getElem hj)
    rw [ej] at ry
    exact tupleKind_stays.stays (fun b o vs n e _ => hk b o (Nat.ne_of_lt (Heap.lt_size e)) (fun z => nomatch z) e) (key_of I.hok ry.2.2.1)
  · obtain ⟨od, es, ep, ho, h2, h3, h4, _, h5⟩ := dd
    have hD := I.hok.fresh (Nat.le_refl s.heap.objs.size)
    have hb : (s.heap.objs.size == sysModules) = false := by
      exact beq_eq_false_iff_ne.mpr (Nat.ne_of_gt I.big)
    refine ⟨.ref s.heap.objs.size, upd H s.heap.objs.size (.dT (mergePX [] ps)), I.laid (t' := tk) (fun b o e => hk b o (fun z => nomatch z) e) (Nat.le_refl _) ?_, rfl, q _ hD⟩
    have hkt : KT H (mergePX [] ps) (storedAllH [] qs) := kt_merge hq .nil
    refine ⟨?_, hb, storedAllH [] qs, KT.keeps hkt fun b ys e => ?_, od, es, ep, ho, h2, h3, h4, h5⟩
    · have := mergePX_len ps []
      simp at this
      omega
    · rw [upd_ne (fun z => by rw [z, hD] at e; cases e)]
      exact e
end
def pairsXD : List D → Option (List (List Key × D))
  | [] => some []
  | .tup [k, v] :: ds => (keyT k).bind fun kk => (pairsXD ds).map ((kk, v) :: ·)
  | _ :: _ => none
def mergeDT (acc : List (List Key × D)) (ps : List (List Key × D)) : List (List Key × D) := ps.foldl (fun acc x => putD acc x.1 x.2) acc
def dictXD : List D → Option D
  | [.xt ds] => (pairsXD ds).map fun ps => .dt (mergeDT [] ps)
  | _ => none
section
variable {K : PySem.W.Frag} {mg : Str → Option Value} {E : Ev} {H : Hp}
theorem pairsX_of : ∀ {vs : List V} {ds : List D} {kds : List (List Key × D)}, RepL K mg E H vs ds → pairsXD ds = some kds →
    ∃ ps : List PX, vs = ps.map (fun x => V.ref x.1) ∧ (∀ x ∈ ps, SqT K H x.1 [V.ref x.2.1, x.2.2.2] ∧ H x.2.1 = some (.tup (x.2.2.1.map kV))) ∧ RepK K mg E H (ps.map fun x => (x.2.2.1, x.2.2.2)) kds
  | _, _, kds, .nil, h => by cases h; exact ⟨[], rfl, (fun x hx => nomatch hx), .nil⟩
  | _, _, kds, .cons (d := d) r t, h => by
    unfold pairsXD at h
    split at h
    · rename_i e; cases e
    · rename_i k v ds e
      cases e
      obtain ⟨kk, h1, h⟩ := Option.bind_eq_some_iff.mp h
      obtain ⟨ms, h2, rfl⟩ := Option.map_eq_some_iff.mp h
      obtain ⟨ps, rfl, h3, h4⟩ := pairsX_of t h2
      cases r with
      | @tup a ws _ ha ra =>
        cases ra with
        | cons r1 t1 =>
          cases t1 with
          | cons r2 t2 =>
            cases t2
            obtain ⟨b, rfl, hb⟩ := rep_keyT r1 h1
            refine ⟨(a, b, kk, _) :: ps, rfl, fun x hx => ?_, .cons r2 h4⟩
            rcases List.mem_cons.mp hx with rfl | hx
            · exact ⟨SqT.of ha, hb⟩
            · exact h3 x hx
    · cases h
theorem merge_rep : ∀ {ps : List PX} {kds : List (List Key × D)} {acc : List (List Key × V)} {dcc : List (List Key × D)}, RepK K mg E H acc dcc → RepK K mg E H (ps.map fun x => (x.2.2.1, x.2.2.2)) kds → RepK K mg E H (mergePX acc ps) (mergeDT dcc kds)
  | [], [], acc, dcc, r, _ => r
  | [], k :: kds, acc, dcc, r, h => by have := h.k; simp at this
  | p :: ps, [], acc, dcc, r, h => by have := h.k; simp at this
  | p :: ps, kd :: kds, acc, dcc, r, h => by
    have hk := h.k
    have hv := h.v
    simp only [List.map_cons, List.cons.injEq] at hk
    rw [List.map_cons, List.map_cons, List.map_cons] at hv
    cases hv with
    | cons r1 t1 =>
      have r2 := RepK.put r p.2.2.1 r1
      show RepK K mg E H (mergePX (L2.putK acc p.2.2.1 p.2.2.2) ps) (mergeDT (putD dcc kd.1 kd.2) kds)
      rw [← hk.1]
      exact merge_rep r2 ⟨hk.2, t1⟩
end
section
variable {X : Cx} {e : Expr} {pos p : Pos} {gs : Co (List Opd)}
theorem ef_dictX (hm : X.mg "dict" = none) (hu : X.A.units + 65 < cLine) (ha : EBs X [e] gs) (hc : X.calm = true := by rfl) (hg : Gl X "dict" := by rfl) (he : starEach [e] X.env = (false, eval e X.env) :: starEach [] X.env := by rfl) (hpl : (backTo pos (starEach [] X.env)).any (·.1) = false := by rfl) :
    EF X (.Call (.Name "dict" p) [e] [] pos) (eCall dictXD gs) :=
  PE.imp (pe_callTy (call_dictX hc hu) hg hm (by rfl) ha (by decide) (by decide) he hpl) fun σ H Q ⟨W, m, S, d, m', hf, q⟩ => by
    obtain ⟨os, ds, e1, e2, e3⟩ := eCall_ok hf
    refine ⟨W, m, S, os, m', e1, fun vs ob' H' A rs => ?_⟩
    unfold dictXD at e3
    split at e3
    · obtain ⟨kds, h1, e3⟩ := Option.map_eq_some_iff.mp e3
      cases e3
      have r := rs.view A.2 e2
      cases r with
      | cons r t =>
        cases t
        obtain ⟨a, o, ws, rfl, ha, ho, ra⟩ := r.xt
        obtain ⟨ps, rfl, h2, h3⟩ := pairsX_of ra h1
        have rk := merge_rep (RepK.nil (K := X.K) (mg := X.mg)) h3
        exact ⟨a, o, ps, rfl, ha, ho, h2, fun p hp => fin_dt A hp rk.k rk.v q⟩
    · cases e3
end
end PD
namespace PD
open PySem PySem.Spec PyProof.Rows L2
variable [TabC]
theorem hu0 {A : Around} {k : Nat} (hr : Room k A) : A.units < cLine := by have := hr.un; omega
end PD
namespace PD
open PySem PySem.Spec PyProof.Rows L2
variable [TabC]
mutual
def D.noOb : D → Bool
  | .obj _ => false
  | .tup xs => D.noObs xs
  | .xt xs => D.noObs xs
  | .lst xs => D.noObs xs
  | .dk kvs => D.noObK kvs
  | .dt kvs => D.noObT kvs
  | _ => true
def D.noObs : List D → Bool
  | [] => true
  | d :: ds => D.noOb d && D.noObs ds
def D.noObK : List (Key × D) → Bool
  | [] => true
  | (_, d) :: ds => D.noOb d && D.noObK ds
def D.noObT : List (List Key × D) → Bool
  | [] => true
  | (_, d) :: ds => D.noOb d && D.noObT ds
end
theorem noObK_map : ∀ kvs : List (Key × D), D.noObK kvs = D.noObs (kvs.map (·.2))
  | [] => by unfold D.noObK; exact (by unfold D.noObs; rfl)
  | (k, d) :: ds => by rw [List.map_cons]; unfold D.noObK D.noObs; rw [noObK_map ds]
theorem noObT_map : ∀ kvs : List (List Key × D), D.noObT kvs = D.noObs (kvs.map (·.2))
  | [] => by unfold D.noObT; exact (by unfold D.noObs; rfl)
  | (k, d) :: ds => by rw [List.map_cons]; unfold D.noObT D.noObs; rw [noObT_map ds]
section
variable {K : PySem.W.Frag} {mg : Str → Option Value} {E E' : Ev} {H : Hp}
mutual
theorem Rep.noOb (x : ∀ a, E'.N a → E.N a) : ∀ {v : V} {d : D}, Rep K mg E H v d → d.noOb = true → Rep K mg E' H v d
  | _, _, .non, _ => .non
  | _, _, .bl b, _ => .bl b
  | _, _, .int b, _ => .int b
  | _, _, .str b, _ => .str b
  | _, _, .ty b, _ => .ty b
  | _, _, .tup h r, n => .tup h (RepL.noOb x r (by unfold D.noOb at n; exact n))
  | _, _, .xt h k r, n => .xt h k (RepL.noOb x r (by unfold D.noOb at n; exact n))
  | _, _, .lst h q r, n => .lst h (fun z => q (x _ z)) (RepL.noOb x r (by unfold D.noOb at n; exact n))
  | _, _, .dk h q l r, n => .dk h (fun z => q (x _ z)) l (RepL.noOb x r (by unfold D.noOb at n; rw [← noObK_map]; exact n))
  | _, _, .dt h q l r, n => .dt h (fun z => q (x _ z)) l (RepL.noOb x r (by unfold D.noOb at n; rw [← noObT_map]; exact n))
  | _, _, .scr ns h q, _ => .scr ns h (fun z => q (x _ z))
  | _, _, .scrK ns h, _ => .scrK ns h
  | _, _, .obj n h, q => by unfold D.noOb at q; cases q
  | _, _, .fn h k, _ => .fn h k
  | _, _, .lam hs ht hj h n, _ => .lam hs ht hj h (fun z => n (x _ z))
theorem RepL.noOb (x : ∀ a, E'.N a → E.N a) : ∀ {v : List V} {d : List D}, RepL K mg E H v d → D.noObs d = true → RepL K mg E' H v d
  | _, _, .nil, _ => .nil
  | _, _, .cons h r, n => by
    unfold D.noObs at n
    rw [Bool.and_eq_true] at n
    exact .cons (Rep.noOb x h n.1) (RepL.noOb x r n.2)
end
end
def cutF (F : Fd) : Fd := fun ds obs => match F ds obs with
  | some (r, obs') => if (r.noOb && (obs'.take obs.length).all D.noObs) = true then some (r, obs'.take obs.length) else none
  | none => none
theorem CEnd.cut {K : PySem.W.Frag} {mg : Str → Option Value} {E : Ev} {H H' : Hp} {r : D} {obs' : List (List D)} {v : V} {ob' : Nat → Addr} {n : Nat} (hn : E.no = n) (h1 : r.noOb = true) (h2 : (obs'.take n).all D.noObs = true) (c : CEnd K mg E H r obs' false v ob' H') :
    CEnd K mg E H r (obs'.take n) false v ob' H' := by
  obtain ⟨x, inj, cells, rv⟩ := c
  have hl : n ≤ obs'.length := by rw [← hn]; exact x.no
  have hl2 : (obs'.take n).length = n := by rw [List.length_take]; omega
  have sub : ∀ a, (E.grow ob' (obs'.take n).length).N a → (E.grow ob' obs'.length).N a := fun a z => by
    rw [hl2] at z
    rcases z with z | ⟨k, hk, e⟩
    · exact .inl z
    · exact .inr ⟨k, by omega, e⟩
  refine ⟨⟨?_, x.ob, fun a z => x.n2 a (sub a z), fun a z => ?_, x.dm, x.keep0, x.tup, x.frz, x.tbl⟩, fun i j hi hj e => inj i j (by omega) (by omega) e, fun i ds hi => ?_, rv.noOb sub h1⟩
  · show E.no ≤ (obs'.take n).length
    rw [hl2, hn]; exact Nat.le_refl _
  · obtain ⟨k, hk, e⟩ := z
    rw [hl2] at hk
    exact x.m2 a ⟨k, by omega, e⟩
  · have hin : i < n := by
      have := (List.getElem?_eq_some_iff.mp hi).1
      omega
    have hmem : ds ∈ obs'.take n := List.mem_of_getElem? hi
    rw [List.getElem?_take_of_lt hin] at hi
    obtain ⟨vs, hv, rl⟩ := cells i ds hi
    exact ⟨vs, hv, rl.noOb sub (List.all_eq_true.mp h2 ds hmem)⟩
theorem Has.cut {P : Program} {w : World} {K : PySem.W.Frag} {mg : Str → Option Value} {base : Heap} {k : Nat} {x : Str} {F : Fd} (h : Has P w K mg base k x F false) : Has P w K mg base k x (cutF F) false := by
  obtain ⟨f, fd, ps, h1, h2, h3, h4⟩ := h.ex
  refine ⟨f, fd, ps, h1, h2, h3.imp fun vs H Q E q => ?_, h4⟩
  obtain ⟨Ev, obs, ds, r, obs', n, rl, hf, q⟩ := q
  unfold cutF at hf
  cases e : F ds obs with
  | none => rw [e] at hf; cases hf
  | some p =>
    obtain ⟨r1, o1⟩ := p
    rw [e] at hf
    dsimp only at hf
    split at hf
    · rename_i hc
      cases hf
      rw [Bool.and_eq_true] at hc
      exact ⟨Ev, obs, ds, _, _, n, rl, e, fun v ob' H' c => q v ob' H' (c.cut n.no hc.1 hc.2)⟩
    · cases hf
end PD
namespace PD
open PySem PySem.Spec PyProof.Rows L2
variable [TabC]
section
variable {P : Program} {w : World} {K : PySem.W.Frag} {mg : Str → Option Value} {base : Heap}
theorem cend_of {W' : Wd} {Ev : Ev} {H H' : Hp} {σ' : L2.St} {m' : M} {v : V} {d : D} (la : Lat ⟨Ev.N, Ev, H, fun _ => none, Ev.ob⟩ W') (S' : Sit K mg W' σ' H' m') (rv : Rep K mg (W'.ev m'.obs.length) H' v d) : CEnd K mg Ev H d m'.obs false v W'.ob H' := by
  obtain ⟨e1, e2, e3⟩ := la
  have le : (W'.ev m'.obs.length).Le (Ev.grow W'.ob m'.obs.length) := ⟨Nat.le_refl _, fun _ _ => rfl, fun a z => z.elim (fun z => .inl (e1 ▸ z)) fun z => .inr (.inr z)⟩
  have x := S'.ext
  rw [e2, e3] at x
  exact ⟨⟨x.no, x.ob, fun a z => x.n2 a (le.n a z), fun a z => x.m2 a (.inr z), x.dm, x.keep0, x.tup, x.frz, x.tbl⟩, S'.obi, fun i ds z => (S'.ob i ds z).le le, rv.le le⟩
end
end PD
namespace PD
open PySem PySem.Spec PyProof.Rows L2
variable [TabC]
theorem among_keep {pos : Pos} {c : Value} : ∀ {l m : List Value}, TriplesOk l → codeAmong pos l = some c → codeAmong pos (l ++ m) = some c := by
  intro l m h hc
  fun_induction TriplesOk l with
  | case1 => simp [codeAmong] at hc
  | case2 a t b u x rest ih =>
    simp only [List.cons_append, codeAmong] at hc ⊢
    split at hc
    · rename_i z; rw [if_pos z]; exact hc
    · rename_i z; rw [if_neg z]; exact ih h hc
  | case3 l h1 h2 => exact h.elim
theorem tabJ_ne {H : Hp} {a P : Addr} {q : Str} {j : Option (Pos × Value)} {o : HO} (t : TabJ H P q j) (n1 : P ≠ a) (n2 : ∀ b q, H a ≠ some (LamX.CodeO b q)) : TabJ (upd H a o) P q j := by
  obtain ⟨⟨ps, h1, h2, h3⟩, h4⟩ := t
  refine ⟨⟨ps, (upd_ne n1).trans h1, h2, fun pos cv hc => ?_⟩, fun pos cv z => ?_⟩
  · obtain ⟨c, e1, e2⟩ := h3 pos cv hc
    exact ⟨c, e1, (upd_ne (fun z : c = a => n2 c q (by rw [← z]; exact e2))).trans e2⟩
  · obtain ⟨ps, e1, e2⟩ := h4 pos cv z
    exact ⟨ps, (upd_ne n1).trans e1, e2⟩
theorem tabJ_more {H : Hp} {P c : Addr} {q : Str} {j : Option (Pos × Value)} {ps : Array Value} {pos : Pos} (t : TabJ H P q j) (hP : H P = some (.tbl ps)) (hc : H c = none) (hn : codeAmong pos ps.toList = none) :
    TabJ (upd (upd H P (.tbl (ps ++ #[rawInt pos.line, rawInt pos.col, .ref c]))) c (LamX.CodeO c q)) P q j ∧ TabJ (upd (upd H P (.tbl (ps ++ #[rawInt pos.line, rawInt pos.col, .ref c]))) c (LamX.CodeO c q)) P q (some (pos, .ref c)) := by
  obtain ⟨⟨ps', h1, h2, h3⟩, h4⟩ := t
  rw [hP] at h1
  cases h1
  have nc : P ≠ c := fun z => by rw [← z, hP] at hc; cases hc
  have eP : upd (upd H P (.tbl (ps ++ #[rawInt pos.line, rawInt pos.col, .ref c]))) c (LamX.CodeO c q) P = some (.tbl (ps ++ #[rawInt pos.line, rawInt pos.col, .ref c])) := by rw [upd_ne nc, upd_same]
  have eL : (ps ++ #[rawInt pos.line, rawInt pos.col, .ref c]).toList = ps.toList ++ [rawInt pos.line, rawInt pos.col, .ref c] := by simp
  have ts : LamX.TabS (upd (upd H P (.tbl (ps ++ #[rawInt pos.line, rawInt pos.col, .ref c]))) c (LamX.CodeO c q)) P q := by
    refine ⟨_, eP, by rw [eL]; exact PySem.TriplesOk_snoc _ _ _ _ h2, fun p' cv hv => ?_⟩
    rw [eL] at hv
    rcases LamX.among_app _ h2 hv with z | z
    · obtain ⟨c0, e1, e2⟩ := h3 p' cv z
      refine ⟨c0, e1, ?_⟩
      rw [upd_ne (fun z : c0 = c => by rw [z, hc] at e2; cases e2), upd_ne (fun z : c0 = P => by rw [z, hP] at e2; unfold LamX.CodeO at e2; cases e2)]
      exact e2
    · exact ⟨c, z, upd_same⟩
  refine ⟨⟨ts, fun p' cv z => ?_⟩, ts, fun p' cv z => ?_⟩
  · obtain ⟨ps', e1, e2⟩ := h4 p' cv z
    rw [hP] at e1
    cases e1
    exact ⟨_, eP, by rw [eL]; exact among_keep h2 e2⟩
  · cases z
    exact ⟨_, eP, by rw [eL]; exact PySem.codeAmong_snoc _ h2 hn⟩
section
variable {K : PySem.W.Frag} {mg : Str → Option Value} {W : Wd} {σ : L2.St} {H H2 : Hp} {m : M}
theorem Sit.tabled (S : Sit K mg W σ H m) (at_ : ∀ b o, H b = some o → (∀ ps, o ≠ .tbl ps) → H2 b = some o) (dm : ∀ b o, H b = some o → ∃ o', H2 b = some o') (tb : ∀ P q j, TabC.T P q → TabJ H P q j → TabJ H2 P q j) : After K mg W σ H m W.ob H2 m := by
  have x : Ext (W.ev m.obs.length) H (W.ev m.obs.length) H2 := ⟨Nat.le_refl _, fun _ _ => rfl, fun _ h => .inl h, fun _ h => .inl h, dm, fun b o _ nt e => at_ b o e nt, fun b xs e => at_ b _ e (fun _ z => nomatch z), fun b o u e => at_ b _ e (fun _ z => nomatch z), tb⟩
  refine ⟨x, S.step x fun a o e z => at_ a o e fun ps w => ?_⟩
  rw [w] at e
  rcases z with ⟨i, hi⟩ | ⟨n, hn, rfl⟩
  · obtain ⟨d, hd⟩ := S.owi i a hi
    obtain ⟨b, hb, _, cc⟩ := S.ow i d hd
    rw [hi] at hb
    cases hb
    exact cc.nt ps e
  · exact (S.ob n _ (List.getElem?_eq_getElem hn)).nt ps e
end
end PD
namespace PD
open PySem PySem.Spec PyProof.Rows L2
variable [TabC]
section
variable {P : Program} {w : World} {K : PySem.W.Frag} {mg : Str → Option Value} {base : Heap}
theorem fn_okC {x qual : Str} {st : Stmt} {f : Addr} {N ps : List Str} {k : Nat} {body : Co Flow'} {fr : Bool} {oc kV doc pm cdv ct : Value} {od an : Option Addr} {osl : Array (Option Value)}
    (lk : K.lookup f = some ⟨oc, od, .func (PySem.W.fnOf x qual (defArgs st) (defBody st) (defScope st) .none kV doc pm an cdv ct), osl⟩) (hcd : PySem.W.codeIn K cdv qual = true) (S : FnScope N ps (defScope st))
    (hb : ∀ (A : Around) (outer : List Env) (s : Shared) (H : Hp) (E : XK), Room k (A.deeper (envOfC qual (defScope st) s.heap.objs.size f cdv)) → SSs (BX P w K mg base N qual st f cdv A outer s H E) (defBody st) body) :
    FnOk P w K mg base CX0 (k + 1) f (PySem.W.fnOf x qual (defArgs st) (defBody st) (defScope st) .none kV doc pm an cdv ct) ps (spD K mg (runF N.length ps.length body fr) fr) := by
  have hpl : ps.length ≤ N.length := by have := congrArg List.length S.pre; rw [List.length_take] at this; omega
  have key : ∀ {vs : List V} {H : Hp} {Q : VK} {E : XK}, spD K mg (runF N.length ps.length body fr) fr vs H Q E → ∃ (Ev : Ev) (obs : List (List D)) (ds : List D) (fl : Flow') (m' : M), ds.length = ps.length ∧ Ent K mg Ev H obs ∧ RepL K mg Ev H vs ds ∧
      body ⟨ds.map Slot.pl ++ List.replicate (N.length - ps.length) .un, obs⟩ = .ok fl m' ∧ ((fr = false ∧ fl = .nx ∧ ∀ v ob' H', CEnd K mg Ev H .non m'.obs false v ob' H' → Q v H') ∨ (∃ d, fr = false ∧ fl = .rt d ∧ ∀ v ob' H', CEnd K mg Ev H d m'.obs false v ob' H' → Q v H') ∨
        ∃ d, fr = true ∧ fl = .rf d ∧ ∀ v ob' H', CEnd K mg Ev H d m'.obs true v ob' H' → Q v H') := by
    rintro vs H Q E ⟨Ev, obs, ds, r, obs', n, rl, hf, q⟩
    unfold runF at hf
    split at hf
    · rename_i hl
      split at hf
      · rename_i fl m' eb
        refine ⟨Ev, obs, ds, fl, m', hl, n, rl, eb, ?_⟩
        split at hf
        · cases hf; exact .inl ⟨rfl, rfl, q⟩
        · cases hf; exact .inr (.inl ⟨_, rfl, rfl, q⟩)
        · cases hf; exact .inr (.inr ⟨_, rfl, rfl, q⟩)
        · cases hf
      · cases hf
    · cases hf
  refine fn_of lk hcd S (fun vs H Q E h => ?_) fun A outer s H vs Q E hr h => ?_
  · obtain ⟨Ev, obs, ds, fl, m', hl, n, rl, _⟩ := key h
    exact rl.length.trans hl
  · obtain ⟨Ev, obs, ds, fl, m', hl, n, rl, eb, q⟩ := key h
    refine ⟨_, (hb A outer s H E hr).nox, ?_⟩
    have S0 := n.sit (N := N) rl (by omega)
    rw [hl] at S0
    refine ⟨_, _, S0, fl, m', eb, ?_⟩
    rcases q with ⟨_, rfl, q⟩ | ⟨d, _, rfl, q⟩ | ⟨d, _, rfl, q⟩
    · exact fun W' σ' H' la S' => q _ W'.ob H' (cend_of la S' .non)
    · exact fun W' σ' H' v la S' rv => q v W'.ob H' (cend_of la S' rv)
    · intro W' σ' H' a la nN h0 S' c
      obtain ⟨e1, e2, e3⟩ := la
      have hn : H a = none := by
        rcases h0 with h0 | h0
        · rw [e2] at h0
          obtain ⟨i, hi, rfl⟩ := n.mx a h0
          have x := S'.ext
          exact absurd (.inr (.inr ⟨i, Nat.lt_of_lt_of_le hi (by have := x.no; rw [e2] at this; exact this), by have := x.ob i (by rw [e2]; exact hi); rw [e2] at this; exact this⟩)) nN
        · rw [e3] at h0; exact h0
      have le : ((W'.add a).ev m'.obs.length).Le ((Ev.grow W'.ob m'.obs.length).addN (· = a)) := ⟨Nat.le_refl _, fun _ _ => rfl, fun b z => by
        rcases z with (z | z) | z
        · exact .inl (.inl (e1 ▸ z))
        · exact .inr (.inr z)
        · exact .inl (.inr z)⟩
      have x : Ext W'.E0 W'.H0 ((W'.add a).ev m'.obs.length) H' := S'.ext
      rw [e2, e3] at x
      refine q _ W'.ob H' ⟨⟨x.no, x.ob, fun b z => x.n2 b (z.elim (fun z => .inl (.inl (e1 ▸ z))) fun z => .inr (.inr z)), fun b z => x.m2 b (.inr z), x.dm, x.keep0, x.tup, x.frz, x.tbl⟩, S'.obi, a, rfl, hn, fun z => nN ?_, fun i ds z => (S'.ob i ds z).le le, c.le le⟩
      rcases z with z | z
      · exact .inl (e1 ▸ z)
      · exact .inr (.inr z)
theorem has_mkC {x : Str} {st : Stmt} {f : Addr} {N ps : List Str} {k : Nat} {body : Co Flow'} {oc kV doc pm cdv ct : Value} {od an : Option Addr} {osl : Array (Option Value)} (fr : Bool)
    (lk : K.lookup f = some ⟨oc, od, .func (PySem.W.fnOf x x (defArgs st) (defBody st) (defScope st) .none kV doc pm an cdv ct), osl⟩) (hcd : PySem.W.codeIn K cdv x = true) (kp : PySem.W.keepIn K (.ref f) = true)
    (m : mg x = some (.ref f)) (b : Binds K (PySem.W.fnOf x x (defArgs st) (defBody st) (defScope st) .none kV doc pm an cdv ct) ps []) (S : FnScope N ps (defScope st))
    (hb : ∀ (A : Around) (outer : List Env) (s : Shared) (H : Hp) (E : XK), Room k (A.deeper (envOfC x (defScope st) s.heap.objs.size f cdv)) → SSs (BX P w K mg base N x st f cdv A outer s H E) (defBody st) body) :
    Has P w K mg base (k + 1) x (runF N.length ps.length body fr) fr := ⟨f, _, ps, m, kp, fn_okC lk hcd S hb, b⟩
end
end PD
namespace PD
open PySem PySem.Spec PyProof.Rows L2
variable [TabC]
theorem walk_tabs {l : PySem.W.OpenLaw} {n k : Nat} {q : Program} {loose : List Str} {XP : (Str → Option Value) → Heap → Prop} {YP : World → Heap → Prop} {d : DefRec} {K : Params → PySem.W.Frag} {x : Str} (cs : List (Addr × Addr))
    (hn : l.most = some n) (hn2 : n ≤ sizeLine) (hn3 : n ≤ 63) (hdf : d.params.defaults = []) (hr : Room k callerA) (hY : ∀ (w : World) (h : Heap), YP w h → (K w.params).In h)
    (hcs : ∀ (w : World) (mean : ExcName → Option Value) (mg mb : Str → Option Value) (h : Heap), Top q (PySem.W.looseW q loose) mean mg mb h → (K w.params).In h → ∀ p ∈ cs, PySem.W.CodeHd h p.1 p.2 ∧ h.get? p.2 = some { cls := .none, data := .fields #[] })
    (nT : ∀ w : World, ∀ p ∈ cs, (K w.params).lookup p.2 = none) (hT : ∀ P q, TabC.T P q → ∃ p ∈ cs, p.2 = P)
    (F : ∀ (w : World) (mg : Str → Option Value) (fa : Addr) (h : Heap), (K w.params).In h → h.Ns mainGlobals mg → mg d.name = some (.ref fa) →
      ∃ fd : FuncData, (∀ (s : Shared) (u : Value), BindsTo s fd ⟨[u], []⟩ [(x, u)]) ∧ ∀ base : Heap, (K w.params).In base → base.Ns mainGlobals mg → (∀ p ∈ cs, LamX.TabB base mg p.1 p.2) → FnOk l.prog w (K w.params) mg base CX0 k fa fd [x] (spLaw (K w.params))) :
    PySem.W.WalkO q loose XP YP l.row.toRowW d [] (fun f vs => PySem.call f vs) := by
  refine Att.attach_callB hn hdf fun w s₀ s₁ mg mb fa o pm cd doc a vs ns G Y ho hd hcd hmg hobj hints hlen hbits hg => ?_
  have KX := hY w _ Y
  obtain ⟨fd, hb, hF⟩ := F w mg fa _ KX G.T.g hmg
  have hc := hcs w _ mg mb _ G.T KX
  exact LamX.law_callTs KX G.T.g G.T.b G.T.builtins G.T.nolimit hg (fun p hp => (hc p hp).2) (nT w) (fun p hp => (hc p hp).1) G.T.bmain hobj hints (Nat.le_trans hlen hn2) hr hF hb
    (fun H hH hS => ⟨a, ns, rfl, hS, Nat.le_trans hlen hn3, fun _ => rfl, fun P q t => by
      obtain ⟨p, hp, rfl⟩ := hT P q t
      exact ⟨LamX.TabS.nil (hH p hp), fun _ _ z => nomatch z⟩⟩) fun H e s' z => z
end PD
namespace PD
open PySem PySem.Spec PyProof.Rows L2
variable [TabC]
def LamOC (f c : Addr) (q : Str) (y : LamSyn) (clos : List (Str × Addr)) (pm ctv : Value) : HO := .ext fun h => h.get? f = some (PySem.W.kla_obj "<lambda>" q y.params y.body y.scope clos pm c ctv)
structure LamMade (H H2 : Hp) (f c : Addr) (q : Str) (y : LamSyn) (clos : List (Str × Addr)) (pm ctv : Value) : Prop where
  at_ : ∀ b o, H b = some o → (∀ ps, o ≠ .tbl ps) → H2 b = some o
  dm : ∀ b o, H b = some o → ∃ o', H2 b = some o'
  tb : ∀ P q j, TabC.T P q → TabJ H P q j → TabJ H2 P q j
  fn : H2 f = some (LamOC f c q y clos pm ctv)
  cd : H2 c = some (LamX.CodeO c q)
def tLamC (T : Hp → Prop) (q : Str) (y : LamSyn) (clos : List (Str × Addr)) : TE := fun σ H Q => T H ∧ ∀ f c pm ctv H2, LamMade H H2 f c q y clos pm ctv → Q (.ref f) H2
section
variable {X : Cx} {c P : Addr} {q : Str} {params : Arguments} {body : Expr} {scope : Scope} {pos : Pos}
theorem pe_lamC (hT : TabC.T P q) (TB : LamX.TabB X.base X.mg c P) (hcode : X.env.code = .ref c) (hq : q = X.env.qual ++ "<lambda>") (hdef : defaultsOf params X.env = ([], [])) (hfree : ∀ y ∈ scope.names, y.2 = .free → ∃ c, X.env.cells.lookup y.1 = some c) :
    PE X (.Lambda params body scope pos) (tLamC TabAll q ⟨params, body, scope⟩ (cloFrom X.env.cells scope.names [])) := by
  subst hq
  refine ⟨fun pins s σ H Q I ⟨TA, k⟩ => ?_⟩
  obtain ⟨⟨ps, hP, ht, ha⟩, hj0⟩ := TA P _ hT
  have hclo := closure_ok (scope := scope) (env := X.env) hfree
  refine PySem.W.kla_eval hdef ?_
  have bP : s.heap.BuiltinsAt X.mg P := TB.bm.keeps I.bk
  have hP' : s.heap.get? P = some { cls := .none, data := .fields ps } := I.hok P _ hP
  cases hc : codeAmong pos ps.toList with
  | none =>
    refine PySem.W.kla_makeFunction (mg := X.mg) (c := c) (P := P) (ps := ps) hclo I.ok.glob (I.mod.glob.keeps I.bk) hcode (TB.code.keeps I.bk) hP' ht hc TB.gP bP fun c' ctv h' tk hx hge hlt hrec htb => ?_
    obtain ⟨c2, oc, xs, t, e2, hoc, hd, hv⟩ := hrec
    cases e2
    have nC : H c' = none := I.hok.fresh hge
    have I1 := LamX.inv_table (t' := tk) (q := X.env.qual ++ "<lambda>") (more := #[rawInt pos.line, rawInt pos.col, .ref c']) (h' := h') I hP hx htb hge ⟨oc, xs, t, hoc, hd, hv⟩
    obtain ⟨H1, hH1⟩ : ∃ H1, H1 = upd (upd H P (.tbl (ps ++ #[rawInt pos.line, rawInt pos.col, .ref c']))) c' (LamX.CodeO c' (X.env.qual ++ "<lambda>")) := ⟨_, rfl⟩
    rw [← hH1] at I1
    have nF : H1 h'.objs.size = none := I1.hok.fresh (Nat.le_refl _)
    have I2 := I1.laid (a := h'.objs.size) (h' := h'.push (PySem.W.kla_obj "<lambda>" (X.env.qual ++ "<lambda>") params body scope (cloFrom X.env.cells scope.names []) ((X.mg "__name__").getD .none) c' ctv)) (t' := tk) (o := LamOC h'.objs.size c' (X.env.qual ++ "<lambda>") ⟨params, body, scope⟩ (cloFrom X.env.cells scope.names []) ((X.mg "__name__").getD .none) ctv)
      (fun b u e => Heap.get?_push_of_some _ e) (Nat.le_refl _) ⟨Heap.get?_push_size _ rfl, ⟨_, Heap.get?_push_size _ rfl⟩, fun h1 h2 z st => st _ z⟩
    obtain ⟨j1, j2⟩ := tabJ_more (q := X.env.qual ++ "<lambda>") (j := none) (pos := pos) ⟨⟨ps, hP, ht, ha⟩, hj0⟩ hP nC hc
    have nPc : P ≠ c' := fun z => by rw [← z, hP] at nC; cases nC
    have at1 : ∀ b o, H b = some o → b ≠ P → H1 b = some o := fun b o e n => by rw [hH1, upd_ne (fun z : b = c' => by rw [z, nC] at e; cases e), upd_ne n]; exact e
    have P1 : H1 P = some (.tbl (ps ++ #[rawInt pos.line, rawInt pos.col, .ref c'])) := by rw [hH1, upd_ne nPc, upd_same]
    have nf : ∀ b o, H1 b = some o → b ≠ h'.objs.size := fun b o e z => by rw [z, nF] at e; cases e
    have c1 : H1 c' = some (LamX.CodeO c' (X.env.qual ++ "<lambda>")) := by rw [hH1, upd_same]
    refine ⟨.ref h'.objs.size, _, I2, rfl, k _ c' _ ctv _ ⟨fun b o e nt => ?_, fun b o e => ?_, fun P' q' j hT' t => ?_, upd_same, ?_⟩⟩
    · have e1 := at1 b o e fun z => by rw [z, hP] at e; exact nt ps (Option.some.inj e).symm
      rw [upd_ne (nf b o e1)]; exact e1
    · by_cases z : b = P
      · exact ⟨_, by rw [z, upd_ne (nf P _ P1)]; exact P1⟩
      · exact ⟨o, by rw [upd_ne (nf b o (at1 b o e z))]; exact at1 b o e z⟩
    · refine tabS_new ?_ nF
      rw [hH1]
      by_cases z : P' = P
      · subst z
        have := TabC.u _ _ _ hT' hT
        subst this
        exact (tabJ_more t hP nC hc).1
      · refine tabS_new (tabJ_ne t z fun b q w => by rw [hP] at w; unfold LamX.CodeO at w; cases w) ?_
        rw [upd_ne (Ne.symm nPc)]; exact nC
    · rw [upd_ne (nf _ _ c1)]; exact c1
  | some cv =>
    obtain ⟨c', e, hco⟩ := ha pos cv hc
    subst e
    refine PySem.W.kla_makeFunctionHit (mg := X.mg) (c := c) (P := P) (ps := ps) hclo I.ok.glob (I.mod.glob.keeps I.bk) hcode (TB.code.keeps I.bk) hP' ht hc bP fun ctv h' tk hx hsz => ?_
    have nF : H h'.objs.size = none := I.hok.fresh hsz
    have I2 := I.laid (a := h'.objs.size) (h' := h'.push (PySem.W.kla_obj "<lambda>" (X.env.qual ++ "<lambda>") params body scope (cloFrom X.env.cells scope.names []) ((X.mg "__name__").getD .none) c' ctv)) (t' := tk) (o := LamOC h'.objs.size c' (X.env.qual ++ "<lambda>") ⟨params, body, scope⟩ (cloFrom X.env.cells scope.names []) ((X.mg "__name__").getD .none) ctv)
      (fun b u e => Heap.get?_push_of_some _ (hx b u e)) hsz ⟨Heap.get?_push_size _ rfl, ⟨_, Heap.get?_push_size _ rfl⟩, fun h1 h2 z st => st _ z⟩
    have nf : ∀ b o, H b = some o → b ≠ h'.objs.size := fun b o e z => by rw [z, nF] at e; cases e
    have at1 : ∀ b o, H b = some o → upd H h'.objs.size (LamOC h'.objs.size c' (X.env.qual ++ "<lambda>") ⟨params, body, scope⟩ (cloFrom X.env.cells scope.names []) ((X.mg "__name__").getD .none) ctv) b = some o := fun b o e => by rw [upd_ne (nf b o e)]; exact e
    exact ⟨.ref h'.objs.size, _, I2, rfl, k _ c' _ ctv _ ⟨fun b o e _ => at1 b o e, fun b o e => ⟨o, at1 b o e⟩, fun P' q' j hT' t => t.ext at1, upd_same, at1 _ _ hco⟩⟩
end
section
variable {prog : Program} {w : World} {A : Around} {E : Value → Shared → Prop} {s : Shared} {env : Env}
theorem sub_c {e : Expr} {i : Int} {n j : Nat} {p1 p2 : Pos} {Q : Value → Shared → Prop} (hi : i = (n : Int))
    (h : wpAny (model prog w) A (eval e env) (fun v s1 => ∃ a items x, v = .ref a ∧ IsTup s1.heap a items ∧ items[n]? = some x ∧ n < 1000 ∧ Q x { s1 with toks := s1.toks + 1 }) E s) :
    wpAny (model prog w) A (eval (.Subscript e (.Constant (.int i) j p1) p2) env) Q E s := by
  refine Subscript_ (wpAny_mono h (fun v s1 ⟨a, items, x, hv, ht, hx, hl, q⟩ => wpAny_Constant_int ?_) fun _ _ h => h)
  subst hv
  have ht2 : IsTup { s1 with toks := s1.toks + 1 }.heap a items := ht
  have hsz : n < items.size := by
    obtain ⟨h, _⟩ := Array.getElem?_eq_some_iff.mp hx
    exact h
  have hj : seqIndex? i items.size = some n := by
    subst hi
    unfold seqIndex?
    simp
    omega
  exact subscriptTail_builtinR (x := x) ht2.typeIs slot_tuple_getitem.lookup
    (getItem_tuple (j := n) (Q := fun r s' => r = x ∧ Q r s') ht2 (by omega) (by omega) hj hx ⟨rfl, q⟩)
theorem key_body {a b c : Addr} {n d low : Int} {u : Value} {t1 t2 t3 : Tok} {m : Str → Option Value} {j1 j2 j3 j4 : Nat} {p1 p2 p3 p4 p5 p6 p7 p8 p9 p10 p11 p12 p13 p14 : Pos} (hk : env.scope.kind = .function) (h1 : env.kindOf "pair" = some .local) (h2 : env.kindOf "low" = some .free) (hc : env.cells.lookup ("low" : Str) = some c)
    (hn : s.heap.Ns env.locals m) (hm : m "pair" = some (.ref a)) (ha : IsTup s.heap a #[.ref b, u]) (hb : IsTup s.heap b #[.int n t1, .int d t2]) (hl : s.heap.IsCell c (some (.int low t3))) (g1 : CDivW low d) (g2 : CMulW (-n) (low / d)) :
    wpAny (model prog w) A (eval (.BinOp (.UnaryOp .USub (.Subscript (.Subscript (.Name "pair" p1) (.Constant (.int 0) j1 p2) p3) (.Constant (.int 0) j2 p4) p5) p6) .Mult (.BinOp (.Name "low" p7) .FloorDiv (.Subscript (.Subscript (.Name "pair" p8) (.Constant (.int 0) j3 p9) p10) (.Constant (.int 1) j4 p11) p12) p13) p14) env)
      (fun v s' => ∃ t tk, v = .int (-n * (low / d)) t ∧ s' = { s with toks := tk }) E s := by
  refine wpAny_BinOp (UnaryOp_ (sub_c (n := 0) rfl (sub_c (n := 0) rfl (wpAny_Name (wpAny_loadName_local hk h1 hn hm ⟨a, _, .ref b, rfl, ha, rfl, by decide, b, _, .int n t1, rfl, hb, rfl, by decide, neg_int ?_⟩) (by decide)))))
  refine wpAny_BinOp (wpAny_Name (wpAny_loadName_free hk h2 hc hl ?_) (by decide))
  refine sub_c (n := 1) rfl (sub_c (n := 0) rfl (wpAny_Name (wpAny_loadName_local hk h1 hn hm ⟨a, _, .ref b, rfl, ha, rfl, by decide, b, _, .int d t2, rfl, hb, rfl, by decide, ?_⟩) (by decide)))
  have hd : (0 : Int) < d := g1.1
  refine floordiv_int (by omega) ?_ (.inl (PyProof.noPylong_of_log2 g1.2))
  rw [Int.fdiv_eq_ediv_of_nonneg low (by omega)]
  exact mul_int ⟨_, _, rfl, rfl⟩ g2.ok
theorem key_call {f a b c c' : Addr} {n d low : Int} {u pm ctv : Value} {q : Str} {t1 t2 t3 : Tok} {j1 j2 j3 j4 : Nat} {p0 p1 p2 p3 p4 p5 p6 p7 p8 p9 p10 p11 p12 p13 p14 : Pos} (hr : A.depth < recursionLimit) (nl : s.heap.NoLimit)
    (ho : s.heap.get? f = some (PySem.W.kla_obj "<lambda>" q { posonlyargs := [], args := [{ arg := "pair", annotation := none, pos := p0 }], vararg := none, kwonlyargs := [], kw_defaults := [], kwarg := none, defaults := [] }
      (.BinOp (.UnaryOp .USub (.Subscript (.Subscript (.Name "pair" p1) (.Constant (.int 0) j1 p2) p3) (.Constant (.int 0) j2 p4) p5) p6) .Mult (.BinOp (.Name "low" p7) .FloorDiv (.Subscript (.Subscript (.Name "pair" p8) (.Constant (.int 0) j3 p9) p10) (.Constant (.int 1) j4 p11) p12) p13) p14)
      { kind := .function, names := [("pair", .local), ("low", .free)], isGenerator := false, isCoroutine := false, more := [] } [("low", c)] pm c' ctv)) (hcd : s.heap.CodeRec (.ref c') q)
    (ha : IsTup s.heap a #[.ref b, u]) (hb : IsTup s.heap b #[.int n t1, .int d t2]) (hl : s.heap.IsCell c (some (.int low t3))) (g1 : CDivW low d) (g2 : CMulW (-n) (low / d)) :
    wpAny (model prog w) A (call (.ref f) [.ref a]) (PySem.W.KeyPure (.int (-n * (low / d))) s) (fun _ _ => False) s := by
  refine wpAny_call ?_
  refine PySem.W.kla_callFunE hr ho rfl rfl rfl rfl hcd ?_
  have hbind : bindArgs (PySem.W.kla_fn "<lambda>" q { posonlyargs := [], args := [{ arg := "pair", annotation := none, pos := p0 }], vararg := none, kwonlyargs := [], kw_defaults := [], kwarg := none, defaults := [] }
      (.BinOp (.UnaryOp .USub (.Subscript (.Subscript (.Name "pair" p1) (.Constant (.int 0) j1 p2) p3) (.Constant (.int 0) j2 p4) p5) p6) .Mult (.BinOp (.Name "low" p7) .FloorDiv (.Subscript (.Subscript (.Name "pair" p8) (.Constant (.int 0) j3 p9) p10) (.Constant (.int 1) j4 p11) p12) p13) p14)
      { kind := .function, names := [("pair", .local), ("low", .free)], isGenerator := false, isCoroutine := false, more := [] } [("low", c)] pm (.ref c') ctv) ⟨[.ref a], []⟩ = pure [(("pair" : Str), Value.ref a)] := rfl
  rw [hbind]
  refine wpAny_pure (wpAny_newFunctionEnv (show ∀ x ∈ [(("pair" : Str), NameKind.local), ("low", .free)], x.2 ≠ .cell by decide) (fun y hy => by cases List.mem_singleton.mp hy; rfl) (fun h₁ hns hsb => ?_) rfl)
  have hk : ∀ b o, s.heap.get? b = some o → h₁.get? b = some o := fun b o e => hsb.extBut b o (Nat.ne_of_lt (Heap.lt_size e)) (Heap.get?_push_of_some _ e)
  refine ⟨nl.keeps hk, PySem.W.kla_codeExpr (wpAny_mono (key_body (s := { s with heap := h₁, toks := s.toks + 1 }) (E := fun _ _ => False) rfl rfl rfl rfl hns rfl (ha.keeps hk) (hb.keeps hk) (hl.keeps hk) g1 g2) (fun v s' ⟨t, tk, e1, e2⟩ => ?_) fun _ _ z => z.elim)⟩
  subst e1 e2
  exact ⟨h₁, tk, rfl, hk, .int _ _⟩
end
def keyF (low : Int) : List Key → Int
  | [.inl n, .inl d] => -n * (low / d)
  | _ => 0
def keyOk (low : Int) : List Key → Bool
  | [.inl n, .inl d] => decide (0 < d) && decide (d.natAbs.log2 < 9000) && decide ((-n).natAbs.log2 + (low / d).natAbs.log2 < 1000000)
  | _ => false
theorem keyOk_some {low : Int} {k : List Key} (h : keyOk low k = true) : ∃ n d, k = [.inl n, .inl d] ∧ CDivW low d ∧ CMulW (-n) (low / d) := by
  unfold keyOk at h
  split at h
  · rename_i n d
    simp only [Bool.and_eq_true, decide_eq_true_eq] at h
    exact ⟨n, d, rfl, ⟨h.1.1, h.1.2⟩, h.2⟩
  · cases h
def ordI {α : Type} (low : Int) (kvs : List (List Key × α)) : List Nat := (List.range kvs.length).mergeSort fun i j => decide (keyF low ((kvs[i]?).elim [] (·.1)) ≤ keyF low ((kvs[j]?).elim [] (·.1)))
theorem dataLe_int {β : Type} (k : β → Int) : PySem.W.dataLe false (fun b => PyData.int (k b)) = fun a b => decide (k a ≤ k b) := by
  funext a b
  show (!(decide (k b < k a) || (!decide (k a < k b) && false))) = _
  by_cases h : k b < k a
  · have h2 : ¬ k a ≤ k b := by omega
    simp [h, h2]
  · have h2 : k a ≤ k b := by omega
    simp [h, h2]
abbrev keyY (p0 p1 p2 p3 p4 p5 p6 p7 p8 p9 p10 p11 p12 p13 p14 : Pos) (j1 j2 j3 j4 : Nat) : LamSyn := ⟨{ posonlyargs := [], args := [{ arg := "pair", annotation := none, pos := p0 }], vararg := none, kwonlyargs := [], kw_defaults := [], kwarg := none, defaults := [] },
  .BinOp (.UnaryOp .USub (.Subscript (.Subscript (.Name "pair" p1) (.Constant (.int 0) j1 p2) p3) (.Constant (.int 0) j2 p4) p5) p6) .Mult (.BinOp (.Name "low" p7) .FloorDiv (.Subscript (.Subscript (.Name "pair" p8) (.Constant (.int 0) j3 p9) p10) (.Constant (.int 1) j4 p11) p12) p13) p14,
  { kind := .function, names := [("pair", .local), ("low", .free)], isGenerator := false, isCoroutine := false, more := [] }⟩
theorem each_get {α β : Type} {R : α → β → Prop} : ∀ {as : List α} {bs : List β}, as.length = bs.length → (∀ (i : Nat) a b, as[i]? = some a → bs[i]? = some b → R a b) → PySem.W.EachIs R as bs
  | [], [], _, _ => .nil
  | [], _ :: _, h, _ => by simp at h
  | _ :: _, [], h, _ => by simp at h
  | a :: as, b :: bs, h, q => .cons (q 0 a b rfl rfl) (each_get (by simpa using h) fun i x y h1 h2 => q (i + 1) x y (by simpa using h1) (by simpa using h2))
theorem get_each {α β : Type} {R : α → β → Prop} : ∀ {as : List α} {bs : List β}, PySem.W.EachIs R as bs → as.length = bs.length ∧ ∀ (i : Nat) a b, as[i]? = some a → bs[i]? = some b → R a b
  | _, _, .nil => ⟨rfl, fun i a b h => by simp at h⟩
  | _, _, .cons r t => ⟨by simp [(get_each t).1], fun i a b h1 h2 => by
    cases i with
    | zero => simp at h1 h2; subst h1 h2; exact r
    | succ i => exact (get_each t).2 i a b (by simpa using h1) (by simpa using h2)⟩
theorem vals_get : ∀ {xs : List V} {us : List Value}, xs.length = us.length → (∀ (i : Nat) x u, xs[i]? = some x → us[i]? = some u → RelV x u) → Vals xs us
  | [], [], _, _ => .nil
  | [], _ :: _, h, _ => by simp at h
  | _ :: _, [], h, _ => by simp at h
  | a :: as, b :: bs, h, q => .cons (q 0 a b rfl rfl) (vals_get (by simpa using h) fun i x y h1 h2 => q (i + 1) x y (by simpa using h1) (by simpa using h2))
theorem ordI_perm {α : Type} (low : Int) (kvs : List (List Key × α)) : (ordI low kvs).Perm (List.range kvs.length) := List.mergeSort_perm ..
section
variable {X : Cx} {pins : List (Addr × Obj)} {σ : L2.St} {H : Hp} {s : Shared} {Q : VK}
theorem sorted_key {p a f c c' : Addr} {kvs : List (List Key × V)} {low : Int} {q : Str} {pm ctv : Value} {t3 : Tok} {p0 p1 p2 p3 p4 p5 p6 p7 p8 p9 p10 p11 p12 p13 p14 : Pos} {j1 j2 j3 j4 : Nat} (hcalm : X.calm = true) (hr : X.A.depth < recursionLimit) (hu : X.A.units + 10 < cLine) (I : Inv X pins σ H s)
    (hp : H p = some (DX.itemsO p a)) (ha : Rd H a (.dT kvs)) (hf : H f = some (LamOC f c' q (keyY p0 p1 p2 p3 p4 p5 p6 p7 p8 p9 p10 p11 p12 p13 p14 j1 j2 j3 j4) [("low", c)] pm ctv)) (hcd : H c' = some (LamX.CodeO c' q)) (hl : s.heap.IsCell c (some (.int low t3))) (hok : ∀ kv ∈ kvs, keyOk low kv.1 = true)
    (hQ : ∀ (as : List Addr) (H' : Hp) (l : Addr), as.length = kvs.length → Same H H' → H l = none → H' l = some (.lst ((ordI low kvs).map fun i => V.ref (as.getD i 0))) →
      (∀ i k v, kvs[i]? = some (k, v) → ∃ q, H' (as.getD i 0) = some (.tup [.ref q, v]) ∧ H' q = some (.tup (k.map kV))) → Q (.ref l) H') :
    wpAny (model X.prog X.w) X.A (call (.builtin "sorted") [.ref p] [(Str.ofString "key", .ref f)]) (EP X pins σ Q) X.xe s := by
  have view : s.heap.IsItemsView p a := (show ObjOk X.prog X.w H s.heap p (DX.itemsO p a) from I.hok p _ hp).1
  obtain ⟨z, hd, xs', rel, o, es, ep, ho, hx, hdat, hes, hn⟩ := (show ObjOk X.prog X.w H s.heap a (.dT kvs) from ha.ok I.hok)
  have l1 : kvs.length = xs'.length := Paired.length rel
  have l2 : es.size = xs'.length := size_of_entries hes
  have hh : X.A.handled = none := I.ok.hd hcalm
  refine PyProof.Rows.call_function_entry_kw PyProof.Rows.kind_sorted PyProof.Rows.plain_sorted PyProof.Rows.entry_sorted (PyProof.Rows.ksk_s1 _ _) ?_
  unfold Builtin.«sorted»
  refine wpAny_bind (m := checkCount "sorted" 1 1 _) (wpAny_pure ?_)
  refine wpAny_bind (DT.collectI (A := X.A.in1) (es := es) (ep := ep) hh view ⟨o, ho, hx, hdat⟩ (by omega) fun h' tk as hk hlt hlen hG => ?_)
  have lak : as.length = kvs.length := by omega
  have nd : as.Nodup := List.Pairwise.imp (fun h => Nat.ne_of_lt h) hG.rise
  have pr : ∀ (j : Nat) (b : Addr), as[j]? = some b → ∃ (k : List Key) (v : V) (kq : Addr) (u : Value), kvs[j]? = some (k, v) ∧ H kq = some (.tup (k.map kV)) ∧ RelV v u ∧ h'.get? b = some { cls := .type "tuple", data := .seq #[Value.ref kq, u] } := by
    intro j b hj
    obtain ⟨en, he, hg⟩ := hG.pairs j b hj
    rw [entry_at hes j] at he
    cases hxj : xs'[j]? with
    | none =>
      rw [hxj] at he
      exact nomatch (show (none : Option DictEntry) = some en from he)
    | some x =>
      rw [hxj] at he
      have een : entryOfKey (tupleKind (mixKind X.prog X.w)) x = en := Option.some.inj he
      have hjl : j < kvs.length := by rw [l1]; exact (List.getElem?_eq_some_iff.mp hxj).1
      obtain ⟨b', hb', e1, e2, e3⟩ := L2.paired_get rel (List.getElem?_eq_getElem hjl)
      rw [hxj] at hb'
      cases hb'
      exact ⟨kvs[j].1, kvs[j].2, x.2.1, x.2.2, List.getElem?_eq_getElem hjl, e2, e3, by rw [hg, ← een]; rfl⟩
  refine wpAny_bind (wpAny_newList ?_ (by rw [List.length_map, hlen]; omega))
  have hob : (h'.push { cls := .type "list", data := .seq (as.map Value.ref).toArray }).get? h'.objs.size = some (seqObj "list" (as.map Value.ref).toArray 0) := Heap.get?_push_size _ rfl
  have kb : ∀ b o, s.heap.get? b = some o → (h'.push { cls := .type "list", data := .seq (as.map Value.ref).toArray }).get? b = some o := fun b o e => Heap.get?_push_of_some _ (hk b o e)
  have ne0 : ∀ b o, h'.get? b = some o → b ≠ h'.objs.size := fun b o e => Nat.ne_of_lt (Heap.lt_size e)
  have ka : ∀ b o, h'.get? b = some o → (h'.push { cls := .type "list", data := .seq (as.map Value.ref).toArray }).get? b = some o := fun b o e => Heap.get?_push_of_some _ e
  generalize hh2 : h'.push { cls := .type "list", data := .seq (as.map Value.ref).toArray } = h2 at hob kb ka ⊢
  have hfo : s.heap.get? f = some (PySem.W.kla_obj "<lambda>" q (keyY p0 p1 p2 p3 p4 p5 p6 p7 p8 p9 p10 p11 p12 p13 p14 j1 j2 j3 j4).params (keyY p0 p1 p2 p3 p4 p5 p6 p7 p8 p9 p10 p11 p12 p13 p14 j1 j2 j3 j4).body (keyY p0 p1 p2 p3 p4 p5 p6 p7 p8 p9 p10 p11 p12 p13 p14 j1 j2 j3 j4).scope [("low", c)] pm c' ctv) := (I.hok f _ hf).1
  obtain ⟨oc, xsc, tc, hc1, hc2, hc3⟩ := (I.hok c' _ hcd).1
  have each : PySem.W.EachIs (fun v (i : Nat) => ∃ t, v = Value.ref t ∧ as[i]? = some t) (as.map Value.ref) (List.range kvs.length) := by
    rw [← lak]
    refine each_get (by rw [List.length_map, List.length_range]) fun i v j hv hj => ?_
    rw [List.getElem?_map] at hv
    obtain ⟨t, ht, rfl⟩ := Option.map_eq_some_iff.mp hv
    have hi : i < as.length := (List.getElem?_eq_some_iff.mp ht).1
    rw [List.getElem?_range hi] at hj
    cases hj
    exact ⟨t, rfl, ht⟩
  refine wpAny_bind (wpAny_holding (PySem.W.list_sort_key_data (s := { s with heap := h2, toks := tk }) (b := false) (bs := List.range kvs.length) (R := fun v (i : Nat) => ∃ t, v = Value.ref t ∧ as[i]? = some t) (fun i : Nat => PyData.int (keyF low ((kvs[i]?).elim [] (·.1)))) hob each
    (PySem.W.AllAlike.of fun _ _ => by simp [PySem.W.alike]) (.inr fun d hd => ?_) (by rw [List.length_range]; exact z) (fun i hi => ?_) (PyProof.Rows.ksk_l1 _ _) (PyProof.Rows.ksk_t1 _ _) (fun v i ⟨t, ev, ht⟩ hi h3 tk3 kp => ?_) fun out c3 h3 tk3 kp hD hlo he => ?_))
  · obtain ⟨i, _, rfl⟩ := List.mem_map.mp hd
    exact ⟨by simp, by simp⟩
  · show X.A.units + 1 + 1 + 0 < cLine
    omega
  · subst ev
    obtain ⟨k, v, kq, u, hkv, hkq, rv, hg⟩ := pr i t ht
    obtain ⟨n, d, rfl, g1, g2⟩ := keyOk_some (hok _ (List.mem_of_getElem? hkv))
    obtain ⟨_, its, ri, oT, hoT, hcT, nT, hdT⟩ := (show ObjOk X.prog X.w H s.heap kq (.tup _) from I.hok kq _ hkq)
    obtain ⟨u1, u2, rfl, r1, r2⟩ := vals2 ri
    obtain ⟨t1, rfl⟩ := r1
    obtain ⟨t2, rfl⟩ := r2
    have up : ∀ b o, h'.get? b = some o → h3.get? b = some o := fun b o e => kp b o (ne0 b o e) (ka b o e)
    have ups : ∀ b o, s.heap.get? b = some o → h3.get? b = some o := fun b o e => up b o (hk b o e)
    have ek : keyF low ((kvs[i]?).elim [] (·.1)) = -n * (low / d) := by rw [hkv]; rfl
    rw [ek]
    exact key_call (s := { s with heap := h3, toks := tk3 }) hr (I.nolimit.keeps ups) (ups _ _ hfo) ⟨c', oc, xsc, tc, rfl, ups _ _ hc1, hc2, hc3⟩ ⟨_, up _ _ hg, rfl, 0, rfl⟩ ⟨oT, ups _ _ hoT, hcT, nT, hdT⟩ (hl.keeps ups) g1 g2
  · refine wpAny_pure ⟨_, rfl, ?_⟩
    rw [dataLe_int fun i : Nat => keyF low ((kvs[i]?).elim [] (·.1))] at he
    obtain ⟨le, ge⟩ := get_each he
    have kS : ∀ b o, s.heap.get? b = some o → h3.get? b = some o := fun b o e => kp b o (ne0 _ _ (hk b o e)) (kb b o e)
    have hn0 : H h'.objs.size = none := I.hok.fresh (Nat.le_of_lt hlt)
    have I1 : Inv X pins σ H { s with heap := h3, toks := tk3 } := I.kept (t' := tk3) kS
    have rv : Vals ((ordI low kvs).map fun i => V.ref (as.getD i 0)) out := by
      refine vals_get (by rw [List.length_map]; exact le.symm) fun j x u hx hu => ?_
      rw [List.getElem?_map] at hx
      obtain ⟨i, hi, rfl⟩ := Option.map_eq_some_iff.mp hx
      obtain ⟨t, rfl, ht⟩ := ge j u i hu hi
      rw [List.getD_eq_getElem?_getD, ht]
      rfl
    have hlenV : ((ordI low kvs).map fun i => V.ref (as.getD i 0)).length ≤ sizeLine := by
      rw [List.length_map, (ordI_perm low kvs).length_eq, List.length_range]
      exact z
    have I2 : Inv X pins σ (upd H h'.objs.size (.lst ((ordI low kvs).map fun i => V.ref (as.getD i 0)))) { s with heap := h3, toks := tk3 } :=
      I1.take (h' := h3) (t' := tk3) (fun b ob _ e => e) (I.fpOk (Nat.le_of_lt hlt) hn0) ⟨hlenV, out, c3, rv, hD⟩
    obtain ⟨H2, I3, g, qt⟩ := DX.takeT (P := fun b vs => ∃ (j : Nat) (k : List Key) (v : V) (kq : Addr), as[j]? = some b ∧ kvs[j]? = some (k, v) ∧ vs = [.ref kq, v] ∧ H kq = some (.tup (k.map kV))) I as _ I2 nd fun b hb => by
      obtain ⟨j, hj⟩ := List.mem_iff_getElem?.mp hb
      obtain ⟨k, v, kq, u, hkv, hkq, rvu, hg⟩ := pr j b hj
      have hbl : s.heap.objs.size ≤ b := Nat.le_of_lt (hG.above b hb)
      refine ⟨hbl, ?_, [.ref kq, v], ⟨j, k, v, kq, hj, hkv, rfl, hkq⟩, fun H3 => ⟨(by rw [sizeLine_eq]; show 2 ≤ 16777216; omega), [Value.ref kq, u], .cons rfl (.cons rvu .nil), ⟨_, kp _ _ (ne0 _ _ hg) (ka _ _ hg), rfl, 0, rfl⟩⟩⟩
      rw [upd_ne (ne0 _ _ hg)]
      exact I.hok.fresh hbl
    have gr : ∀ b o, H b = some o → H2 b = some o := fun b o e => g b o (by rw [upd_ne (ne_of_none e hn0)]; exact e)
    refine ⟨.ref h'.objs.size, H2, I3, rfl, hQ as H2 h'.objs.size lak gr hn0 (g _ _ upd_same) fun i k v hkv => ?_⟩
    have hi : i < as.length := by rw [lak]; exact (List.getElem?_eq_some_iff.mp hkv).1
    have hai : as[i]? = some as[i] := List.getElem?_eq_getElem hi
    obtain ⟨vs, ⟨j, k2, v2, kq, j1, j2, ev, hkq⟩, hH⟩ := qt as[i] (List.getElem_mem hi)
    have eij : i = j := (List.getElem?_inj hi nd).mp (hai.trans j1.symm)
    subst eij
    rw [hkv] at j2
    cases j2
    rw [List.getD_eq_getElem?_getD, hai]
    exact ⟨kq, by rw [← ev]; exact hH, gr _ _ hkq⟩
end
end PD
namespace PD
open PySem PySem.Spec PyProof.Rows L2
variable [TabC]
def tItemsR (te : TE) : TE := fun σ H Q => te σ H fun x H1 => ∃ d kvs, x = .ref d ∧ Rd H1 d (.dT kvs) ∧ ∀ p, H1 p = none → Q (.ref p) (upd H1 p (DX.itemsO p d))
section
variable {X : Cx} {e : Expr} {te : TE} {apos cpos : Pos}
theorem pe_itemsR (he : PE X e te) (hbase : attributeBase e "items" X.env (eval e X.env) = eval e X.env := by rfl) (hline : (apos.endLine == cpos.line) = true := by rfl) : PE X (.Call (.Attribute e "items" apos) [] [] cpos) (tItemsR te) := by
  refine ⟨fun pins s σ H Q I h => ?_⟩
  refine wpAny_Call_method (T := "dict") (id := "dict.items") hbase rfl hline F.plainAttrs_dict F.slot_dict_items F.type_dict_items (thn (he.run pins s σ H _ I h) fun u s1 ⟨x, H1, I1, rx, d, kvs, ex, hd, q⟩ => ?_)
  subst ex
  cases (show u = Value.ref d from rx)
  obtain ⟨z, hsys, xs', rel, o, es, ep, ho, hx, hdat, hes, hn⟩ := (show ObjOk X.prog X.w H1 s1.heap d (.dT kvs) from hd.ok I1.hok)
  refine ⟨⟨o, ho, hx.1⟩, fun a ea => by cases ea; exact ⟨_, ho, hx.2.1⟩, ?_⟩
  have hf : H1 s1.heap.objs.size = none := I1.hok.fresh (Nat.le_refl _)
  exact Calls.callWith_builtin rfl (PySem.evalArgs_none (DT.callItems (es := es) (ep := ep) hsys ⟨o, ho, hx, hdat⟩
    ⟨.ref s1.heap.objs.size, upd H1 s1.heap.objs.size (DX.itemsO s1.heap.objs.size d), I1.laid (t' := s1.toks) (fun b u e => Heap.get?_push_of_some _ e) (Nat.le_refl _) (DX.itemsO_ok (Heap.get?_push_size _ rfl)), rfl, q _ hf⟩))
end
def itemI (kds : List (List Key × D)) (i : Nat) : D := (kds[i]?).elim .non fun kv => .tup [tK kv.1, kv.2]
def ordK (i j : Nat) : Co D := fun m => match m.env[i]? with
  | some (.pl (.dt kds)) => match m.env[j]? with
    | some (.pl (.int low)) => if kds.all (fun kv => keyOk low kv.1) = true then .ok (.lst ((ordI low kds).map (itemI kds))) m else .no
    | _ => .no
  | _ => .no
theorem ordI_keys {α β : Type} {low : Int} {a : List (List Key × α)} {b : List (List Key × β)} (h : a.map (·.1) = b.map (·.1)) : ordI low a = ordI low b := by
  have hl : a.length = b.length := by have := congrArg List.length h; simpa using this
  have hk : ∀ i : Nat, (a[i]?).elim ([] : List Key) (·.1) = (b[i]?).elim [] (·.1) := fun i => by
    have h1 : (a.map (·.1))[i]? = (b.map (·.1))[i]? := by rw [h]
    rw [List.getElem?_map, List.getElem?_map] at h1
    cases ha : a[i]? <;> cases hb : b[i]? <;> rw [ha, hb] at h1 <;> simp at h1 ⊢
    exact h1
  unfold ordI
  rw [hl]
  congr 1
  funext i j
  rw [hk i, hk j]
section
variable {K : PySem.W.Frag} {mg : Str → Option Value}
theorem RepL.maps {ι : Type} {E : Ev} {H : Hp} {f : ι → V} {g : ι → D} : ∀ {l : List ι}, (∀ i ∈ l, Rep K mg E H (f i) (g i)) → RepL K mg E H (l.map f) (l.map g)
  | [], _ => .nil
  | i :: l, h => .cons (h i List.mem_cons_self) (RepL.maps fun u hu => h u (List.mem_cons_of_mem _ hu))
end
section
variable {X : Cx} {x xl : Str} {p p2 pos apos cpos lpos kpos : Pos} {c P : Addr} {qn : Str} {k : Nat} {p0 p1 p2' p3 p4 p5 p6 p7 p8 p9 p10 p11 p12 p13 p14 : Pos} {j1 j2 j3 j4 : Nat}
theorem ef_sortKey (i j : Nat) (hm : X.mg "sorted" = none) (hr : Room k X.A) (hT : TabC.T P qn) (TB : LamX.TabB X.base X.mg c P) (hcode : X.env.code = .ref c := by rfl) (hq : qn = X.env.qual ++ "<lambda>" := by rfl)
    (hg : Gl X "sorted" := by rfl) (hc : X.calm = true := by rfl) (hN : X.N[i]? = some x := by rfl) (hv : Vis X.env.scope x := by first | exact Or.inl rfl | exact Or.inr (Or.inl rfl) | exact Or.inr (Or.inr rfl)) (hNl : X.N[j]? = some ("low" : Str) := by rfl) (hcl : X.env.kindOf "low" = some .cell := by rfl)
    (hd : (x == ("__debug__" : Str)) = false := by decide) (hcd : (x == ("__classdict__" : Str)) = false := by decide) (hbase : attributeBase (.Name x p2) "items" X.env (eval (.Name x p2) X.env) = eval (.Name x p2) X.env := by rfl) (hline : (apos.endLine == cpos.line) = true := by rfl)
    (hs : starEach [.Call (.Attribute (.Name x p2) "items" apos) [] [] cpos] X.env = (false, eval (.Call (.Attribute (.Name x p2) "items" apos) [] [] cpos) X.env) :: starEach [] X.env := by rfl)
    (he : backTo pos (starEach [.Call (.Attribute (.Name x p2) "items" apos) [] [] cpos] X.env) = (false, eval (.Call (.Attribute (.Name x p2) "items" apos) [] [] cpos) X.env) :: backTo pos (starEach [] X.env) := by rfl)
    (hpl : (backTo pos (starEach [.Call (.Attribute (.Name x p2) "items" apos) [] [] cpos] X.env)).any (·.1) = false := by rfl)
    (hall : (backToKw pos (keywordEach [⟨some "key", .Lambda (keyY p0 p1 p2' p3 p4 p5 p6 p7 p8 p9 p10 p11 p12 p13 p14 j1 j2 j3 j4).params (keyY p0 p1 p2' p3 p4 p5 p6 p7 p8 p9 p10 p11 p12 p13 p14 j1 j2 j3 j4).body (keyY p0 p1 p2' p3 p4 p5 p6 p7 p8 p9 p10 p11 p12 p13 p14 j1 j2 j3 j4).scope lpos, kpos⟩] X.env)).all (·.1.isSome) = true := by rfl)
    (hnone : (backToKw pos (keywordEach [⟨some "key", .Lambda (keyY p0 p1 p2' p3 p4 p5 p6 p7 p8 p9 p10 p11 p12 p13 p14 j1 j2 j3 j4).params (keyY p0 p1 p2' p3 p4 p5 p6 p7 p8 p9 p10 p11 p12 p13 p14 j1 j2 j3 j4).body (keyY p0 p1 p2' p3 p4 p5 p6 p7 p8 p9 p10 p11 p12 p13 p14 j1 j2 j3 j4).scope lpos, kpos⟩] X.env)).any (·.1.isNone) = false := by rfl)
    (hks : (backToKw pos (keywordEach [⟨some "key", .Lambda (keyY p0 p1 p2' p3 p4 p5 p6 p7 p8 p9 p10 p11 p12 p13 p14 j1 j2 j3 j4).params (keyY p0 p1 p2' p3 p4 p5 p6 p7 p8 p9 p10 p11 p12 p13 p14 j1 j2 j3 j4).body (keyY p0 p1 p2' p3 p4 p5 p6 p7 p8 p9 p10 p11 p12 p13 p14 j1 j2 j3 j4).scope lpos, kpos⟩] X.env)).filterMap (·.1) = [Str.ofString "key"] := by rfl) :
    EF X (.Call (.Name "sorted" p) [.Call (.Attribute (.Name x p2) "items" apos) [] [] cpos] [⟨some "key", .Lambda (keyY p0 p1 p2' p3 p4 p5 p6 p7 p8 p9 p10 p11 p12 p13 p14 j1 j2 j3 j4).params (keyY p0 p1 p2' p3 p4 p5 p6 p7 p8 p9 p10 p11 p12 p13 p14 j1 j2 j3 j4).body (keyY p0 p1 p2' p3 p4 p5 p6 p7 p8 p9 p10 p11 p12 p13 p14 j1 j2 j3 j4).scope lpos, kpos⟩] pos) (ordK i j) := by
  refine ⟨fun pins s σ H Q I ⟨W, m, S, d, m', hf, q⟩ => ?_⟩
  unfold ordK at hf
  split at hf
  · rename_i kds hfound
    split at hf
    · rename_i low hlow
      split at hf
      · rename_i hok
        cases hf
        obtain ⟨v, hσ1, rv⟩ := S.pl i _ hfound
        obtain ⟨v2, hσ2, rv2⟩ := S.pl j _ hlow
        cases rv2
        cases rv with
        | @dt a kvs _ hda nN hkeys hvals =>
        refine wpAny_Call_Name_kw (ld_blt I hg hm rfl ?_ (by decide) (by decide))
        have h1 := (pa_cons (pe_itemsR (pe_var (pos := p2) hN hv hd hcd) hbase hline) pa_nil hs).run pos pins s σ H (fun vs H1 => ∃ p', vs = [.ref p'] ∧ H p' = none ∧ H1 = upd H p' (DX.itemsO p' a)) I
          ⟨_, hσ1, a, kvs, rfl, hda, fun p' hp' => ⟨p', rfl, hp', rfl⟩⟩
        refine PyProof.Rows.callWith_kw (thn h1 fun us s1 ⟨vs, H1, I1, r1, p', e1, hp', e2⟩ => ?_) he hpl hall hnone
        subst e1 e2
        have sm1 : Same H (upd H p' (DX.itemsO p' a)) := same_new hp' _
        have A1 : After X.K X.mg W σ H m W.ob (upd H p' (DX.itemsO p' a)) m := .same S sm1
        have S1 := A1.2
        have hfree : ∀ y ∈ (keyY p0 p1 p2' p3 p4 p5 p6 p7 p8 p9 p10 p11 p12 p13 p14 j1 j2 j3 j4).scope.names, y.2 = .free → ∃ c, X.env.cells.lookup y.1 = some c := fun y hy e => by
          rcases List.mem_cons.mp hy with rfl | hy
          · cases e
          · rw [List.mem_singleton.mp hy]
            exact I.ok.has _ (.inl hcl)
        have h2 := (pk_cons (nm := some "key") (kpos := kpos) (pe_lamC (pos := lpos) (params := (keyY p0 p1 p2' p3 p4 p5 p6 p7 p8 p9 p10 p11 p12 p13 p14 j1 j2 j3 j4).params) (body := (keyY p0 p1 p2' p3 p4 p5 p6 p7 p8 p9 p10 p11 p12 p13 p14 j1 j2 j3 j4).body) (scope := (keyY p0 p1 p2' p3 p4 p5 p6 p7 p8 p9 p10 p11 p12 p13 p14 j1 j2 j3 j4).scope) hT TB hcode hq rfl hfree) pk_nil).run pos pins s1 σ (upd H p' (DX.itemsO p' a)) (fun zs H2 => ∃ f c' pm ctv, zs = [.ref f] ∧ LamMade (upd H p' (DX.itemsO p' a)) H2 f c' qn (keyY p0 p1 p2' p3 p4 p5 p6 p7 p8 p9 p10 p11 p12 p13 p14 j1 j2 j3 j4) (cloFrom X.env.cells (keyY p0 p1 p2' p3 p4 p5 p6 p7 p8 p9 p10 p11 p12 p13 p14 j1 j2 j3 j4).scope.names []) pm ctv) I1
          ⟨S1.tab, fun f c' pm ctv H2 lm => ⟨f, c', pm, ctv, rfl, lm⟩⟩
        refine thn h2 fun ws s2 ⟨zs, H2, I2, r2, f, c', pm, ctv, e3, lm⟩ => ?_
        subst e3
        obtain ⟨u1, rfl, rx1⟩ := vals1 r1
        cases rx1
        obtain ⟨u2, rfl, rx2⟩ := vals1 r2
        cases rx2
        rw [hks]
        have A12 := A1.trans (S1.tabled lm.at_ lm.dm lm.tb)
        have hvl : Vis X.env.scope "low" := .inr (.inl hcl)
        obtain ⟨mL, hnL, hlL⟩ := I2.loc
        obtain ⟨ul, rl, look⟩ := hlL j "low" _ hNl hσ2 hvl
        obtain ⟨t3, rfl⟩ := rl
        have hcell : ∃ cc, X.env.cells.lookup ("low" : Str) = some cc ∧ s2.heap.IsCell cc (some (.int low t3)) := by
          rcases look with ⟨hk, _⟩ | ⟨_, cc, h1, h2⟩
          · rw [hcl] at hk; cases hk
          · exact ⟨cc, h1, h2⟩
        obtain ⟨cc, hcc, hcv⟩ := hcell
        have hclo : cloFrom X.env.cells (keyY p0 p1 p2' p3 p4 p5 p6 p7 p8 p9 p10 p11 p12 p13 p14 j1 j2 j3 j4).scope.names [] = [(("low" : Str), cc)] := by
          show [(("low" : Str), (X.env.cells.lookup ("low" : Str)).getD 0)] = _
          rw [hcc]
          rfl
        rw [hclo] at lm
        have hdp : X.A.depth < recursionLimit := by have := hr.dp; omega
        have hun : X.A.units + 10 < cLine := by have := hr.un; omega
        have hp2 : H2 p' = some (DX.itemsO p' a) := lm.at_ _ _ upd_same (fun ps z => by unfold DX.itemsO at z; cases z)
        have hda2 : Rd H2 a (.dT kvs) := (A12.1.rd (W.sub _) hda nN).1
        refine sorted_key hc hdp hun I2 hp2 hda2 lm.fn lm.cd hcv (fun kv hkv => ?_) fun as H3 l hlen smF hn2 hl3 hit => ?_
        · obtain ⟨n, hn⟩ := List.mem_iff_getElem?.mp hkv
          have e1 : (kvs.map (·.1))[n]? = some kv.1 := by rw [List.getElem?_map, hn]; rfl
          rw [hkeys, List.getElem?_map] at e1
          obtain ⟨kd, hkd, e2⟩ := Option.map_eq_some_iff.mp e1
          rw [← e2]
          exact List.all_eq_true.mp hok kd (List.mem_of_getElem? hkd)
        · have A3 : After X.K X.mg W σ H m W.ob H3 m := A12.trans (.same A12.2 smF)
          refine q l W.ob H3 (A12.1.nn hn2) A3.1 (A12.2.fresh hn2) (A12.2.add hn2 smF ⟨_, hl3⟩) ⟨_, hl3, ?_⟩
          rw [ordI_keys hkeys]
          refine RepL.maps fun n hn => ?_
          have hnl : n < kds.length := by
            have := (ordI_perm _ kds).mem_iff.mp hn
            exact List.mem_range.mp this
          have hkd : kds[n]? = some kds[n] := List.getElem?_eq_getElem hnl
          have e1 : (kds.map (·.2))[n]? = some kds[n].2 := by rw [List.getElem?_map, hkd]; rfl
          obtain ⟨v, hv1, rv1⟩ := hvals.get' e1
          rw [List.getElem?_map] at hv1
          obtain ⟨kv, hkv, rfl⟩ := Option.map_eq_some_iff.mp hv1
          have e2 : (kvs.map (·.1))[n]? = some kv.1 := by rw [List.getElem?_map, hkv]; rfl
          rw [hkeys, List.getElem?_map, hkd] at e2
          have e3 : kds[n].1 = kv.1 := Option.some.inj e2
          obtain ⟨q', hH3, hq'⟩ := hit n kv.1 kv.2 hkv
          have ei : itemI kds n = .tup [tK kv.1, kds[n].2] := by unfold itemI; rw [hkd, ← e3]; rfl
          rw [ei]
          refine .tup hH3 (.cons (rep_tK hq') (.cons ?_ .nil))
          exact ((A12.rep rv1).new (Ev.add_new hn2)).up smF
      · cases hf
    · cases hf
  · cases hf
end
end PD
namespace PD
open PySem PySem.Spec PyProof.Rows L2
variable [TabC]
def rDictL (K : PySem.W.Frag) : List V → Hp → VK → Prop := fun xs H Q => ∃ (p : Addr) (ps : List PX), xs = [.ref p] ∧ SqL K H p (ps.map fun x => V.ref x.1) ∧
  (∀ x ∈ ps, SqT K H x.1 [V.ref x.2.1, x.2.2.2] ∧ H x.2.1 = some (.tup (x.2.2.1.map kV))) ∧ ∀ D, H D = none → Q (.ref D) (upd H D (.dT (mergePX [] ps)))
section
variable {X : Cx}
theorem call_dictL (hcalm : X.calm = true) (hu : X.A.units + 65 < cLine) : CallR X (.type "dict") (rDictL X.K) := by
  intro pins s σ H xs us Q I r q
  obtain ⟨p, ps, rfl, hp, hps, q⟩ := q
  obtain ⟨u, rfl, rx⟩ := r.one
  cases rx
  obtain ⟨its, r, ⟨o, n, hobj, hc2, hdn, hd2⟩, hz⟩ := I.list hp
  obtain ⟨qs, hq⟩ := rpx_of I ps hps
  have lq : ps.length = qs.length := paired_len hq
  have li : its.length = ps.length := by rw [← r.length, List.length_map]
  rw [List.length_map] at hz
  have P := PairArg.list (prog := X.prog) (w := X.w) p its.toArray (fun i => (ps[i]?.map (·.1)).getD 0) (qs.map fun q => (Value.ref q.2.1, q.2.2))
  have OK : PlainSeq "list" s.heap p its.toArray ∧ PairItems s.heap its.toArray (fun i => (ps[i]?.map (·.1)).getD 0) (qs.map fun q => (Value.ref q.2.1, q.2.2)) := by
    refine ⟨⟨o, n, hobj, hc2, hdn, hd2⟩, by rw [List.size_toArray, List.length_map, li, lq], fun j k v hj => ?_⟩
    rw [List.getElem?_map] at hj
    obtain ⟨q', hq', e⟩ := Option.map_eq_some_iff.mp hj
    cases e
    obtain ⟨x, hx, rx⟩ := paired_get hq hq'
    have ex : (ps.map fun x => V.ref x.1)[j]? = some (V.ref x.1) := by rw [List.getElem?_map, hx]; rfl
    obtain ⟨w, hw, hw'⟩ := Vals.get r ex
    cases (show w = Value.ref x.1 from hw')
    refine ⟨?_, ?_⟩
    · rw [List.getElem?_toArray, hw]
      show _ = some (Value.ref ((ps[j]?.map (·.1)).getD 0))
      rw [hx]
      rfl
    · show PairAt s.heap ((ps[j]?.map (·.1)).getD 0) _ _
      rw [hx]
      exact rx.2.2.2.2
  refine call_dict_pairsH (knd := tupleKind (mixKind X.prog X.w)) (ps := qs) P (I.ok.hd hcalm) ?_ OK ⟨by rw [List.length_map], fun i key v h => ?_⟩ (fun h' hk x hx => ?_) (by rw [List.length_map, ← lq]; exact hz) fun h' tk dd hk => ?_
  · show X.A.units + 1 + 1 < cLine
    omega
  · rw [show (PairRel (qs.map fun q => (Value.ref q.2.1, q.2.2)) i key v) = ((qs.map fun q => (Value.ref q.2.1, q.2.2))[i]? = some (key, v)) from rfl, List.getElem?_map] at h
    obtain ⟨q', hq', e⟩ := Option.map_eq_some_iff.mp h
    cases e
    exact ⟨q'.1, q'.2.1, hq', rfl⟩
  · obtain ⟨j, hj, ej⟩ := List.getElem_of_mem hx
    obtain ⟨y, _, ry⟩ := paired_get hq (List.getElem?_eq_getElem hj)
    rw [ej] at ry
    exact tupleKind_stays.stays (fun b o vs n e _ => hk b o (Nat.ne_of_lt (Heap.lt_size e)) (fun z => nomatch z) e) (key_of I.hok ry.2.2.1)
  · obtain ⟨od, es, ep, ho, h2, h3, h4, _, h5⟩ := dd
    have hD := I.hok.fresh (Nat.le_refl s.heap.objs.size)
    have hb : (s.heap.objs.size == sysModules) = false := by
      exact beq_eq_false_iff_ne.mpr (Nat.ne_of_gt I.big)
    refine ⟨.ref s.heap.objs.size, upd H s.heap.objs.size (.dT (mergePX [] ps)), I.laid (t' := tk) (fun b o e => hk b o (fun z => nomatch z) e) (Nat.le_refl _) ?_, rfl, q _ hD⟩
    have hkt : KT H (mergePX [] ps) (storedAllH [] qs) := kt_merge hq .nil
    refine ⟨?_, hb, storedAllH [] qs, KT.keeps hkt fun b ys e => ?_, od, es, ep, ho, h2, h3, h4, h5⟩
    · have := mergePX_len ps []
      simp at this
      omega
    · rw [upd_ne (fun z => by rw [z, hD] at e; cases e)]
      exact e
end
def dictLD : List D → Option D
  | [.lst ds] => (pairsXD ds).map fun ps => .dt (mergeDT [] ps)
  | _ => none
section
variable {X : Cx} {e : Expr} {pos p : Pos} {gs : Co (List Opd)}
theorem ef_dictL (hm : X.mg "dict" = none) (hu : X.A.units + 65 < cLine) (ha : EBs X [e] gs) (hc : X.calm = true := by rfl) (hg : Gl X "dict" := by rfl) (he : starEach [e] X.env = (false, eval e X.env) :: starEach [] X.env := by rfl) (hpl : (backTo pos (starEach [] X.env)).any (·.1) = false := by rfl) :
    EF X (.Call (.Name "dict" p) [e] [] pos) (eCall dictLD gs) :=
  PE.imp (pe_callTy (call_dictL hc hu) hg hm (by rfl) ha (by decide) (by decide) he hpl) fun σ H Q ⟨W, m, S, d, m', hf, q⟩ => by
    obtain ⟨os, ds, e1, e2, e3⟩ := eCall_ok hf
    refine ⟨W, m, S, os, m', e1, fun vs ob' H' A rs => ?_⟩
    unfold dictLD at e3
    split at e3
    · obtain ⟨kds, h1, e3⟩ := Option.map_eq_some_iff.mp e3
      cases e3
      have r := rs.view A.2 e2
      cases r with
      | cons r t =>
        cases t
        obtain ⟨a, ws, rfl, ha, ra⟩ := r.lst
        obtain ⟨ps, rfl, h2, h3⟩ := pairsX_of ra h1
        have rk := merge_rep (RepK.nil (K := X.K) (mg := X.mg)) h3
        exact ⟨a, ps, rfl, SqL.of ha, h2, fun p hp => fin_dt A hp rk.k rk.v q⟩
    · cases e3
end
end PD
namespace PD
open PySem PySem.Spec PySem.Calls PyProof.Rows PyProof.V L2
variable [TabC]
section
variable {prog : Program} {w : World} {A : Around} {E : Value → Shared → Prop} {s : Shared} {K : Type} [DecidableEq K] {knd : HeapKind prog w K}
inductive HitsH {K : Type} [DecidableEq K] (prog : Program) (w : World) (A : Around) (s : Shared) (kb : List (K × Addr × Value)) : List (K × Addr × Value) → Bool → Prop
  | nil : HitsH prog w A s kb [] true
  | miss {k : K} {p : Addr × Value} {r : List (K × Addr × Value)} : atKey kb k = none → HitsH prog w A s kb ((k, p) :: r) false
  | hit {k : K} {p q : Addr × Value} {r : List (K × Addr × Value)} {e b : Bool} : atKey kb k = some q → SeqAt.EqP prog w A s p.2 q.2 e → HitsH prog w A s kb r b → HitsH prog w A s kb ((k, p) :: r) (e && b)
theorem HitsH.inv {kb : List (K × Addr × Value)} {k : K} {p : Addr × Value} {r : List (K × Addr × Value)} {b : Bool} (h : HitsH prog w A s kb ((k, p) :: r) b) :
    (atKey kb k = none ∧ b = false) ∨ ∃ q e b', atKey kb k = some q ∧ SeqAt.EqP prog w A s p.2 q.2 e ∧ HitsH prog w A s kb r b' ∧ b = (e && b') := by
  cases h with
  | miss hn => exact .inl ⟨hn, rfl⟩
  | hit hy he hr => exact .inr ⟨_, _, _, hy, he, hr, rfl⟩
theorem samePairsH {nm : String} {a b : Addr} {ka kb : List (K × Addr × Value)} {r : Bool} {Q : Bool → Shared → Prop} (hu : knd.room A) (ha : (a == sysModules) = false) (hb : (b == sysModules) = false)
    (da : s.heap.DictOfH knd a ka) (db : s.heap.DictOfH knd b kb) (hits : HitsH prog w A s kb ka r) (h : Q (ka.length == kb.length && r) s) :
    wpAny (model prog w) A (Builtin.Dict.samePairs nm a b) Q E s := by
  obtain ⟨oa, es, ep, hoa, _, hda, hea, hia, hna⟩ := da
  obtain ⟨ob, es', ep', hob, _, hdb, heb, hib, hnb⟩ := db
  have hla : ka.length = es.size := (size_of_entries hea).symm
  have hlb : kb.length = es'.size := (size_of_entries heb).symm
  rw [hla, hlb] at h
  unfold Builtin.Dict.samePairs Builtin.Dict.showsAll
  rw [if_neg (show ¬ (a == sysModules) = true by rw [ha]; exact Bool.false_ne_true), if_neg (show ¬ (b == sysModules) = true by rw [hb]; exact Bool.false_ne_true)]
  refine wpAny_bind (wpAny_pure (wpAny_bind (wpAny_pure ?_)))
  refine wpAny_bind (wpAny_dictEntries hoa hda ?_)
  dsimp only
  refine wpAny_bind (wpAny_dictEntries hob hdb ?_)
  by_cases hsz : es.size = es'.size
  case neg =>
    rw [if_pos (by simpa using hsz)]
    have hbf : (es.size == es'.size) = false := by simpa using hsz
    rw [hbf, Bool.false_and] at h
    exact wpAny_bind (wpAny_rule (wpAny_pure h))
  case pos =>
    have h' : Q r s := by simpa [hsz] using h
    rw [if_neg (by rw [hsz]; simp)]
    refine wpAny_bind (wpAny_dictEpoch hoa hda ?_)
    refine wpAny_bind ?_
    rw [Std.Legacy.Range.forIn_eq_forIn_range']
    simp only [Std.Legacy.Range.size, Nat.sub_zero, Nat.add_sub_cancel, Nat.div_one]
    refine wpAny_forIn_list _
      (fun rest q s' => s' = s ∧ q = (none, ()) ∧ ∃ i, rest = List.range' i (es.size - i) ∧ i ≤ es.size ∧ HitsH prog w A s kb (ka.drop i) r)
      _ ?_ ?_ _ _ ⟨rfl, rfl, 0, by simp, Nat.zero_le _, hits⟩
    · rintro x rest q s' ⟨rfl, rfl, i, hr, hi, hpre⟩
      have hlt : i < es.size := by
        rcases Nat.lt_or_ge i es.size with h | h
        · exact h
        · rw [Nat.sub_eq_zero_of_le h] at hr; simp at hr
      obtain ⟨rfl, hrest⟩ : x = i ∧ rest = List.range' (i + 1) (es.size - (i + 1)) := by
        have e : es.size - i = (es.size - (i + 1)) + 1 := by omega
        rw [e, List.range'_succ] at hr
        injection hr with h1 h2
        exact ⟨h1, h2⟩
      refine wpAny_bind (wpAny_dictEntries hoa hda ?_)
      rw [Array.getElem?_eq_getElem hlt]
      have hlt' : x < ka.length := by rw [hla]; exact hlt
      obtain ⟨k, ad, v, hkv⟩ : ∃ k ad v, ka[x] = (k, ad, v) := ⟨_, _, _, rfl⟩
      have hdrop : ka.drop x = (k, ad, v) :: ka.drop (x + 1) := by rw [← hkv]; exact List.drop_eq_getElem_cons hlt'
      have hen : es[x] = entryOfKey knd (k, ad, v) := by
        have := entry_at hea x
        rw [Array.getElem?_eq_getElem hlt, List.getElem?_eq_getElem hlt', hkv] at this
        exact Option.some.inj this
      rw [hdrop] at hpre
      rw [hen]
      have hkey : knd.is s'.heap k ad := hia (k, ad, v) (by rw [← hkv]; exact List.getElem_mem hlt')
      show wpAny _ _ (holding [(entryOfKey knd (k, ad, v)).key, (entryOfKey knd (k, ad, v)).val] _ >>= _) _ _ _
      refine wpAny_bind (wpAny_holding (wpAny_bind (wpAny_dictFind_heap hu hkey hob hdb heb hib hnb (fun hno => ?_) fun j p hj => ?_)))
      · have hn : atKey kb k = none := atKey_none_of_get hno
        rcases hpre.inv with ⟨_, er⟩ | ⟨y, _, _, hy, _⟩
        · rw [er] at h'
          refine wpAny_pure ?_
          show wpAny _ _ (if (!false) = true then _ else _) _ _ _
          rw [if_pos (by decide)]
          exact wpAny_pure (wpAny_pure h')
        · rw [hn] at hy; exact nomatch hy
      · have hv' : atKey kb k = some p := atKey_of_get hnb hj
        have hjlt : j < es'.size := by rw [← hlb]; exact (List.getElem?_eq_some_iff.mp hj).1
        have hej : es'[j] = entryOfKey knd (k, p) := by
          have := entry_at heb j
          rw [Array.getElem?_eq_getElem hjlt, hj] at this
          exact Option.some.inj this
        refine wpAny_bind (wpAny_dictEntries hob hdb ?_)
        rw [Array.getElem?_eq_getElem hjlt]
        rcases hpre.inv with ⟨hn, _⟩ | ⟨y, e, b', hy, he, hrr, er⟩
        · rw [hv'] at hn; exact nomatch hn
        · have ey : p = y := Option.some.inj (hv'.symm.trans hy)
          rw [← ey] at he
          have he' : SeqAt.EqP prog w A s' v es'[j].val e := by rw [hej]; exact he
          refine wpAny_holding (he' _ _ ?_)
          cases e with
          | false =>
            rw [er, Bool.false_and] at h'
            show wpAny _ _ (if (!false) = true then _ else _) _ _ _
            rw [if_pos (by decide)]
            exact wpAny_pure (wpAny_pure h')
          | true =>
            rw [Bool.true_and] at er
            rw [← er] at hrr
            show wpAny _ _ (if (!true) = true then _ else _) _ _ _
            rw [if_neg (by decide)]
            refine wpAny_bind (wpAny_dictEpoch hoa hda ?_)
            rw [if_neg (by simp)]
            exact wpAny_pure ⟨rfl, rfl, x + 1, hrest, hlt, hrr⟩
    · rintro q s' ⟨rfl, rfl, i, hr, hi, hpre⟩
      have hin : i = es.size := by
        rcases Nat.lt_or_ge i es.size with h | h
        · have e : es.size - i = (es.size - (i + 1)) + 1 := by omega
          rw [e, List.range'_succ] at hr; exact nomatch hr
        · exact Nat.le_antisymm hi h
      refine wpAny_pure ?_
      rw [hin, ← hla, List.drop_length] at hpre
      cases hpre
      exact h'
theorem eq_dictsH {a b : Addr} {ka kb : List (K × Addr × Value)} {r : Bool} {Q : Value → Shared → Prop} (hr : knd.room A.in1) (ha : (a == sysModules) = false) (hb : (b == sysModules) = false)
    (da : s.heap.DictOfH knd a ka) (db : s.heap.DictOfH knd b kb) (hu : A.units < cLine) (hits : HitsH prog w A.in1 s kb ka r) (h : Q (.bool (ka.length == kb.length && r)) s) :
    wpAny (model prog w) A (compareOp .Eq (.ref a) (.ref b)) Q E s := by
  refine wpAny_richCompare_same_room (op := .Eq) da.typeIs db.typeIs PySem.F.slot_dict_eq (wpAny_call_entry PySem.F.slot_dict_eq da.typeIs PySem.F.entry_dict_eq ?_ (PySem.F.args_dict_eq_2 _ _)) hu
  show wpAny _ _ (Builtin.Dict.dictSlotArgs "__eq__" ⟨[.ref a, .ref b], []⟩ >>= _) _ _ s
  refine wpAny_bind ?_
  unfold Builtin.Dict.dictSlotArgs
  refine wpAny_bind (wpAny_notOrdered_dict da.typeIs ?_)
  show wpAny _ _ (pure (Value.ref a, Value.ref b)) _ _ s
  refine wpAny_pure ?_
  refine wpAny_bind (wpAny_isInstance (T := "dict") db.typeIs PySem.F.sub_dict_dict ?_)
  simp only [Bool.not_true, Bool.false_eq_true, if_false]
  refine wpAny_bind (wpAny_pure (wpAny_bind (wpAny_pure ?_)))
  refine wpAny_bind (samePairsH hr ha hb da db hits ?_)
  refine wpAny_pure ⟨_, rfl, ?_, ?_⟩
  · exact fun x => nomatch x
  · simpa using h
end
end PD
namespace PD
open PySem PySem.Spec PyProof.Rows L2
variable [TabC]
inductive HitV (K : PySem.W.Frag) (H : Hp) (kb : List (List Key × V)) : List (List Key × V) → Bool → Prop
  | nil : HitV K H kb [] true
  | miss {k : List Key} {v : V} {r : List (List Key × V)} : valV kb k = none → HitV K H kb ((k, v) :: r) false
  | hit {k : List Key} {v y : V} {r : List (List Key × V)} {p q : PyData} {b : Bool} : valV kb k = some y → Dp K H v p → Dp K H y q → SeqAt.shaped p = true → SeqAt.shaped q = true → HitV K H kb r b → HitV K H kb ((k, v) :: r) (PyData.eqv p q && b)
def rEqT (f : Bool → Bool) (K : PySem.W.Frag) : R2 := fun x y H Q => ∃ a b ka kb r, x = .ref a ∧ y = .ref b ∧ Rd H a (.dT ka) ∧ Rd H b (.dT kb) ∧ HitV K H kb ka r ∧ Q (.bl (f (ka.length == kb.length && r))) H
section
variable {X : Cx} {pins : List (Addr × Obj)} {σ : L2.St} {H : Hp} {s : Shared}
theorem hitsH_of (I : Inv X pins σ H s) {A : Around} (hu : A.units + 64 < cLine) {kb : List (List Key × V)} {xb : List (List Key × Addr × Value)} (rb : KT H kb xb) : ∀ {ka : List (List Key × V)} {xa : List (List Key × Addr × Value)} {r : Bool}, KT H ka xa → HitV X.K H kb ka r → HitsH X.prog X.w A s xb xa r
  | _, _, _, .nil, .nil => .nil
  | _, _, _, .cons (a := (k, v)) (b := (k2, q)) h t, hv => by
    obtain ⟨h1, h2, h3⟩ := h
    cases (show k = k2 from h1)
    have rv := rb.val k
    cases hv with
    | miss hn =>
      rw [hn] at rv
      refine .miss ?_
      cases e : atKey xb k with
      | none => rfl
      | some z => rw [e] at rv; exact (show False from rv).elim
    | @hit _ _ y _ p p2 b hy d1 d2 s1 s2 hr =>
      rw [hy] at rv
      cases e : atKey xb k with
      | none => rw [e] at rv; exact (show False from rv).elim
      | some z =>
        rw [e] at rv
        obtain ⟨as, r1⟩ := Dp.reads I p v q.2 d1 h3
        obtain ⟨bs, r2⟩ := Dp.reads I p2 y z.2 d2 rv
        exact .hit e (SeqAt.eqAt_reads p p2 A s _ _ as bs r1 r2 (SeqAt.canLay_of_shaped s1) (SeqAt.canLay_of_shaped s2) (SeqAt.room_of_shaped s1 hu)).eqP (hitsH_of I hu rb t hr)
theorem op_eqT (hu : X.A.units + 66 < cLine) : OpR X (compareOp .Eq) (rEqT id X.K) := by
  intro pins s σ H x y v u Q I rx ry h
  obtain ⟨a, b, ka, kb, r, rfl, rfl, ha, hb, hv, q⟩ := h
  cases rx
  cases ry
  obtain ⟨_, na, xa, ka', da⟩ := dt_rd I.hok ha
  obtain ⟨_, nb, xb, kb', db⟩ := dt_rd I.hok hb
  have l1 : ka.length = xa.length := Paired.length ka'
  have l2 : kb.length = xb.length := Paired.length kb'
  refine eq_dictsH (knd := tupleKind (mixKind X.prog X.w)) (tupleKind_room_in1 (by omega)) na nb da db (by omega) (hitsH_of I (by show X.A.units + 1 + 64 < cLine; omega) kb' ka' hv) ⟨.bl _, H, I, rfl, ?_⟩
  rw [← l1, ← l2]
  exact q
end
def hitD (ys : List (List Key × D)) : List (List Key × D) → Option Bool
  | [] => some true
  | (k, d) :: r => match valD ys k with
    | none => some false
    | some d2 => (eqB d d2).bind fun e => (hitD ys r).map fun b => e && b
def eqTD (f : Bool → Bool) (a b : D) : Option D := match a, b with
  | .dt xs, .dt ys => (hitD ys xs).map fun r => .bl (f (xs.length == ys.length && r))
  | _, _ => none
section
variable {K : PySem.W.Frag} {mg : Str → Option Value} {E : Ev} {H : Hp}
theorem hitV_of {ys : List (List Key × D)} {kb : List (List Key × V)} (rb : RepK K mg E H kb ys) : ∀ {ka : List (List Key × V)} {xs : List (List Key × D)} {r : Bool}, RepK K mg E H ka xs → hitD ys xs = some r → HitV K H kb ka r
  | [], [], r, _, h => by cases h; exact .nil
  | [], _ :: _, _, h, _ => by have := h.k; simp at this
  | _ :: _, [], _, h, _ => by have := h.k; simp at this
  | (k, v) :: ka, (k2, d) :: xs, r, h, e => by
    have hk := h.k
    have hv := h.v
    simp only [List.map_cons, List.cons.injEq] at hk
    rw [List.map_cons, List.map_cons] at hv
    cases (show k = k2 from hk.1)
    cases hv with
    | cons rv t =>
      unfold hitD at e
      have vb := rb.val k
      split at e
      · rename_i hn
        cases e
        rcases vb with ⟨v1, _⟩ | ⟨_, _, _, v2, _⟩
        · exact .miss v1
        · rw [hn] at v2; cases v2
      · rename_i d2 hd
        obtain ⟨c, e1, e⟩ := Option.bind_eq_some_iff.mp e
        obtain ⟨b, e2, rfl⟩ := Option.map_eq_some_iff.mp e
        obtain ⟨p, q, p1, p2, s1, s2, rfl⟩ := eqB_some e1
        rcases vb with ⟨_, v2⟩ | ⟨y, d3, v1, v2, ry⟩
        · rw [hd] at v2; cases v2
        · rw [hd] at v2
          cases v2
          exact .hit v1 (rv.dp p1) (ry.dp p2) s1 s2 (hitV_of rb ⟨hk.2, t⟩ e2)
theorem opd_eqT {f : Bool → Bool} : OpD K mg (eqTD f) (rEqT f K) := fun E H x y d1 d2 d Q hN r1 r2 g q => by
  unfold eqTD at g
  split at g
  · obtain ⟨r, h1, rfl⟩ := Option.map_eq_some_iff.mp g
    obtain ⟨a, ka, rfl, ha, k1, v1⟩ := r1.dt
    obtain ⟨b, kb, rfl, hb, k2, v2⟩ := r2.dt
    have l1 := congrArg List.length k1
    have l2 := congrArg List.length k2
    rw [List.length_map, List.length_map] at l1 l2
    refine ⟨a, b, ka, kb, r, rfl, rfl, ha, hb, hitV_of ⟨k2, v2⟩ ⟨k1, v1⟩ h1, ?_⟩
    rw [l1, l2]
    exact q _ _ (Same.refl _) (.bl _)
  · cases g
end
theorem hu66 {A : Around} {k : Nat} (hr : Room k A) : A.units + 66 < cLine := by have := hr.un; omega
end PD
namespace PD
open PySem PySem.Spec PyProof.Rows L2
variable [TabC]
section
variable {X : Cx} {i : Nat} {y : Str} {py pos spos : Pos} {kx vx tg iter : Expr} {ifs : List Expr} {scope : Scope} {own : List (Str × Nat)} {wi : TI} {g : TG} {tt : TT} {tk tv : TE} {fi : Co (List D)} {t : Bool} {is : List Nat} {ft : Co Bool} {fk fv : Co D}
theorem swd_true {l : Nat} {gs : List Comprehension} {env : Env} (hk : env.scope.kind = .function) (hy : env.scope.names.lookup y = some .local) (hl : (py.line == pos.line) = true)
    (ha : (scope.names.any fun (n, k) => n == y && (k == .local || k == .cell)) = false) : swapsWith (.DictComp kx vx gs scope pos) (some (.Name y py)) l env = pure true := by
  have ky : env.kindOf y = some .local := hy
  have hb : env.blockKind = .function := by unfold Env.blockKind; rw [hk]; rfl
  unfold swapsWith
  simp only [hb, ky, ha, Expr.pos, hl]
  rfl
theorem ps_setDcT (hu : X.A.units + 1 < cLine) (hc : X.calm = true) (hN : X.N.Nodup) (hy : X.N[i]? = some y) (hyl : X.env.scope.names.lookup y = some .local)
    (hsw : swapsWith (.DictComp kx vx [⟨tg, iter, ifs, 0⟩] scope pos) (some (.Name y py)) spos.line X.env = pure true) (hi : PI X tg iter wi) (ok : BlkOk X.N X.env.scope scope own)
    (hg : ∀ (s : Shared) (H : Hp) (C : Addr) (cl : List (Str × Addr)) (fp : List Addr), PG (X.blk s H scope (compEnvC scope cl C X.env) fp) tg g) (ht : ∀ (s : Shared) (H : Hp) (C : Addr) (cl : List (Str × Addr)) (fp : List Addr), PTs (X.blk s H scope (compEnvC scope cl C X.env) fp) ifs tt)
    (hk : ∀ (s : Shared) (H : Hp) (C : Addr) (cl : List (Str × Addr)) (fp : List Addr), PE (X.blk s H scope (compEnvC scope cl C X.env) fp) kx tk)
    (he : ∀ (s : Shared) (H : Hp) (C : Addr) (cl : List (Str × Addr)) (fp : List Addr), PE (X.blk s H scope (compEnvC scope cl C X.env) fp) vx tv) (hs : ∀ x, foldedSetIterable iter X.env x = pure x := by intro _; rfl) :
    PS X (.Assign [.Name y py] (.DictComp kx vx [⟨tg, iter, ifs, 0⟩] scope pos) spos) (tAsg (tDcT wi g tt tk tv (own.map (·.2))) (gName i)) := by
  refine ⟨fun pins s σ H D I h => ?_⟩
  rw [exec_Assign_Name_used _ _ _ _ hsw]
  refine wpAny_bind (wpAny_standAt (wpAny_bind ?_))
  show wpAny _ X.A (do let _ ← comprehension (.DictComp kx vx [⟨tg, iter, ifs, 0⟩] scope pos) scope X.env (firstIterPos [⟨tg, iter, ifs, 0⟩] pos) newDict false (eval iter X.env) (some (assign (.Name y py) X.env))) _ _ s
  have h : tDcT wi g tt tk tv (own.map (·.2)) σ H (fun x H1 => gName i x σ H1 D.nx) := h
  refine wpAny_bind (thn (dcT_core (Qf := fun _ s' => SP X pins D .next s') hu hc hN I hi ok hg ht hk he hs h fun L C s' m H' I' q hn f => ?_) fun _ s' hq => wpAny_pure (wpAny_pure hq))
  show wpAny _ _ (assign (.Name y py) X.env (.ref L)) _ _ _
  refine wpAny_assign_Name (store_ok2 (v := V.ref L) I' hN hy (.inl hyl) rfl (fun s2 I2 ⟨a, sb, ha⟩ => ?_) (.inr hyl))
  obtain ⟨f0, f1, f2, f3, f4, f5⟩ := f
  have haC : C ≠ a := by
    rcases ha with z | z
    · rw [z]; exact f1
    · exact fun e => f4 y a z e.symm
  refine ⟨m, hn.sameBut sb haC, fun h3 sb3 => ?_⟩
  exact ⟨_, H', I2.turned (t' := s2.toks) (fun b o hb e => (sb3.2 b hb).trans e) f0 f1 f3 f4 f5, q⟩
theorem ss_setDcTP (hu : X.A.units + 1 < cLine) (hN : X.N.Nodup) (hi : EI X tg iter fi) (ok : BlkOk X.N X.env.scope scope own)
    (hg : ∀ (s : Shared) (H : Hp) (C : Addr) (cl : List (Str × Addr)) (fp : List Addr), GG (X.blk s H scope (compEnvC scope cl C X.env) fp) tg t is)
    (ht : ∀ (s : Shared) (H : Hp) (C : Addr) (cl : List (Str × Addr)) (fp : List Addr), ETs (X.blk s H scope (compEnvC scope cl C X.env) fp) ifs ft)
    (hk : ∀ (s : Shared) (H : Hp) (C : Addr) (cl : List (Str × Addr)) (fp : List Addr), EE (X.blk s H scope (compEnvC scope cl C X.env) fp) kx fk)
    (he : ∀ (s : Shared) (H : Hp) (C : Addr) (cl : List (Str × Addr)) (fp : List Addr), EE (X.blk s H scope (compEnvC scope cl C X.env) fp) vx fv)
    (hy : X.N[i]? = some y := by rfl) (hyl : X.env.scope.names.lookup y = some .local := by rfl) (hsw : swapsWith (.DictComp kx vx [⟨tg, iter, ifs, 0⟩] scope pos) (some (.Name y py)) spos.line X.env = pure true := by exact swd_true rfl rfl rfl rfl)
    (hv : ∀ i ∈ is, i ∈ own.map (·.2) := by decide) (hc : X.calm = true := by rfl) (hs : ∀ x, foldedSetIterable iter X.env x = pure x := by intro _; rfl) :
    SS X (.Assign [.Name y py] (.DictComp kx vx [⟨tg, iter, ifs, 0⟩] scope pos) spos) (sSet i (eDcT fi t is (own.map (·.2)) ft fk fv)) :=
  PS.imp (ps_setDcT hu hc hN hy hyl hsw hi ok hg ht hk he hs) fun D σ H h => dcT_rd hv (rdS_setP h)
end
end PD
namespace PD
open PySem PySem.Spec PyProof.Rows L2
def tabsOf (L : List (Addr × Str)) (hn : (L.map (·.1)).Nodup) (sy : Str → Option LamSyn) : TabC := ⟨fun P q => (P, q) ∈ L, fun P q q' h h' => by
  induction L with
  | nil => cases h
  | cons e L ih =>
    rw [List.map_cons, List.nodup_cons] at hn
    rcases List.mem_cons.mp h with h1 | h1 <;> rcases List.mem_cons.mp h' with h2 | h2
    · rw [← h1] at h2; exact (congrArg Prod.snd h2).symm
    · exact absurd (List.mem_map.mpr ⟨_, h2, by rw [← h1]⟩) hn.1
    · exact absurd (List.mem_map.mpr ⟨_, h1, by rw [← h2]⟩) hn.1
    · exact ih hn.2 h1 h2, sy⟩
theorem tabs_cs {L : List (Addr × Str)} {hn : (L.map (·.1)).Nodup} {sy : Str → Option LamSyn} {cs : List (Addr × Addr)} (h : cs.map (·.2) = L.map (·.1)) : ∀ P q, (tabsOf L hn sy).T P q → ∃ p ∈ cs, p.2 = P := fun P q t => by
  have h1 : P ∈ cs.map (·.2) := by rw [h]; exact List.mem_map.mpr ⟨(P, q), t, rfl⟩
  exact List.mem_map.mp h1
end PD
namespace C
open PySem PD
noncomputable def b_is_int : Co Flow' := sRet (eAnd (eCall isiD (bCons (vB (vPl 0)) (bCons (vB (Co.ret (.ty "int"))) (Co.ret [])))) (eNot (eCall isiD (bCons (vB (vPl 0)) (bCons (vB (Co.ret (.ty "bool"))) (Co.ret []))))))
noncomputable def F_is_int : Fd := runF 1 1 b_is_int false
noncomputable def b_is_in : Co Flow' := sRet (eAnd (eFn C.F_is_int (eCons (vPl 0) (Co.ret []))) (eChain leI leI (vB (vPl 1)) (vB (vPl 0)) (vB (vPl 2))))
noncomputable def F_is_in : Fd := runF 3 3 b_is_in false
noncomputable def b_need_number : Co Flow' := sIf (tNot' (tB' (eFn C.F_is_in (eCons (vPl 0) (eCons (vPl 1) (eCons (vPl 2) (Co.ret [])))))))
  sNo
  sNext
noncomputable def F_need_number : Fd := runF 3 3 b_need_number false
noncomputable def b_need_board : Co Flow' := sSeq (sExpr (eFn C.F_need_number (eCons (vPl 0) (eCons (Co.ret (.int 1)) (eCons (Co.ret (.int 12)) (Co.ret []))))))
  (sExpr (eFn C.F_need_number (eCons (vPl 1) (eCons (Co.ret (.int 1)) (eCons (Co.ret (.int 12)) (Co.ret []))))))
noncomputable def F_need_board : Fd := runF 2 2 b_need_board false
noncomputable def b_common : Co Flow' := sSeq (sWhile (tB' (eOp gtI (vB (vPl 1)) (vB (Co.ret (.int 0)))))
  (sAsg [0, 1] (xPl (vPl 1) (xPl (eOp modD (vB (vPl 0)) (vB (vPl 1))) xNil))))
  (sRet (vPl 0))
noncomputable def F_common : Fd := runF 2 2 b_common false
noncomputable def b_lowered : Co Flow' := sSeq (sSet 2 (eFn C.F_common (eCons (eCall absD (bCons (vB (vPl 0)) (Co.ret []))) (eCons (vPl 1) (Co.ret [])))))
  (sRet (eTup (eCons (eOp divD (vB (vPl 0)) (vB (vPl 2))) (eCons (eOp divD (vB (vPl 1)) (vB (vPl 2))) (Co.ret [])))))
noncomputable def F_lowered : Fd := runF 3 2 b_lowered false
noncomputable def b__law_taken : Co Flow' := sSeq (sIf (tB' (eOp gtI (vB (eOp subD' (vB (vPl 0)) (vB (Co.ret (.int 3))))) (vB (Co.ret (.int 0)))))
  (sSeq (sSet 2 (eOp modD (vB (eCall intD (bCons (vB (eOp subD' (vB (vPl 0)) (vB (Co.ret (.int 3))))) (Co.ret [])))) (vB (vPl 1))))
  (sSeq (sPut (vB (vPl 0)) (Co.ret (.int 3)) (eOp divD (vB (eOp subD' (vB (vPl 0)) (vB (Co.ret (.int 3))))) (vB (vPl 1))))
  (sRet (vPl 2))))
  sNext)
  (sSeq (sPut (vB (vPl 0)) (Co.ret (.int 1)) (eOp addD (vB (eOp subD' (vB (vPl 0)) (vB (Co.ret (.int 1))))) (vB (Co.ret (.int 1)))))
  (sSeq (sIf (tB' (eOp gtI (vB (eOp subD' (vB (vPl 0)) (vB (Co.ret (.int 1))))) (vB (eCall lenU (bCons (vB (eOp subD' (vB (vPl 0)) (vB (Co.ret (.int 0))))) (Co.ret []))))))
  (sSeq (sPut (vB (vPl 0)) (Co.ret (.int 2)) (eOp modD (vB (eCall intD (bCons (vB (eOp addD (vB (eOp mulD (vB (eOp subD' (vB (vPl 0)) (vB (Co.ret (.int 2))))) (vB (Co.ret (.int 48271))))) (vB (Co.ret (.int 11))))) (Co.ret [])))) (vB (Co.ret (.int 2147483647)))))
  (sRet (eOp modD (vB (eCall intD (bCons (vB (eOp divD (vB (eOp subD' (vB (vPl 0)) (vB (Co.ret (.int 2))))) (vB (Co.ret (.int 7))))) (Co.ret [])))) (vB (vPl 1)))))
  sNext)
  (sSeq (sSet 3 (eOp subD' (vB (eOp subD' (vB (vPl 0)) (vB (Co.ret (.int 0))))) (vB (eOp subD (vB (eOp subD' (vB (vPl 0)) (vB (Co.ret (.int 1))))) (vB (Co.ret (.int 1)))))))
  (sSeq (sPut (vB (vPl 0)) (Co.ret (.int 2)) (eOp modD (vB (eCall intD (bCons (vB (eOp addD (vB (eOp addD (vB (eOp mulD (vB (eOp subD' (vB (vPl 0)) (vB (Co.ret (.int 2))))) (vB (Co.ret (.int 48271))))) (vB (vPl 3)))) (vB (Co.ret (.int 11))))) (Co.ret [])))) (vB (Co.ret (.int 2147483647)))))
  (sSeq (sIf (tB' (eOp geI (vB (vPl 3)) (vB (eOp powD (vB (Co.ret (.int 10))) (vB (Co.ret (.int 18)))))))
  (sPut (vB (vPl 0)) (Co.ret (.int 3)) (eOp divD (vB (vPl 3)) (vB (vPl 1))))
  sNext)
  (sRet (eOp modD (vB (eCall intD (bCons (vB (vPl 3)) (Co.ret [])))) (vB (vPl 1)))))))))
noncomputable def F__law_taken : Fd := runF 4 2 b__law_taken false
noncomputable def b__law_mixed : Co Flow' := sSeq (sAsg [2, 3] (xFr (asL (eCall listU (bCons (vB (vPl 1)) (Co.ret [])))) (xFr (eLst (Co.ret [])) xNil)))
  (sSeq (sFor (iRg1' (eCons (eCall lenU (bCons (vAny 2) (Co.ret []))) (Co.ret []))) false [4]
  (sExpr (eAppend (vAny 3) (ePopAt (vAny 2) (eFn C.F__law_taken (eCons (vPl 0) (eCons (eCall lenU (bCons (vAny 2) (Co.ret []))) (Co.ret []))))))))
  (sFrz 3 (sRet (vPl 3))))
noncomputable def F__law_mixed : Fd := runF 5 2 b__law_mixed false
noncomputable def b__law_stroke : Co Flow' := sSeq (sIf (tB' (eOp ltI (vB (vPl 1)) (vB (eCall lenU (bCons (vB (vPl 0)) (Co.ret []))))))
  (sRet (eOp addD (vB (eOp addD (vB (eSl (vB (vPl 0)) (Co.ret none) (ePart (vPl 1)))) (vB (eTup (eCons (eOp mulD (vB (Co.ret (.str "#"))) (vB (eCall lenU (bCons (vB (eOp subD' (vB (vPl 0)) (vB (Co.ret (.int 0))))) (Co.ret []))))) (Co.ret [])))))) (vB (eSl (vB (vPl 0)) (ePart (eOp addD (vB (vPl 1)) (vB (Co.ret (.int 1))))) (Co.ret none)))))
  sNext)
  (sSeq (sSet 2 (eOp subD (vB (vPl 1)) (vB (eCall lenU (bCons (vB (vPl 0)) (Co.ret []))))))
  (sRet (eCall tupleD (bCons (vB (eLc (iVal (vPl 0)) false [3] [3] (Co.ret true) (eOp addD (vB (eOp addD (vB (eSl (vB (vPl 3)) (Co.ret none) (ePart (vPl 2)))) (vB (Co.ret (.str "."))))) (vB (eSl (vB (vPl 3)) (ePart (eOp addD (vB (vPl 2)) (vB (Co.ret (.int 1))))) (Co.ret none)))))) (Co.ret [])))))
noncomputable def F__law_stroke : Fd := runF 4 2 b__law_stroke false
noncomputable def b__law_strokes : Co Flow' := sSeq (sFor (iVal (vPl 1)) false [2]
  (sSet 0 (eFn C.F__law_stroke (eCons (vPl 0) (eCons (vPl 2) (Co.ret []))))))
  (sRet (vPl 0))
noncomputable def F__law_strokes : Fd := runF 3 2 b__law_strokes false
noncomputable def b__law_common : Co Flow' := sSeq (sAsg [0, 1] (xPl (eCall absD (bCons (vB (vPl 0)) (Co.ret []))) (xPl (eCall absD (bCons (vB (vPl 1)) (Co.ret []))) xNil)))
  (sSeq (sWhile (tB' (eOp neD (vB (vPl 1)) (vB (Co.ret (.int 0)))))
  (sAsg [0, 1] (xPl (vPl 1) (xPl (eOp subD (vB (vPl 0)) (vB (eOp mulD (vB (vPl 1)) (vB (eOp divD (vB (vPl 0)) (vB (vPl 1))))))) xNil))))
  (sRet (vPl 0)))
noncomputable def F__law_common : Fd := runF 2 2 b__law_common false
noncomputable def b__law_share : Co Flow' := sSeq (sSet 2 (eFn C.F__law_common (eCons (vPl 0) (eCons (vPl 1) (Co.ret [])))))
  (sRet (eTup (eCons (eOp divD (vB (vPl 0)) (vB (vPl 2))) (eCons (eOp divD (vB (vPl 1)) (vB (vPl 2))) (Co.ret [])))))
noncomputable def F__law_share : Fd := runF 3 2 b__law_share false
noncomputable def b__law_pick : Co Flow' := sRet (eOp subD' (vB (vPl 1)) (vB (eFn C.F__law_taken (eCons (vPl 0) (eCons (eCall lenU (bCons (vB (vPl 1)) (Co.ret []))) (Co.ret []))))))
noncomputable def F__law_pick : Fd := runF 2 2 b__law_pick false
noncomputable def b__law_picture : Co Flow' := sRet (eCall tupleD (bCons (vB (eLc (iRg1' (eCons (vPl 1) (Co.ret []))) false [3] [3] (Co.ret true) (eM1S joinD (Co.ret (.str "")) (vB (eLc (iRg1' (eCons (vPl 2) (Co.ret []))) false [4] [4] (Co.ret true) (eFn C.F__law_pick (eCons (vPl 0) (eCons (Co.ret (.str "#.")) (Co.ret []))))))))) (Co.ret [])))
noncomputable def F__law_picture : Fd := runF 5 3 b__law_picture false
noncomputable def b_are_strokes : Co Flow' := sRet (eAnd (eCall isiD (bCons (vB (vPl 2)) (bCons (vB (Co.ret (.ty "list"))) (Co.ret [])))) (eCall allD (bCons (vB (eLc (iVal (vPl 2)) false [3] [3] (Co.ret true) (eFn C.F_is_in (eCons (vPl 3) (eCons (Co.ret (.int 0)) (eCons (eOp subD (vB (eOp addD (vB (vPl 0)) (vB (vPl 1)))) (vB (Co.ret (.int 1)))) (Co.ret []))))))) (Co.ret []))))
noncomputable def F_are_strokes : Fd := runF 4 3 b_are_strokes false
noncomputable def b_need_strokes : Co Flow' := sIf (tNot' (tB' (eFn C.F_are_strokes (eCons (vPl 0) (eCons (vPl 1) (eCons (vPl 2) (Co.ret [])))))))
  sNo
  sNext
noncomputable def F_need_strokes : Fd := runF 3 3 b_need_strokes false
noncomputable def b_normal_of : Co Flow' := sSeq (sAsg [3, 4, 5] (xFr (eLst (Co.ret [])) (xFr (Co.ret (.dk [])) (xFr (eLst (eCons (Co.ret (.int 0)) (eCons (Co.ret (.int 0)) (Co.ret [])))) xNil))))
  (sSeq (sFor (iVal (eOp1 revUD (vB (vPl 2)))) false [6]
  (sIf (tAnd' (tB' (eOp notInU (vB (vPl 6)) (vAny 4))) (tAnd' (tB' (eOp ltI (vB (eOp subD' (vAny 5) (vB (Co.ret (.int 0))))) (vB (vPl 0)))) (tB' (eOp ltI (vB (eOp subD' (vAny 5) (vB (Co.ret (.int 1))))) (vB (vPl 1))))))
  (sSeq (sPut (vAny 4) (vPl 6) (Co.ret (.bl true)))
  (sSeq (sSet 7 (eIf (tB' (eOp ltI (vB (vPl 6)) (vB (vPl 0)))) (Co.ret (.int 0)) (Co.ret (.int 1))))
  (sSeq (sLAug (fun a b => a + b) (vAny 5) (vPl 7) (Co.ret (.int 1)))
  (sIf (tAnd' (tB' (eOp neNilD (vAny 3) (vB (eLst (Co.ret []))))) (tB' (eOp eqD (vB (eOp ltI (vB (eOp subD' (vB (eOp subD' (vAny 3) (vB (un1 negD (Co.ret (.int 1)))))) (vB (Co.ret (.int 0))))) (vB (vPl 0)))) (vB (eOp ltI (vB (vPl 6)) (vB (vPl 0)))))))
  (sExpr (eAppend (vB (eOp subD' (vAny 3) (vB (un1 negD (Co.ret (.int 1)))))) (vPl 6)))
  (sExpr (eAppend (vAny 3) (eNewOb (eLst (eCons (vPl 6) (Co.ret []))))))))))
  sNext))
  (sSeq (sSet 8 (eLst (Co.ret [])))
  (sSeq (sFor (iVal (eOp1 revUD (vAny 3))) false [9]
  (sSet 8 (eOp addD (vB (vPl 8)) (vB (asL (eCall sortedID (bCons (vB (vPl 9)) (Co.ret []))))))))
  (sRet (eCall tupleD (bCons (vB (vPl 8)) (Co.ret [])))))))
noncomputable def F_normal_of : Fd := cutF (runF 10 3 b_normal_of false)
noncomputable def b_effect : Co Flow' := sSeq (sExpr (eFn C.F_need_board (eCons (vPl 0) (eCons (vPl 1) (Co.ret [])))))
  (sSeq (sExpr (eFn C.F_need_strokes (eCons (vPl 0) (eCons (vPl 1) (eCons (vPl 2) (Co.ret []))))))
  (sRet (eFn C.F_normal_of (eCons (vPl 0) (eCons (vPl 1) (eCons (vPl 2) (Co.ret [])))))))
noncomputable def F_effect : Fd := runF 3 3 b_effect false
noncomputable def b_is_effect_of : Co Flow' := sSeq (sIf (tOr' (tNot' (tB' (eCall isiD (bCons (vB (vPl 2)) (bCons (vB (Co.ret (.ty "tuple"))) (Co.ret [])))))) (tNot' (tB' (eFn C.F_are_strokes (eCons (vPl 0) (eCons (vPl 1) (eCons (asL (eCall listU (bCons (vB (vPl 2)) (Co.ret [])))) (Co.ret []))))))))
  (sRet (Co.ret (.bl false)))
  sNext)
  (sRet (eOp eqD (vB (eFn C.F_normal_of (eCons (vPl 0) (eCons (vPl 1) (eCons (asL (eCall listU (bCons (vB (vPl 2)) (Co.ret [])))) (Co.ret [])))))) (vB (vPl 2))))
noncomputable def F_is_effect_of : Fd := runF 3 3 b_is_effect_of false
noncomputable def b_support_of : Co Flow' := sSeq (sSet 3 (asL (eCall sortedID (bCons (vB (eDc (iVal (vPl 2)) false [5] [5] (Co.ret true) (vPl 5) (Co.ret (.bl true)))) (Co.ret [])))))
  (sSeq (sSet 4 (eCall lenU (bCons (vB (eLc (iVal (vPl 3)) false [5] [5] (tB' (eOp ltI (vB (vPl 5)) (vB (vPl 0)))) (Co.ret (.int 1)))) (Co.ret []))))
  (sSeq (sIf (tOr' (tB' (eOp eqD (vB (vPl 4)) (vB (vPl 0)))) (tB' (eOp eqD (vB (eOp subD (vB (eCall lenU (bCons (vB (vPl 3)) (Co.ret [])))) (vB (vPl 4)))) (vB (vPl 1)))))
  (sRet (eTRg (rR1 (eOp addD (vB (vPl 0)) (vB (vPl 1))))))
  sNext)
  (sRet (eCall tupleD (bCons (vB (vPl 3)) (Co.ret []))))))
noncomputable def F_support_of : Fd := runF 6 3 b_support_of false
noncomputable def b_tidied : Co Flow' := sSeq (sSet 1 (Co.ret (.int 0)))
  (sSeq (sForVals 0 false [2]
  (sSet 1 (eFn C.F_common (eCons (vPl 2) (eCons (vPl 1) (Co.ret []))))))
  (sRet (eCall tupleXD (bCons (vB (eLc (iVal (asL (eCall sortedDZD (bCons (vB (vPl 0)) (Co.ret []))))) false [3] [3] (Co.ret true) (eTup (eCons (vPl 3) (eCons (eOp divD (vB (eOp subD' (vB (vPl 0)) (vB (vPl 3)))) (vB (vPl 1))) (Co.ret [])))))) (Co.ret [])))))
noncomputable def F_tidied : Fd := runF 4 1 b_tidied false
noncomputable def b_measure : Co Flow' := sSeq (sExpr (eFn C.F_need_board (eCons (vPl 0) (eCons (vPl 1) (Co.ret [])))))
  (sSeq (sIf (tOr' (tNot' (tB' (eCall isiD (bCons (vB (vPl 2)) (bCons (vB (Co.ret (.ty "list"))) (Co.ret [])))))) (tB' (eOp eqD (vB (vPl 2)) (vB (eLst (Co.ret []))))))
  sNo
  sNext)
  (sSeq (sSetF 3 (Co.ret (.dt [])))
  (sSeq (sFor (iVal (vPl 2)) false [4]
  (sSeq (sIf (tOr' (tNot' (tB' (eCall isiD (bCons (vB (vPl 4)) (bCons (vB (Co.ret (.ty "tuple"))) (Co.ret [])))))) (tOr' (tB' (eOp neD (vB (eCall lenU (bCons (vB (vPl 4)) (Co.ret [])))) (vB (Co.ret (.int 2))))) (tNot' (tB' (eFn C.F_is_in (eCons (eOp subD' (vB (vPl 4)) (vB (Co.ret (.int 1)))) (eCons (Co.ret (.int 1)) (eCons (Co.ret (.int 1000000)) (Co.ret [])))))))))
  sNo
  sNext)
  (sSeq (sExpr (eFn C.F_need_strokes (eCons (vPl 0) (eCons (vPl 1) (eCons (eOp subD' (vB (vPl 4)) (vB (Co.ret (.int 0)))) (Co.ret []))))))
  (sSeq (sSet 5 (eFn C.F_normal_of (eCons (vPl 0) (eCons (vPl 1) (eCons (eOp subD' (vB (vPl 4)) (vB (Co.ret (.int 0)))) (Co.ret []))))))
  (sPut (vAny 3) (vPl 5) (eOp addD (vB (eGet2 (vAny 3) (vPl 5) (Co.ret (.int 0)))) (vB (eOp subD' (vB (vPl 4)) (vB (Co.ret (.int 1)))))))))))
  (sSeq (sIf (tB' (eOp gtI (vB (eCall lenU (bCons (vAny 3) (Co.ret [])))) (vB (Co.ret (.int 500)))))
  sNo
  sNext)
  (sFrz 3 (sRet (eFn C.F_tidied (eCons (vPl 3) (Co.ret [])))))))))
noncomputable def F_measure : Fd := runF 6 3 b_measure false
noncomputable def b_is_measure_of : Co Flow' := sSeq (sIf (tOr' (tNot' (tB' (eCall isiD (bCons (vB (vPl 2)) (bCons (vB (Co.ret (.ty "tuple"))) (Co.ret [])))))) (tNot' (tB' (eChain leI leI (vB (Co.ret (.int 1))) (vB (eCall lenU (bCons (vB (vPl 2)) (Co.ret [])))) (vB (Co.ret (.int 500)))))))
  (sRet (Co.ret (.bl false)))
  sNext)
  (sSeq (sFor (iVal (vPl 2)) false [3]
  (sSeq (sIf (tOr' (tNot' (tB' (eCall isiD (bCons (vB (vPl 3)) (bCons (vB (Co.ret (.ty "tuple"))) (Co.ret [])))))) (tOr' (tB' (eOp neD (vB (eCall lenU (bCons (vB (vPl 3)) (Co.ret [])))) (vB (Co.ret (.int 2))))) (tNot' (tB' (eFn C.F_is_effect_of (eCons (vPl 0) (eCons (vPl 1) (eCons (eOp subD' (vB (vPl 3)) (vB (Co.ret (.int 0)))) (Co.ret [])))))))))
  (sRet (Co.ret (.bl false)))
  sNext)
  (sIf (tOr' (tNot' (tB' (eFn C.F_is_int (eCons (eOp subD' (vB (vPl 3)) (vB (Co.ret (.int 1)))) (Co.ret []))))) (tB' (eOp ltI (vB (eOp subD' (vB (vPl 3)) (vB (Co.ret (.int 1))))) (vB (Co.ret (.int 1))))))
  (sRet (Co.ret (.bl false)))
  sNext)))
  (sSeq (sIf (tNot' (tB' (eCall allD (bCons (vB (eLc (iZip (eCons (vPl 2) (eCons (eSl (vB (vPl 2)) (ePart (Co.ret (.int 1))) (Co.ret none)) (Co.ret [])))) true [4, 5] [4, 5] (Co.ret true) (eOp ltZD (vB (eOp subD' (vB (vPl 4)) (vB (Co.ret (.int 0))))) (vB (eOp subD' (vB (vPl 5)) (vB (Co.ret (.int 0)))))))) (Co.ret [])))))
  (sRet (Co.ret (.bl false)))
  sNext)
  (sRet (eOp eqD (vB (eFn C.F_tidied (eCons (eCall dictXD (bCons (vB (vPl 2)) (Co.ret []))) (Co.ret [])))) (vB (vPl 2))))))
noncomputable def F_is_measure_of : Fd := runF 6 3 b_is_measure_of false
noncomputable def b_need_measure : Co Flow' := sSeq (sExpr (eFn C.F_need_board (eCons (vPl 0) (eCons (vPl 1) (Co.ret [])))))
  (sIf (tNot' (tB' (eFn C.F_is_measure_of (eCons (vPl 0) (eCons (vPl 1) (eCons (vPl 2) (Co.ret [])))))))
  sNo
  sNext)
noncomputable def F_need_measure : Fd := runF 3 3 b_need_measure false
noncomputable def b_weight_of : Co Flow' := sRet (eCall sumD (bCons (vB (eLc (iVal (vPl 0)) true [1, 2] [1, 2] (Co.ret true) (vPl 2))) (Co.ret [])))
noncomputable def F_weight_of : Fd := runF 3 1 b_weight_of false
noncomputable def b_joins_of : Co Flow' := sSeq (sSetF 3 (eDisp1T (eTup (Co.ret [])) (Co.ret (.bl true))))
  (sSeq (sFor (iVal (vPl 2)) true [4, 5]
  (sSeq (sSet 6 (eFn C.F_support_of (eCons (vPl 0) (eCons (vPl 1) (eCons (vPl 4) (Co.ret []))))))
  (sSeq (sFor (iVal (asL (eCall listTD (bCons (vAny 3) (Co.ret []))))) false [7]
  (sPut (vAny 3) (eFn C.F_support_of (eCons (vPl 0) (eCons (vPl 1) (eCons (eLst (eStar (vPl 7) (eStar (vPl 6) (Co.ret [])))) (Co.ret []))))) (Co.ret (.bl true))))
  (sIf (tB' (eOp gtI (vB (eCall lenU (bCons (vAny 3) (Co.ret [])))) (vB (Co.ret (.int 500)))))
  sNo
  sNext))))
  (sRet (asL (eCall sortedDZD (bCons (vAny 3) (Co.ret []))))))
noncomputable def F_joins_of : Fd := runF 8 3 b_joins_of false
noncomputable def b_within_of : Co Flow' := sSeq (sSet 4 (eDc (iVal (vPl 3)) false [6] [6] (Co.ret true) (vPl 6) (Co.ret (.bl true))))
  (sSeq (sSet 5 (eLc (iVal (vPl 2)) true [7, 8] [7, 8] (tB' (eCall allD (bCons (vB (eLc (iVal (eFn C.F_support_of (eCons (vPl 0) (eCons (vPl 1) (eCons (vPl 7) (Co.ret [])))))) false [6] [6] (Co.ret true) (eOp inU (vB (vPl 6)) (vB (vPl 4))))) (Co.ret [])))) (vPl 8)))
  (sRet (eFn C.F_lowered (eCons (eCall sumD (bCons (vB (vPl 5)) (Co.ret []))) (eCons (eFn C.F_weight_of (eCons (vPl 2) (Co.ret []))) (Co.ret []))))))
noncomputable def F_within_of : Fd := runF 9 4 b_within_of false
noncomputable def b__law_whole : Co Flow' := sRet (eCall sumD (bCons (vB (eLc (iVal (vPl 0)) true [1, 2] [1, 2] (Co.ret true) (vPl 2))) (Co.ret [])))
noncomputable def F__law_whole : Fd := runF 3 1 b__law_whole false
noncomputable def b__law_throws : Co Flow' := sSeq (sSetF 4 (eLst (Co.ret [])))
  (sSeq (sFor (iRg1' (eCons (eOp addD (vB (Co.ret (.int 1))) (vB (eFn C.F__law_taken (eCons (vPl 0) (eCons (vPl 3) (Co.ret [])))))) (Co.ret []))) false [5]
  (sSeq (sSet 6 (eLc (iRg1' (eCons (eFn C.F__law_pick (eCons (vPl 0) (eCons (eLst (eCons (Co.ret (.int 0)) (eCons (Co.ret (.int 1)) (eCons (Co.ret (.int 1)) (eCons (Co.ret (.int 1)) (eCons (Co.ret (.int 2)) (eCons (Co.ret (.int 3)) (Co.ret [])))))))) (Co.ret [])))) (Co.ret []))) false [7] [7] (Co.ret true) (eFn C.F__law_taken (eCons (vPl 0) (eCons (eOp addD (vB (vPl 1)) (vB (vPl 2))) (Co.ret []))))))
  (sExpr (eAppend (vAny 4) (eTup (eCons (vPl 6) (eCons (eOp addD (vB (Co.ret (.int 1))) (vB (eFn C.F__law_taken (eCons (vPl 0) (eCons (Co.ret (.int 4)) (Co.ret [])))))) (Co.ret []))))))))
  (sFrz 4 (sRet (vPl 4))))
noncomputable def F__law_throws : Fd := runF 8 4 b__law_throws false
noncomputable def b_same_chain : Co Flow' := sSeq (sExpr (eFn C.F_need_measure (eCons (vPl 0) (eCons (vPl 1) (eCons (vPl 2) (Co.ret []))))))
  (sSeq (sExpr (eFn C.F_need_measure (eCons (vPl 0) (eCons (vPl 1) (eCons (vPl 3) (Co.ret []))))))
  (sRet (eOp eqD (vB (vPl 2)) (vB (vPl 3)))))
noncomputable def F_same_chain : Fd := runF 4 4 b_same_chain false
noncomputable def b_ordered : Co Flow' := sSeq (sSet 1 (Co.ret (.int 1)))
  (sSeq (sForKeys 0 false [2]
  (sSet 1 (eOp mulD (vB (vPl 1)) (vB (eOp subD' (vB (vPl 2)) (vB (Co.ret (.int 1))))))))
  (sRet (eCall tupleXD (bCons (vB (ordK 0 1)) (Co.ret [])))))
noncomputable def F_ordered : Fd := runF 3 1 b_ordered false
noncomputable def b_least_of : Co Flow' := sSeq (sSet 3 (eDcT (iVal (eFn C.F_joins_of (eCons (vPl 0) (eCons (vPl 1) (eCons (vPl 2) (Co.ret [])))))) false [4] [4] (Co.ret true) (eFn C.F_within_of (eCons (vPl 0) (eCons (vPl 1) (eCons (vPl 2) (eCons (vPl 4) (Co.ret [])))))) (Co.ret (.bl true))))
  (sRet (eLc (iVal (eFn C.F_ordered (eCons (vPl 3) (Co.ret [])))) true [5, 6] [5, 6] (Co.ret true) (vPl 5)))
noncomputable def F_least_of : Fd := runF 7 3 b_least_of false
noncomputable def b_least_values : Co Flow' := sSeq (sExpr (eFn C.F_need_measure (eCons (vPl 0) (eCons (vPl 1) (eCons (vPl 2) (Co.ret []))))))
  (sRet (eCall tupleD (bCons (vB (eFn C.F_least_of (eCons (vPl 0) (eCons (vPl 1) (eCons (vPl 2) (Co.ret [])))))) (Co.ret []))))
noncomputable def F_least_values : Fd := runF 3 3 b_least_values false
noncomputable def b__law_draws : Co Flow' := sSeq (sAsg [3, 4] (xPl (eDisp1T (vPl 1) (Co.ret (.int 1))) (xPl (Co.ret (.int 1)) xNil)))
  (sSeq (sFor (iRg1' (eCons (vPl 2) (Co.ret []))) false [5]
  (sSeq (sSetF 6 (Co.ret (.dt [])))
  (sSeq (sForKeys 3 false [7]
  (sFor (iVal (vPl 0)) true [8, 9]
  (sSeq (sSet 10 (eFn C.F__law_strokes (eCons (vPl 7) (eCons (vPl 8) (Co.ret [])))))
  (sPut (vAny 6) (vPl 10) (eOp addD (vB (eGet2 (vAny 6) (vPl 10) (Co.ret (.int 0)))) (vB (eOp mulD (vB (eOp subD' (vB (vPl 3)) (vB (vPl 7)))) (vB (vPl 9)))))))))
  (sFrz 6 (sAsg [3, 4] (xPl (vPl 6) (xPl (eOp mulD (vB (vPl 4)) (vB (eFn C.F__law_whole (eCons (vPl 0) (Co.ret []))))) xNil)))))))
  (sRet (eCall dictLD (bCons (vB (eLc (iKeysV 3) false [7] [7] (Co.ret true) (eTup (eCons (vPl 7) (eCons (eFn C.F__law_share (eCons (eOp subD' (vB (vPl 3)) (vB (vPl 7))) (eCons (vPl 4) (Co.ret [])))) (Co.ret [])))))) (Co.ret [])))))
noncomputable def F__law_draws : Fd := runF 11 3 b__law_draws false
noncomputable def b_law_K25 : Co Flow' := sSeq (sSetOb 1 (eLst (eCons (vPl 0) (eCons (Co.ret (.int 0)) (eCons (Co.ret (.int 5725)) (eCons (Co.ret (.int 0)) (Co.ret [])))))))
  (sSeq (sAsg [2, 3] (xPl (eOp addD (vB (Co.ret (.int 1))) (vB (eFn C.F__law_taken (eCons (vPl 1) (eCons (Co.ret (.int 4)) (Co.ret [])))))) (xPl (eOp addD (vB (Co.ret (.int 1))) (vB (eFn C.F__law_taken (eCons (vPl 1) (eCons (Co.ret (.int 4)) (Co.ret [])))))) xNil)))
  (sSeq (sSet 4 (eFn C.F__law_throws (eCons (vPl 1) (eCons (vPl 2) (eCons (vPl 3) (eCons (Co.ret (.int 4)) (Co.ret [])))))))
  (sSeq (sAsg [5, 6] (xPl (eFn C.F_measure (eCons (vPl 2) (eCons (vPl 3) (eCons (vPl 4) (Co.ret []))))) (xFr (eLst (Co.ret [])) xNil)))
  (sSeq (sFor (iVal (vPl 4)) true [7, 8]
  (sSeq (sSet 9 (asL (eCall listU (bCons (vB (eFn C.F_effect (eCons (vPl 2) (eCons (vPl 3) (eCons (vPl 7) (Co.ret [])))))) (Co.ret [])))))
  (sSeq (sSet 10 (eOp addD (vB (eLc (iVal (vPl 7)) false [17] [17] (Co.ret true) (vPl 17))) (vB (eLc (iRg1' (eCons (eFn C.F__law_taken (eCons (vPl 1) (eCons (Co.ret (.int 4)) (Co.ret [])))) (Co.ret []))) false [18] [18] (tB' (eOp neD (vB (vPl 9)) (vB (eLst (Co.ret []))))) (eFn C.F__law_pick (eCons (vPl 1) (eCons (vPl 9) (Co.ret []))))))))
  (sSeq (sIf (tB' (eOp eqD (vB (eCall lenU (bCons (vB (eLc (iVal (vPl 9)) false [17] [17] (tB' (eOp ltI (vB (vPl 17)) (vB (vPl 2)))) (vPl 17))) (Co.ret [])))) (vB (vPl 2))))
  (sSet 10 (eOp addD (vB (vPl 10)) (vB (eLc (iRg1' (eCons (Co.ret (.int 3)) (Co.ret []))) false [18] [18] (Co.ret true) (eOp addD (vB (vPl 2)) (vB (eFn C.F__law_taken (eCons (vPl 1) (eCons (vPl 3) (Co.ret []))))))))))
  sNext)
  (sSeq (sIf (tB' (eOp eqD (vB (eCall lenU (bCons (vB (eLc (iVal (vPl 9)) false [17] [17] (tB' (eOp geI (vB (vPl 17)) (vB (vPl 2)))) (vPl 17))) (Co.ret [])))) (vB (vPl 3))))
  (sSet 10 (eOp addD (vB (vPl 10)) (vB (eLc (iRg1' (eCons (Co.ret (.int 3)) (Co.ret []))) false [18] [18] (Co.ret true) (eFn C.F__law_taken (eCons (vPl 1) (eCons (vPl 2) (Co.ret []))))))))
  sNext)
  (sSeq (sSet 11 (eOp addD (vB (eFn C.F__law_taken (eCons (vPl 1) (eCons (vPl 8) (Co.ret []))))) (vB (Co.ret (.int 1)))))
  (sSeq (sExpr (eAppend (vAny 6) (eTup (eCons (eOp addD (vB (eFn C.F__law_mixed (eCons (vPl 1) (eCons (vPl 10) (Co.ret []))))) (vB (vPl 9))) (eCons (vPl 11) (Co.ret []))))))
  (sIf (tB' (eOp ltI (vB (vPl 11)) (vB (vPl 8))))
  (sExpr (eAppend (vAny 6) (eTup (eCons (vPl 7) (eCons (eOp subD (vB (vPl 8)) (vB (vPl 11))) (Co.ret []))))))
  sNext))))))))
  (sSeq (sFrz 6 (sIf (tB' (eOp neD (vB (eFn C.F_measure (eCons (vPl 2) (eCons (vPl 3) (eCons (eFn C.F__law_mixed (eCons (vPl 1) (eCons (vPl 6) (Co.ret [])))) (Co.ret [])))))) (vB (vPl 5))))
  (sRet (Co.ret (.bl false)))
  sNext))
  (sSeq (sSet 12 (eOp addD (vB (Co.ret (.int 1))) (vB (eFn C.F__law_taken (eCons (vPl 1) (eCons (Co.ret (.int 9)) (Co.ret [])))))))
  (sSeq (sIf (tB' (eOp neD (vB (eFn C.F_measure (eCons (vPl 2) (eCons (vPl 3) (eCons (eLc (iVal (vPl 4)) true [7, 8] [7, 8] (Co.ret true) (eTup (eCons (vPl 7) (eCons (eOp mulD (vB (vPl 8)) (vB (vPl 12))) (Co.ret []))))) (Co.ret [])))))) (vB (vPl 5))))
  (sRet (Co.ret (.bl false)))
  sNext)
  (sSeq (sSet 13 (eFn C.F_measure (eCons (vPl 2) (eCons (vPl 3) (eCons (eOp addD (vB (vPl 4)) (vB (eLst (eCons (eTup (eCons (eLst (eCons (eFn C.F__law_taken (eCons (vPl 1) (eCons (eOp addD (vB (vPl 2)) (vB (vPl 3))) (Co.ret [])))) (Co.ret []))) (eCons (eOp addD (vB (Co.ret (.int 1))) (vB (eFn C.F__law_taken (eCons (vPl 1) (eCons (Co.ret (.int 3)) (Co.ret [])))))) (Co.ret [])))) (Co.ret []))))) (Co.ret []))))))
  (sSeq (sSet 14 (eLc (iRg1' (eCons (Co.ret (.int 30)) (Co.ret []))) false [18] [18] (Co.ret true) (eFn C.F__law_picture (eCons (vPl 1) (eCons (vPl 2) (eCons (vPl 3) (Co.ret [])))))))
  (sSeq (sSet 15 (Co.ret (.bl true)))
  (sSeq (sFor (iVal (vPl 14)) false [16]
  (sSet 15 (eAnd (vPl 15) (eOp (eqTD id) (vB (eFn C.F__law_draws (eCons (vPl 5) (eCons (vPl 16) (eCons (Co.ret (.int 1)) (Co.ret [])))))) (vB (eFn C.F__law_draws (eCons (vPl 13) (eCons (vPl 16) (eCons (Co.ret (.int 1)) (Co.ret []))))))))))
  (sSeq (sIf (tOr' (tAnd' (tB' (eFn C.F_same_chain (eCons (vPl 2) (eCons (vPl 3) (eCons (vPl 5) (eCons (vPl 13) (Co.ret []))))))) (tNot' (tB' (vPl 15)))) (tB' (eOp isnotD (vB (eFn C.F_same_chain (eCons (vPl 2) (eCons (vPl 3) (eCons (vPl 5) (eCons (vPl 5) (Co.ret []))))))) (vB (Co.ret (.bl true))))))
  (sRet (Co.ret (.bl false)))
  sNext)
  (sRet (eAnd (eOp eqD (vB (eOp subD' (vB (eFn C.F_least_values (eCons (vPl 2) (eCons (vPl 3) (eCons (vPl 5) (Co.ret [])))))) (vB (Co.ret (.int 0))))) (vB (eTup (eCons (Co.ret (.int 1)) (eCons (Co.ret (.int 1)) (Co.ret [])))))) (eOp eqD (vB (eOp eqD (vB (vPl 5)) (vB (vPl 13)))) (vB (eFn C.F_same_chain (eCons (vPl 2) (eCons (vPl 3) (eCons (vPl 5) (eCons (vPl 13) (Co.ret []))))))))))))))))))))))
noncomputable def F_law_K25 : Fd := runF 19 1 b_law_K25 false
end C
namespace K25
open PySem PySem.Spec PyProof.Rows L2 PD
def top (i : Nat) : Stmt := PySem.Challenge.pw_chancestrokes_k25_whole_hidden_strokes.main.body.getD i (.Pass ⟨0, 0, 0, 0⟩)
variable [TabC] {P : Program} {w : World} {K : PySem.W.Frag} {mg : Str → Option Value} {base : Heap}
abbrev s_is_int : Stmt := top 9
theorem sc_is_int : FnScope ["value"] ["value"] (defScope s_is_int) := ⟨rfl, rfl, rfl, by decide +kernel, rfl, by decide +kernel, by decide +kernel⟩
theorem h_is_int {f : Addr} {fd : FuncData} (F : Fun K "is_int" "is_int" s_is_int f fd) (m : mg "is_int" = some (.ref f)) (b : Binds K fd ["value"] []) (z_bool : mg "bool" = none) (z_int : mg "int" = none) (z_isinstance : mg "isinstance" = none) : Has P w K mg base 1 "is_int" C.F_is_int false := has_mk false F m b sc_is_int fun _ _ _ _ _ _ hr =>
  ss_one (ss_ret (ee_and (ee_isi z_isinstance (ebs_cons (EB.of (ee_var 0)) (ebs_cons (EB.of (ee_ty z_int rfl)) ebs_nil))) (ee_one (ee_not (ee_isi z_isinstance (ebs_cons (EB.of (ee_var 0)) (ebs_cons (EB.of (ee_ty z_bool rfl)) ebs_nil)))))))
abbrev s_is_in : Stmt := top 10
theorem sc_is_in : FnScope ["value", "least", "most"] ["value", "least", "most"] (defScope s_is_in) := ⟨rfl, rfl, rfl, by decide +kernel, rfl, by decide +kernel, by decide +kernel⟩
theorem h_is_in {f : Addr} {fd : FuncData} (F : Fun K "is_in" "is_in" s_is_in f fd) (m : mg "is_in" = some (.ref f)) (b : Binds K fd ["value", "least", "most"] []) (h_is_int : Has P w K mg base 1 "is_int" C.F_is_int false) : Has P w K mg base 2 "is_in" C.F_is_in false := has_mk false F m b sc_is_in fun _ _ _ _ _ _ hr =>
  ss_one (ss_ret (ee_and (ee_fn h_is_int hr (ea_cons (ee_var 0) ea_nil)) (ee_one (ee_chain op_le (opd_cmpI _) op_le (opd_cmpI _) (EB.of (ee_var 1)) (EB.of (ee_var 0)) (EB.of (ee_var 2))))))
abbrev s_need_number : Stmt := top 11
theorem sc_need_number : FnScope ["value", "least", "most"] ["value", "least", "most"] (defScope s_need_number) := ⟨rfl, rfl, rfl, by decide +kernel, rfl, by decide +kernel, by decide +kernel⟩
theorem h_need_number {f : Addr} {fd : FuncData} (F : Fun K "need_number" "need_number" s_need_number f fd) (m : mg "need_number" = some (.ref f)) (b : Binds K fd ["value", "least", "most"] []) (h_is_in : Has P w K mg base 2 "is_in" C.F_is_in false) : Has P w K mg base 3 "need_number" C.F_need_number false := has_mk false F m b sc_need_number fun _ _ _ _ _ _ hr =>
  ss_one (ss_if (et_not (et_val (ee_fn h_is_in hr (ea_cons (ee_var 0) (ea_cons (ee_var 1) (ea_cons (ee_var 2) ea_nil))))))
  (ss_one ss_never)
  ss_nil)
abbrev s_need_board : Stmt := top 12
theorem sc_need_board : FnScope ["rows", "columns"] ["rows", "columns"] (defScope s_need_board) := ⟨rfl, rfl, rfl, by decide +kernel, rfl, by decide +kernel, by decide +kernel⟩
theorem h_need_board {f : Addr} {fd : FuncData} (F : Fun K "need_board" "need_board" s_need_board f fd) (m : mg "need_board" = some (.ref f)) (b : Binds K fd ["rows", "columns"] []) {t_MOST_SIDE : Tok} (c_MOST_SIDE : mg "MOST_SIDE" = some (.int 12 t_MOST_SIDE)) (h_need_number : Has P w K mg base 3 "need_number" C.F_need_number false) : Has P w K mg base 4 "need_board" C.F_need_board false := has_mk false F m b sc_need_board fun _ _ _ _ _ _ hr =>
  ss_cons (ss_expr (ee_fn h_need_number hr (ea_cons (ee_var 0) (ea_cons ee_int (ea_cons (ee_gInt c_MOST_SIDE) ea_nil)))))
  (ss_one (ss_expr (ee_fn h_need_number hr (ea_cons (ee_var 1) (ea_cons ee_int (ea_cons (ee_gInt c_MOST_SIDE) ea_nil))))))
abbrev s_are_strokes : Stmt := top 13
theorem sc_are_strokes : FnScope ["rows", "columns", "value", "line"] ["rows", "columns", "value"] (defScope s_are_strokes) := ⟨rfl, rfl, rfl, by decide +kernel, rfl, by decide +kernel, by decide +kernel⟩
theorem h_are_strokes {f : Addr} {fd : FuncData} (F : Fun K "are_strokes" "are_strokes" s_are_strokes f fd) (m : mg "are_strokes" = some (.ref f)) (b : Binds K fd ["rows", "columns", "value"] []) (z_all : mg "all" = none) (z_isinstance : mg "isinstance" = none) (z_list : mg "list" = none) (h_is_in : Has P w K mg base 2 "is_in" C.F_is_in false) : Has P w K mg base 3 "are_strokes" C.F_are_strokes false := has_mk false F m b sc_are_strokes fun _ _ _ _ _ _ hr =>
  ss_one (ss_ret (ee_and (ee_isi z_isinstance (ebs_cons (EB.of (ee_var 2)) (ebs_cons (EB.of (ee_ty z_list rfl)) ebs_nil))) (ee_one (ee_all z_all (ebs_cons (EB.of (EE.ofF (ef_lc (own := [("line", 3)]) sc_are_strokes.nd (ei_val (ee_var 2)) (blkOk_by (by kernel_rfl)) (fun _ _ _ _ _ => gg_name (i := 3) sc_are_strokes.nd) (fun _ _ _ _ _ => ets_nil) (fun _ _ _ _ _ => ee_fn h_is_in hr (ea_cons (ee_var 3) (ea_cons ee_int (ea_cons (ee_op op_sub opd_sub (EB.of (ee_op op_addAll opd_add (EB.of (ee_var 0)) (EB.of (ee_var 1)))) (EB.of ee_int)) ea_nil))))))) ebs_nil)))))
abbrev s_need_strokes : Stmt := top 14
theorem sc_need_strokes : FnScope ["rows", "columns", "value"] ["rows", "columns", "value"] (defScope s_need_strokes) := ⟨rfl, rfl, rfl, by decide +kernel, rfl, by decide +kernel, by decide +kernel⟩
theorem h_need_strokes {f : Addr} {fd : FuncData} (F : Fun K "need_strokes" "need_strokes" s_need_strokes f fd) (m : mg "need_strokes" = some (.ref f)) (b : Binds K fd ["rows", "columns", "value"] []) (h_are_strokes : Has P w K mg base 3 "are_strokes" C.F_are_strokes false) : Has P w K mg base 4 "need_strokes" C.F_need_strokes false := has_mk false F m b sc_need_strokes fun _ _ _ _ _ _ hr =>
  ss_one (ss_if (et_not (et_val (ee_fn h_are_strokes hr (ea_cons (ee_var 0) (ea_cons (ee_var 1) (ea_cons (ee_var 2) ea_nil))))))
  (ss_one ss_never)
  ss_nil)
abbrev s_normal_of : Stmt := top 15
theorem sc_normal_of : FnScope ["rows", "columns", "strokes", "parts", "told", "counts", "line", "sort", "found", "some"] ["rows", "columns", "strokes"] (defScope s_normal_of) := ⟨rfl, rfl, rfl, by decide +kernel, rfl, by decide +kernel, by decide +kernel⟩
theorem h_normal_of {f : Addr} {fd : FuncData} (F : Fun K "normal_of" "normal_of" s_normal_of f fd) (m : mg "normal_of" = some (.ref f)) (b : Binds K fd ["rows", "columns", "strokes"] []) (z_sorted : mg "sorted" = none) (z_tuple : mg "tuple" = none) : Has P w K mg base 1 "normal_of" C.F_normal_of false := Has.cut <| has_mk false F m b sc_normal_of fun _ _ _ _ _ _ hr =>
  ss_cons (ss_par3 (i := 3) (j := 4) (l := 5) sc_normal_of.nd (ex_fr (ef_lst ea_nil) (ex_fr ef_dnewK (ex_fr (ef_lst (ea_cons ee_int (ea_cons ee_int ea_nil))) ex_nil))))
  (ss_cons (ss_for (ei_val (ee_rev (EB.of (ee_var 2)))) (gg_name (i := 6) sc_normal_of.nd)
  (ss_one (ss_if (EW.et (ew_and (et_notIn (hu65 hr) (EB.of (ee_var 6)) (eb_any 4)) (ew_and (et_cmp op_lt (opd_cmpI _) (EB.of (ee_sub (hu1 hr) (eb_any 5) (EB.of ee_int))) (EB.of (ee_var 0))) (ew_and1 (et_cmp op_lt (opd_cmpI _) (EB.of (ee_sub (hu1 hr) (eb_any 5) (EB.of ee_int))) (EB.of (ee_var 1)))))))
  (ss_cons (ss_put (hu1 hr) ee_bl (eb_any 4) (ee_var 6))
  (ss_cons (ss_set (i := 7) sc_normal_of.nd (ee_if (et_cmp op_lt (opd_cmpI _) (EB.of (ee_var 6)) (EB.of (ee_var 0))) ee_int ee_int))
  (ss_cons (ss_laug ip_add (eb_any 5) (ee_var 7) ee_int)
  (ss_one (ss_if (EW.et (ew_and (et_cmp (op_neNil (hu64 hr)) opd_neNil (eb_any 3) (EB.of (EE.ofF (ef_lst ea_nil)))) (ew_and1 (et_cmp (op_eqD (hu64 hr)) opd_eq (EB.of (ee_cmp op_lt (opd_cmpI _) (EB.of (ee_sub (hu1 hr) (EB.of (ee_sub (hu1 hr) (eb_any 3) (EB.of (ee_neg ee_int)))) (EB.of ee_int))) (EB.of (ee_var 0)))) (EB.of (ee_cmp op_lt (opd_cmpI _) (EB.of (ee_var 6)) (EB.of (ee_var 0))))))))
  (ss_one (ss_expr (ee_append (EB.of (ee_sub (hu1 hr) (eb_any 3) (EB.of (ee_neg ee_int)))) (ee_var 6))))
  (ss_one (ss_expr (ee_append (eb_any 3) (ee_newOb (ef_lst (ea_cons (ee_var 6) ea_nil)))))))))))
  ss_nil)))
  (ss_cons (ss_set (i := 8) sc_normal_of.nd (EE.ofF (ef_lst ea_nil)))
  (ss_cons (ss_for (ei_val (ee_rev (eb_any 3))) (gg_name (i := 9) sc_normal_of.nd)
  (ss_one (ss_set (i := 8) sc_normal_of.nd (ee_op op_addAll opd_add (EB.of (ee_var 8)) (EB.of (EE.ofF (ef_sorted z_sorted (ebs_cons (EB.of (ee_var 9)) ebs_nil))))))))
  (ss_one (ss_ret (ee_tuple z_tuple (ebs_cons (EB.of (ee_var 8)) ebs_nil)))))))
abbrev s_effect : Stmt := top 16
theorem sc_effect : FnScope ["rows", "columns", "strokes"] ["rows", "columns", "strokes"] (defScope s_effect) := ⟨rfl, rfl, rfl, by decide +kernel, rfl, by decide +kernel, by decide +kernel⟩
theorem h_effect {f : Addr} {fd : FuncData} (F : Fun K "effect" "effect" s_effect f fd) (m : mg "effect" = some (.ref f)) (b : Binds K fd ["rows", "columns", "strokes"] []) (h_need_board : Has P w K mg base 4 "need_board" C.F_need_board false) (h_need_strokes : Has P w K mg base 4 "need_strokes" C.F_need_strokes false) (h_normal_of : Has P w K mg base 1 "normal_of" C.F_normal_of false) : Has P w K mg base 5 "effect" C.F_effect false := has_mk false F m b sc_effect fun _ _ _ _ _ _ hr =>
  ss_cons (ss_expr (ee_fn h_need_board hr (ea_cons (ee_var 0) (ea_cons (ee_var 1) ea_nil))))
  (ss_cons (ss_expr (ee_fn h_need_strokes hr (ea_cons (ee_var 0) (ea_cons (ee_var 1) (ea_cons (ee_var 2) ea_nil)))))
  (ss_one (ss_ret (ee_fn h_normal_of hr (ea_cons (ee_var 0) (ea_cons (ee_var 1) (ea_cons (ee_var 2) ea_nil)))))))
abbrev s_is_effect_of : Stmt := top 17
theorem sc_is_effect_of : FnScope ["rows", "columns", "value"] ["rows", "columns", "value"] (defScope s_is_effect_of) := ⟨rfl, rfl, rfl, by decide +kernel, rfl, by decide +kernel, by decide +kernel⟩
theorem h_is_effect_of {f : Addr} {fd : FuncData} (F : Fun K "is_effect_of" "is_effect_of" s_is_effect_of f fd) (m : mg "is_effect_of" = some (.ref f)) (b : Binds K fd ["rows", "columns", "value"] []) (z_isinstance : mg "isinstance" = none) (z_list : mg "list" = none) (z_tuple : mg "tuple" = none) (h_are_strokes : Has P w K mg base 3 "are_strokes" C.F_are_strokes false) (h_normal_of : Has P w K mg base 1 "normal_of" C.F_normal_of false) : Has P w K mg base 4 "is_effect_of" C.F_is_effect_of false := has_mk false F m b sc_is_effect_of fun _ _ _ _ _ _ hr =>
  ss_cons (ss_if (EW.et (ew_or (et_not (et_val (ee_isi z_isinstance (ebs_cons (EB.of (ee_var 2)) (ebs_cons (EB.of (ee_ty z_tuple rfl)) ebs_nil))))) (ew_or1 (et_not (et_val (ee_fn h_are_strokes hr (ea_cons (ee_var 0) (ea_cons (ee_var 1) (ea_cons (EE.ofF (ef_list z_list (ebs_cons (EB.of (ee_var 2)) ebs_nil))) ea_nil)))))))))
  (ss_one (ss_ret ee_bl))
  ss_nil)
  (ss_one (ss_ret (ee_cmp (op_eqD (hu64 hr)) opd_eq (EB.of (ee_fn h_normal_of hr (ea_cons (ee_var 0) (ea_cons (ee_var 1) (ea_cons (EE.ofF (ef_list z_list (ebs_cons (EB.of (ee_var 2)) ebs_nil))) ea_nil))))) (EB.of (ee_var 2)))))
abbrev s_support_of : Stmt := top 18
theorem sc_support_of : FnScope ["rows", "columns", "lines", "some", "high", "line"] ["rows", "columns", "lines"] (defScope s_support_of) := ⟨rfl, rfl, rfl, by decide +kernel, rfl, by decide +kernel, by decide +kernel⟩
theorem h_support_of {f : Addr} {fd : FuncData} (F : Fun K "support_of" "support_of" s_support_of f fd) (m : mg "support_of" = some (.ref f)) (b : Binds K fd ["rows", "columns", "lines"] []) (z_len : mg "len" = none) (z_range : mg "range" = none) (z_sorted : mg "sorted" = none) (z_tuple : mg "tuple" = none) : Has P w K mg base 1 "support_of" C.F_support_of false := has_mk false F m b sc_support_of fun _ _ _ _ _ _ hr =>
  ss_cons (ss_set (i := 3) sc_support_of.nd (EE.ofF (ef_sorted z_sorted (ebs_cons (EB.of (EE.ofF (ef_dc (own := [("line", 5)]) sc_support_of.nd (ei_val (ee_var 2)) (blkOk_by (by kernel_rfl)) (fun _ _ _ _ _ => gg_name (i := 5) sc_support_of.nd) (fun _ _ _ _ _ => ets_nil) (fun _ _ _ _ _ => ee_var 5) (fun _ _ _ _ _ => ee_bl)))) ebs_nil))))
  (ss_cons (ss_set (i := 4) sc_support_of.nd (ee_len z_len (ebs_cons (EB.of (EE.ofF (ef_lc (own := [("line", 5)]) sc_support_of.nd (ei_val (ee_var 3)) (blkOk_by (by kernel_rfl)) (fun _ _ _ _ _ => gg_name (i := 5) sc_support_of.nd) (fun _ _ _ _ _ => ets_one (et_cmp op_lt (opd_cmpI _) (EB.of (ee_var 5)) (EB.of (ee_var 0)))) (fun _ _ _ _ _ => ee_int)))) ebs_nil)))
  (ss_cons (ss_if (EW.et (ew_or (et_cmp (op_eqD (hu64 hr)) opd_eq (EB.of (ee_var 4)) (EB.of (ee_var 0))) (ew_or1 (et_cmp (op_eqD (hu64 hr)) opd_eq (EB.of (ee_op op_sub opd_sub (EB.of (ee_len z_len (ebs_cons (EB.of (ee_var 3)) ebs_nil))) (EB.of (ee_var 4)))) (EB.of (ee_var 1))))))
  (ss_one (ss_ret (ee_trg z_tuple (er_1 z_range (ee_op op_addAll opd_add (EB.of (ee_var 0)) (EB.of (ee_var 1)))))))
  ss_nil)
  (ss_one (ss_ret (ee_tuple z_tuple (ebs_cons (EB.of (ee_var 3)) ebs_nil))))))
abbrev s_common : Stmt := top 20
theorem sc_common : FnScope ["one", "other"] ["one", "other"] (defScope s_common) := ⟨rfl, rfl, rfl, by decide +kernel, rfl, by decide +kernel, by decide +kernel⟩
theorem h_common {f : Addr} {fd : FuncData} (F : Fun K "common" "common" s_common f fd) (m : mg "common" = some (.ref f)) (b : Binds K fd ["one", "other"] []) : Has P w K mg base 1 "common" C.F_common false := has_mk false F m b sc_common fun _ _ _ _ _ _ hr =>
  ss_cons (ss_while (et_cmp op_gt (opd_cmpI _) (EB.of (ee_var 1)) (EB.of ee_int))
  (ss_one (ss_par (i := 0) (j := 1) sc_common.nd (ex_pl (ee_var 1) (ex_pl (ee_op op_mod opd_mod (EB.of (ee_var 0)) (EB.of (ee_var 1))) ex_nil)))))
  (ss_one (ss_ret (ee_var 0)))
abbrev s_lowered : Stmt := top 21
theorem sc_lowered : FnScope ["above", "low", "shared"] ["above", "low"] (defScope s_lowered) := ⟨rfl, rfl, rfl, by decide +kernel, rfl, by decide +kernel, by decide +kernel⟩
theorem h_lowered {f : Addr} {fd : FuncData} (F : Fun K "lowered" "lowered" s_lowered f fd) (m : mg "lowered" = some (.ref f)) (b : Binds K fd ["above", "low"] []) (z_abs : mg "abs" = none) (h_common : Has P w K mg base 1 "common" C.F_common false) : Has P w K mg base 2 "lowered" C.F_lowered false := has_mk false F m b sc_lowered fun _ _ _ _ _ _ hr =>
  ss_cons (ss_set (i := 2) sc_lowered.nd (ee_fn h_common hr (ea_cons (ee_abs z_abs (ebs_cons (EB.of (ee_var 0)) ebs_nil)) (ea_cons (ee_var 1) ea_nil))))
  (ss_one (ss_ret (ee_tup (ea_cons (ee_op op_fdivW opd_div (EB.of (ee_var 0)) (EB.of (ee_var 2))) (ea_cons (ee_op op_fdivW opd_div (EB.of (ee_var 1)) (EB.of (ee_var 2))) ea_nil)))))
abbrev s_tidied : Stmt := top 25
theorem sc_tidied : FnScope ["told", "shared", "weight", "one"] ["told"] (defScope s_tidied) := ⟨rfl, rfl, rfl, by decide +kernel, rfl, by decide +kernel, by decide +kernel⟩
theorem h_tidied {f : Addr} {fd : FuncData} (F : Fun K "tidied" "tidied" s_tidied f fd) (m : mg "tidied" = some (.ref f)) (b : Binds K fd ["told"] []) (z_sorted : mg "sorted" = none) (z_tuple : mg "tuple" = none) (h_common : Has P w K mg base 1 "common" C.F_common false) : Has P w K mg base 2 "tidied" C.F_tidied false := has_mk false F m b sc_tidied fun _ _ _ _ _ _ hr =>
  ss_cons (ss_set (i := 1) sc_tidied.nd ee_int)
  (ss_cons (ss_forVals 0 (gg_name (i := 2) sc_tidied.nd)
  (ss_one (ss_set (i := 1) sc_tidied.nd (ee_fn h_common hr (ea_cons (ee_var 2) (ea_cons (ee_var 1) ea_nil))))))
  (ss_one (ss_ret (ee_tupleX z_tuple (ebs_cons (EB.of (EE.ofF (ef_lc (own := [("one", 3)]) sc_tidied.nd (ei_val (EE.ofF (ef_sortedDZ z_sorted (hu64 hr) (ebs_cons (EB.of (ee_var 0)) ebs_nil)))) (blkOk_by (by kernel_rfl)) (fun _ _ _ _ _ => gg_name (i := 3) sc_tidied.nd) (fun _ _ _ _ _ => ets_nil) (fun _ _ _ _ _ => ee_tup (ea_cons (ee_var 3) (ea_cons (ee_op op_fdivW opd_div (EB.of (ee_sub (hu1 hr) (EB.of (ee_var 0)) (EB.of (ee_var 3)))) (EB.of (ee_var 1))) ea_nil)))))) ebs_nil)))))
abbrev s_measure : Stmt := top 26
theorem sc_measure : FnScope ["rows", "columns", "throws", "told", "throw", "one"] ["rows", "columns", "throws"] (defScope s_measure) := ⟨rfl, rfl, rfl, by decide +kernel, rfl, by decide +kernel, by decide +kernel⟩
theorem h_measure {f : Addr} {fd : FuncData} (F : Fun K "measure" "measure" s_measure f fd) (m : mg "measure" = some (.ref f)) (b : Binds K fd ["rows", "columns", "throws"] []) (z_isinstance : mg "isinstance" = none) (z_len : mg "len" = none) (z_list : mg "list" = none) (z_tuple : mg "tuple" = none) {t_MOST_LISTED : Tok} (c_MOST_LISTED : mg "MOST_LISTED" = some (.int 500 t_MOST_LISTED)) {t_MOST_WEIGHT : Tok} (c_MOST_WEIGHT : mg "MOST_WEIGHT" = some (.int 1000000 t_MOST_WEIGHT)) (h_is_in : Has P w K mg base 2 "is_in" C.F_is_in false) (h_need_board : Has P w K mg base 4 "need_board" C.F_need_board false) (h_need_strokes : Has P w K mg base 4 "need_strokes" C.F_need_strokes false) (h_normal_of : Has P w K mg base 1 "normal_of" C.F_normal_of false) (h_tidied : Has P w K mg base 2 "tidied" C.F_tidied false) : Has P w K mg base 5 "measure" C.F_measure false := has_mk false F m b sc_measure fun _ _ _ _ _ _ hr =>
  ss_cons (ss_expr (ee_fn h_need_board hr (ea_cons (ee_var 0) (ea_cons (ee_var 1) ea_nil))))
  (ss_cons (ss_if (EW.et (ew_or (et_not (et_val (ee_isi z_isinstance (ebs_cons (EB.of (ee_var 2)) (ebs_cons (EB.of (ee_ty z_list rfl)) ebs_nil))))) (ew_or1 (et_cmp (op_eqD (hu64 hr)) opd_eq (EB.of (ee_var 2)) (EB.of (EE.ofF (ef_lst ea_nil)))))))
  (ss_one ss_never)
  ss_nil)
  (ss_cons (ss_setF (i := 3) sc_measure.nd ef_dnewT)
  (ss_cons (ss_for (ei_val (ee_var 2)) (gg_name (i := 4) sc_measure.nd)
  (ss_cons (ss_if (EW.et (ew_or (et_not (et_val (ee_isi z_isinstance (ebs_cons (EB.of (ee_var 4)) (ebs_cons (EB.of (ee_ty z_tuple rfl)) ebs_nil))))) (ew_or (et_cmp (op_neD (hu64 hr)) opd_ne (EB.of (ee_len z_len (ebs_cons (EB.of (ee_var 4)) ebs_nil))) (EB.of ee_int)) (ew_or1 (et_not (et_val (ee_fn h_is_in hr (ea_cons (ee_sub (hu1 hr) (EB.of (ee_var 4)) (EB.of ee_int)) (ea_cons ee_int (ea_cons (ee_gInt c_MOST_WEIGHT) ea_nil))))))))))
  (ss_one ss_never)
  ss_nil)
  (ss_cons (ss_expr (ee_fn h_need_strokes hr (ea_cons (ee_var 0) (ea_cons (ee_var 1) (ea_cons (ee_sub (hu1 hr) (EB.of (ee_var 4)) (EB.of ee_int)) ea_nil)))))
  (ss_cons (ss_set (i := 5) sc_measure.nd (ee_fn h_normal_of hr (ea_cons (ee_var 0) (ea_cons (ee_var 1) (ea_cons (ee_sub (hu1 hr) (EB.of (ee_var 4)) (EB.of ee_int)) ea_nil)))))
  (ss_one (ss_put (hu1 hr) (ee_op op_addAll opd_add (EB.of (ee_get2 (hu1 hr) (eb_any 3) (ee_var 5) ee_int)) (EB.of (ee_sub (hu1 hr) (EB.of (ee_var 4)) (EB.of ee_int)))) (eb_any 3) (ee_var 5)))))))
  (ss_cons (ss_if (et_cmp op_gt (opd_cmpI _) (EB.of (ee_len z_len (ebs_cons (eb_any 3) ebs_nil))) (EB.of (ee_gInt c_MOST_LISTED)))
  (ss_one ss_never)
  ss_nil)
  (ss_one (ss_frz 3 (ss_ret (ee_fn h_tidied hr (ea_cons (ee_var 3) ea_nil)))))))))
abbrev s_is_measure_of : Stmt := top 27
theorem sc_is_measure_of : FnScope ["rows", "columns", "value", "pair", "one", "other"] ["rows", "columns", "value"] (defScope s_is_measure_of) := ⟨rfl, rfl, rfl, by decide +kernel, rfl, by decide +kernel, by decide +kernel⟩
theorem h_is_measure_of {f : Addr} {fd : FuncData} (F : Fun K "is_measure_of" "is_measure_of" s_is_measure_of f fd) (m : mg "is_measure_of" = some (.ref f)) (b : Binds K fd ["rows", "columns", "value"] []) (z_all : mg "all" = none) (z_dict : mg "dict" = none) (z_isinstance : mg "isinstance" = none) (z_len : mg "len" = none) (z_tuple : mg "tuple" = none) (z_zip : mg "zip" = none) {t_MOST_LISTED : Tok} (c_MOST_LISTED : mg "MOST_LISTED" = some (.int 500 t_MOST_LISTED)) (h_is_effect_of : Has P w K mg base 4 "is_effect_of" C.F_is_effect_of false) (h_is_int : Has P w K mg base 1 "is_int" C.F_is_int false) (h_tidied : Has P w K mg base 2 "tidied" C.F_tidied false) : Has P w K mg base 5 "is_measure_of" C.F_is_measure_of false := has_mk false F m b sc_is_measure_of fun _ _ _ _ _ _ hr =>
  ss_cons (ss_if (EW.et (ew_or (et_not (et_val (ee_isi z_isinstance (ebs_cons (EB.of (ee_var 2)) (ebs_cons (EB.of (ee_ty z_tuple rfl)) ebs_nil))))) (ew_or1 (et_not (et_chain op_le (opd_cmpI _) op_le (opd_cmpI _) (EB.of ee_int) (EB.of (ee_len z_len (ebs_cons (EB.of (ee_var 2)) ebs_nil))) (EB.of (ee_gInt c_MOST_LISTED)))))))
  (ss_one (ss_ret ee_bl))
  ss_nil)
  (ss_cons (ss_for (ei_val (ee_var 2)) (gg_name (i := 3) sc_is_measure_of.nd)
  (ss_cons (ss_if (EW.et (ew_or (et_not (et_val (ee_isi z_isinstance (ebs_cons (EB.of (ee_var 3)) (ebs_cons (EB.of (ee_ty z_tuple rfl)) ebs_nil))))) (ew_or (et_cmp (op_neD (hu64 hr)) opd_ne (EB.of (ee_len z_len (ebs_cons (EB.of (ee_var 3)) ebs_nil))) (EB.of ee_int)) (ew_or1 (et_not (et_val (ee_fn h_is_effect_of hr (ea_cons (ee_var 0) (ea_cons (ee_var 1) (ea_cons (ee_sub (hu1 hr) (EB.of (ee_var 3)) (EB.of ee_int)) ea_nil))))))))))
  (ss_one (ss_ret ee_bl))
  ss_nil)
  (ss_one (ss_if (EW.et (ew_or (et_not (et_val (ee_fn h_is_int hr (ea_cons (ee_sub (hu1 hr) (EB.of (ee_var 3)) (EB.of ee_int)) ea_nil)))) (ew_or1 (et_cmp op_lt (opd_cmpI _) (EB.of (ee_sub (hu1 hr) (EB.of (ee_var 3)) (EB.of ee_int))) (EB.of ee_int)))))
  (ss_one (ss_ret ee_bl))
  ss_nil))))
  (ss_cons (ss_if (et_not (et_val (ee_all z_all (ebs_cons (EB.of (EE.ofF (ef_lc (own := [("one", 4), ("other", 5)]) sc_is_measure_of.nd (ei_zip z_zip (ea_cons (ee_var 2) (ea_cons (ee_sl (EB.of (ee_var 2)) (eo_some ee_int) eo_none) ea_nil))) (blkOk_by (by kernel_rfl)) (fun _ _ _ _ _ => gg_tup (is := [4, 5]) (pgn_cons (i := 4) sc_is_measure_of.nd (pgn_cons (i := 5) sc_is_measure_of.nd pgn_nil))) (fun _ _ _ _ _ => ets_nil) (fun _ _ _ _ _ => ee_cmp (op_ltT (hu0 hr)) opd_ltZ (EB.of (ee_sub (hu1 hr) (EB.of (ee_var 4)) (EB.of ee_int))) (EB.of (ee_sub (hu1 hr) (EB.of (ee_var 5)) (EB.of ee_int))))))) ebs_nil))))
  (ss_one (ss_ret ee_bl))
  ss_nil)
  (ss_one (ss_ret (ee_cmp (op_eqD (hu64 hr)) opd_eq (EB.of (ee_fn h_tidied hr (ea_cons (EE.ofF (ef_dictX z_dict (hu65 hr) (ebs_cons (EB.of (ee_var 2)) ebs_nil))) ea_nil))) (EB.of (ee_var 2)))))))
abbrev s_need_measure : Stmt := top 28
theorem sc_need_measure : FnScope ["rows", "columns", "value"] ["rows", "columns", "value"] (defScope s_need_measure) := ⟨rfl, rfl, rfl, by decide +kernel, rfl, by decide +kernel, by decide +kernel⟩
theorem h_need_measure {f : Addr} {fd : FuncData} (F : Fun K "need_measure" "need_measure" s_need_measure f fd) (m : mg "need_measure" = some (.ref f)) (b : Binds K fd ["rows", "columns", "value"] []) (h_is_measure_of : Has P w K mg base 5 "is_measure_of" C.F_is_measure_of false) (h_need_board : Has P w K mg base 4 "need_board" C.F_need_board false) : Has P w K mg base 6 "need_measure" C.F_need_measure false := has_mk false F m b sc_need_measure fun _ _ _ _ _ _ hr =>
  ss_cons (ss_expr (ee_fn h_need_board hr (ea_cons (ee_var 0) (ea_cons (ee_var 1) ea_nil))))
  (ss_one (ss_if (et_not (et_val (ee_fn h_is_measure_of hr (ea_cons (ee_var 0) (ea_cons (ee_var 1) (ea_cons (ee_var 2) ea_nil))))))
  (ss_one ss_never)
  ss_nil))
abbrev s_weight_of : Stmt := top 29
theorem sc_weight_of : FnScope ["told", "one", "weight"] ["told"] (defScope s_weight_of) := ⟨rfl, rfl, rfl, by decide +kernel, rfl, by decide +kernel, by decide +kernel⟩
theorem h_weight_of {f : Addr} {fd : FuncData} (F : Fun K "weight_of" "weight_of" s_weight_of f fd) (m : mg "weight_of" = some (.ref f)) (b : Binds K fd ["told"] []) (z_sum : mg "sum" = none) : Has P w K mg base 1 "weight_of" C.F_weight_of false := has_mk false F m b sc_weight_of fun _ _ _ _ _ _ hr =>
  ss_one (ss_ret (ee_sum z_sum (ebs_cons (EB.of (EE.ofF (ef_lc (own := [("one", 1), ("weight", 2)]) sc_weight_of.nd (ei_val (ee_var 0)) (blkOk_by (by kernel_rfl)) (fun _ _ _ _ _ => gg_tup (is := [1, 2]) (pgn_cons (i := 1) sc_weight_of.nd (pgn_cons (i := 2) sc_weight_of.nd pgn_nil))) (fun _ _ _ _ _ => ets_nil) (fun _ _ _ _ _ => ee_var 2)))) ebs_nil)))
abbrev s_joins_of : Stmt := top 30
theorem sc_joins_of : FnScope ["rows", "columns", "told", "found", "one", "weight", "some", "each"] ["rows", "columns", "told"] (defScope s_joins_of) := ⟨rfl, rfl, rfl, by decide +kernel, rfl, by decide +kernel, by decide +kernel⟩
theorem h_joins_of {f : Addr} {fd : FuncData} (F : Fun K "joins_of" "joins_of" s_joins_of f fd) (m : mg "joins_of" = some (.ref f)) (b : Binds K fd ["rows", "columns", "told"] []) (z_len : mg "len" = none) (z_list : mg "list" = none) (z_sorted : mg "sorted" = none) {t_MOST_LISTED : Tok} (c_MOST_LISTED : mg "MOST_LISTED" = some (.int 500 t_MOST_LISTED)) (h_support_of : Has P w K mg base 1 "support_of" C.F_support_of false) : Has P w K mg base 2 "joins_of" C.F_joins_of false := has_mk false F m b sc_joins_of fun _ _ _ _ _ _ hr =>
  ss_cons (ss_setF (i := 3) sc_joins_of.nd (ef_disp1T (hu1 hr) (ee_tup ea_nil) ee_bl))
  (ss_cons (ss_for (ei_val (ee_var 2)) (gg_tup (is := [4, 5]) (pgn_cons (i := 4) sc_joins_of.nd (pgn_cons (i := 5) sc_joins_of.nd pgn_nil)))
  (ss_cons (ss_set (i := 6) sc_joins_of.nd (ee_fn h_support_of hr (ea_cons (ee_var 0) (ea_cons (ee_var 1) (ea_cons (ee_var 4) ea_nil)))))
  (ss_cons (ss_for (ei_val (EE.ofF (ef_listT z_list (ebs_cons (eb_any 3) ebs_nil)))) (gg_name (i := 7) sc_joins_of.nd)
  (ss_one (ss_put (hu1 hr) ee_bl (eb_any 3) (ee_fn h_support_of hr (ea_cons (ee_var 0) (ea_cons (ee_var 1) (ea_cons (EE.ofF (ef_lst (ea_star (ee_var 7) (ea_star (ee_var 6) ea_nil)))) ea_nil)))))))
  (ss_one (ss_if (et_cmp op_gt (opd_cmpI _) (EB.of (ee_len z_len (ebs_cons (eb_any 3) ebs_nil))) (EB.of (ee_gInt c_MOST_LISTED)))
  (ss_one ss_never)
  ss_nil)))))
  (ss_one (ss_ret (EE.ofF (ef_sortedDZ z_sorted (hu64 hr) (ebs_cons (eb_any 3) ebs_nil))))))
abbrev s_within_of : Stmt := top 31
theorem sc_within_of : FnScope ["rows", "columns", "told", "lines", "some", "good", "line", "one", "weight"] ["rows", "columns", "told", "lines"] (defScope s_within_of) := ⟨rfl, rfl, rfl, by decide +kernel, rfl, by decide +kernel, by decide +kernel⟩
theorem h_within_of {f : Addr} {fd : FuncData} (F : Fun K "within_of" "within_of" s_within_of f fd) (m : mg "within_of" = some (.ref f)) (b : Binds K fd ["rows", "columns", "told", "lines"] []) (z_all : mg "all" = none) (z_sum : mg "sum" = none) (h_lowered : Has P w K mg base 2 "lowered" C.F_lowered false) (h_support_of : Has P w K mg base 1 "support_of" C.F_support_of false) (h_weight_of : Has P w K mg base 1 "weight_of" C.F_weight_of false) : Has P w K mg base 3 "within_of" C.F_within_of false := has_mk false F m b sc_within_of fun _ _ _ _ _ _ hr =>
  ss_cons (ss_set (i := 4) sc_within_of.nd (EE.ofF (ef_dc (own := [("line", 6)]) sc_within_of.nd (ei_val (ee_var 3)) (blkOk_by (by kernel_rfl)) (fun _ _ _ _ _ => gg_name (i := 6) sc_within_of.nd) (fun _ _ _ _ _ => ets_nil) (fun _ _ _ _ _ => ee_var 6) (fun _ _ _ _ _ => ee_bl))))
  (ss_cons (ss_setLcP (i := 5) (own := [("one", 7), ("weight", 8)]) sc_within_of.nd (ei_val (ee_var 2)) (blkOk_by (by kernel_rfl)) (fun _ _ _ _ _ => gg_tup (is := [7, 8]) (pgn_cons (i := 7) sc_within_of.nd (pgn_cons (i := 8) sc_within_of.nd pgn_nil))) (fun _ _ _ _ _ => ets_one (et_val (ee_all z_all (ebs_cons (EB.of (EE.ofF (ef_lc (own := [("line", 6)]) sc_within_of.nd (ei_val (ee_fn h_support_of hr (ea_cons (ee_var 0) (ea_cons (ee_var 1) (ea_cons (ee_var 7) ea_nil))))) (blkOk_by (by kernel_rfl)) (fun _ _ _ _ _ => gg_name (i := 6) sc_within_of.nd) (fun _ _ _ _ _ => ets_nil) (fun _ _ _ _ _ => ee_in (hu65 hr) (EB.of (ee_var 6)) (EB.of (ee_var 4)))))) ebs_nil)))) (fun _ _ _ _ _ => ee_var 8))
  (ss_one (ss_ret (ee_fn h_lowered hr (ea_cons (ee_sum z_sum (ebs_cons (EB.of (ee_var 5)) ebs_nil)) (ea_cons (ee_fn h_weight_of hr (ea_cons (ee_var 2) ea_nil)) ea_nil))))))
abbrev s_same_chain : Stmt := top 33
theorem sc_same_chain : FnScope ["rows", "columns", "one", "other"] ["rows", "columns", "one", "other"] (defScope s_same_chain) := ⟨rfl, rfl, rfl, by decide +kernel, rfl, by decide +kernel, by decide +kernel⟩
theorem h_same_chain {f : Addr} {fd : FuncData} (F : Fun K "same_chain" "same_chain" s_same_chain f fd) (m : mg "same_chain" = some (.ref f)) (b : Binds K fd ["rows", "columns", "one", "other"] []) (h_need_measure : Has P w K mg base 6 "need_measure" C.F_need_measure false) : Has P w K mg base 7 "same_chain" C.F_same_chain false := has_mk false F m b sc_same_chain fun _ _ _ _ _ _ hr =>
  ss_cons (ss_expr (ee_fn h_need_measure hr (ea_cons (ee_var 0) (ea_cons (ee_var 1) (ea_cons (ee_var 2) ea_nil)))))
  (ss_cons (ss_expr (ee_fn h_need_measure hr (ea_cons (ee_var 0) (ea_cons (ee_var 1) (ea_cons (ee_var 3) ea_nil)))))
  (ss_one (ss_ret (ee_cmp (op_eqD (hu64 hr)) opd_eq (EB.of (ee_var 2)) (EB.of (ee_var 3))))))
abbrev s_ordered : Stmt := top 35
theorem sc_ordered : FnScope ["found", "low", "one"] ["found"] (defScope s_ordered) := ⟨rfl, rfl, rfl, by decide +kernel, rfl, by decide +kernel, by decide +kernel⟩
theorem h_ordered {f c Pt : Addr} {oc kV doc pm ct : Value} {od an : Option Addr} {osl : Array (Option Value)} (lk : K.lookup f = some ⟨oc, od, .func (PySem.W.fnOf "ordered" "ordered" (defArgs s_ordered) (defBody s_ordered) (defScope s_ordered) .none kV doc pm an (.ref c) ct), osl⟩) (hcd : PySem.W.codeIn K (.ref c) "ordered" = true) (kp : PySem.W.keepIn K (.ref f) = true) (m : mg "ordered" = some (.ref f)) (b : Binds K (PySem.W.fnOf "ordered" "ordered" (defArgs s_ordered) (defBody s_ordered) (defScope s_ordered) .none kV doc pm an (.ref c) ct) ["found"] []) (t_ordered : TabC.T Pt "ordered.<locals>.<lambda>") (tb_ordered : LamX.TabB base mg c Pt) (z_sorted : mg "sorted" = none) (z_tuple : mg "tuple" = none) : Has P w K mg base 1 "ordered" C.F_ordered false := has_mkC false lk hcd kp m b sc_ordered fun _ _ _ _ _ hr =>
  ss_cons (ss_set (i := 1) sc_ordered.nd ee_int)
  (ss_cons (ss_forKeys 0 (gg_name (i := 2) sc_ordered.nd)
  (ss_one (ss_set (i := 1) sc_ordered.nd (ee_op op_mulAll opd_mul (EB.of (ee_var 1)) (EB.of (ee_sub (hu1 hr) (EB.of (ee_var 2)) (EB.of ee_int)))))))
  (ss_one (ss_ret (ee_tupleX z_tuple (ebs_cons (EB.of (EE.ofF (ef_sortKey 0 1 z_sorted hr t_ordered tb_ordered))) ebs_nil)))))
abbrev s_least_of : Stmt := top 36
theorem sc_least_of : FnScope ["rows", "columns", "told", "found", "lines", "value", "flag"] ["rows", "columns", "told"] (defScope s_least_of) := ⟨rfl, rfl, rfl, by decide +kernel, rfl, by decide +kernel, by decide +kernel⟩
theorem h_least_of {f : Addr} {fd : FuncData} (F : Fun K "least_of" "least_of" s_least_of f fd) (m : mg "least_of" = some (.ref f)) (b : Binds K fd ["rows", "columns", "told"] []) (h_joins_of : Has P w K mg base 2 "joins_of" C.F_joins_of false) (h_ordered : Has P w K mg base 1 "ordered" C.F_ordered false) (h_within_of : Has P w K mg base 3 "within_of" C.F_within_of false) : Has P w K mg base 4 "least_of" C.F_least_of false := has_mk false F m b sc_least_of fun _ _ _ _ _ _ hr =>
  ss_cons (ss_setDcTP (hu1 hr) (i := 3) (own := [("lines", 4)]) sc_least_of.nd (ei_val (ee_fn h_joins_of hr (ea_cons (ee_var 0) (ea_cons (ee_var 1) (ea_cons (ee_var 2) ea_nil))))) (blkOk_by (by kernel_rfl)) (fun _ _ _ _ _ => gg_name (i := 4) sc_least_of.nd) (fun _ _ _ _ _ => ets_nil) (fun _ _ _ _ _ => ee_fn h_within_of hr (ea_cons (ee_var 0) (ea_cons (ee_var 1) (ea_cons (ee_var 2) (ea_cons (ee_var 4) ea_nil))))) (fun _ _ _ _ _ => ee_bl))
  (ss_one (ss_ret (EE.ofF (ef_lc (own := [("value", 5), ("flag", 6)]) sc_least_of.nd (ei_val (ee_fn h_ordered hr (ea_cons (ee_var 3) ea_nil))) (blkOk_by (by kernel_rfl)) (fun _ _ _ _ _ => gg_tup (is := [5, 6]) (pgn_cons (i := 5) sc_least_of.nd (pgn_cons (i := 6) sc_least_of.nd pgn_nil))) (fun _ _ _ _ _ => ets_nil) (fun _ _ _ _ _ => ee_var 5)))))
abbrev s_least_values : Stmt := top 37
theorem sc_least_values : FnScope ["rows", "columns", "told"] ["rows", "columns", "told"] (defScope s_least_values) := ⟨rfl, rfl, rfl, by decide +kernel, rfl, by decide +kernel, by decide +kernel⟩
theorem h_least_values {f : Addr} {fd : FuncData} (F : Fun K "least_values" "least_values" s_least_values f fd) (m : mg "least_values" = some (.ref f)) (b : Binds K fd ["rows", "columns", "told"] []) (z_tuple : mg "tuple" = none) (h_least_of : Has P w K mg base 4 "least_of" C.F_least_of false) (h_need_measure : Has P w K mg base 6 "need_measure" C.F_need_measure false) : Has P w K mg base 7 "least_values" C.F_least_values false := has_mk false F m b sc_least_values fun _ _ _ _ _ _ hr =>
  ss_cons (ss_expr (ee_fn h_need_measure hr (ea_cons (ee_var 0) (ea_cons (ee_var 1) (ea_cons (ee_var 2) ea_nil)))))
  (ss_one (ss_ret (ee_tuple z_tuple (ebs_cons (EB.of (ee_fn h_least_of hr (ea_cons (ee_var 0) (ea_cons (ee_var 1) (ea_cons (ee_var 2) ea_nil))))) ebs_nil))))
abbrev s__law_taken : Stmt := top 39
theorem sc__law_taken : FnScope ["_law_row", "_law_many", "_law_found", "_law_cell"] ["_law_row", "_law_many"] (defScope s__law_taken) := ⟨rfl, rfl, rfl, by decide +kernel, rfl, by decide +kernel, by decide +kernel⟩
theorem h__law_taken {f : Addr} {fd : FuncData} (F : Fun K "_law_taken" "_law_taken" s__law_taken f fd) (m : mg "_law_taken" = some (.ref f)) (b : Binds K fd ["_law_row", "_law_many"] []) (z_int : mg "int" = none) (z_len : mg "len" = none) : Has P w K mg base 1 "_law_taken" C.F__law_taken false := has_mk false F m b sc__law_taken fun _ _ _ _ _ _ hr =>
  ss_cons (ss_if (et_cmp op_gt (opd_cmpI _) (EB.of (ee_sub (hu1 hr) (EB.of (ee_var 0)) (EB.of ee_int))) (EB.of ee_int))
  (ss_cons (ss_set (i := 2) sc__law_taken.nd (ee_op op_mod opd_mod (EB.of (ee_int1 z_int (ebs_cons (EB.of (ee_sub (hu1 hr) (EB.of (ee_var 0)) (EB.of ee_int))) ebs_nil))) (EB.of (ee_var 1))))
  (ss_cons (ss_put (hu1 hr) (ee_op op_fdivW opd_div (EB.of (ee_sub (hu1 hr) (EB.of (ee_var 0)) (EB.of ee_int))) (EB.of (ee_var 1))) (EB.of (ee_var 0)) ee_int)
  (ss_one (ss_ret (ee_var 2)))))
  ss_nil)
  (ss_cons (ss_put (hu1 hr) (ee_op op_addAll opd_add (EB.of (ee_sub (hu1 hr) (EB.of (ee_var 0)) (EB.of ee_int))) (EB.of ee_int)) (EB.of (ee_var 0)) ee_int)
  (ss_cons (ss_if (et_cmp op_gt (opd_cmpI _) (EB.of (ee_sub (hu1 hr) (EB.of (ee_var 0)) (EB.of ee_int))) (EB.of (ee_len z_len (ebs_cons (EB.of (ee_sub (hu1 hr) (EB.of (ee_var 0)) (EB.of ee_int))) ebs_nil))))
  (ss_cons (ss_put (hu1 hr) (ee_op op_mod opd_mod (EB.of (ee_int1 z_int (ebs_cons (EB.of (ee_op op_addAll opd_add (EB.of (ee_op op_mulAll opd_mul (EB.of (ee_sub (hu1 hr) (EB.of (ee_var 0)) (EB.of ee_int))) (EB.of ee_int))) (EB.of ee_int))) ebs_nil))) (EB.of ee_int)) (EB.of (ee_var 0)) ee_int)
  (ss_one (ss_ret (ee_op op_mod opd_mod (EB.of (ee_int1 z_int (ebs_cons (EB.of (ee_op op_fdivW opd_div (EB.of (ee_sub (hu1 hr) (EB.of (ee_var 0)) (EB.of ee_int))) (EB.of ee_int))) ebs_nil))) (EB.of (ee_var 1))))))
  ss_nil)
  (ss_cons (ss_set (i := 3) sc__law_taken.nd (ee_sub (hu1 hr) (EB.of (ee_sub (hu1 hr) (EB.of (ee_var 0)) (EB.of ee_int))) (EB.of (ee_op op_sub opd_sub (EB.of (ee_sub (hu1 hr) (EB.of (ee_var 0)) (EB.of ee_int))) (EB.of ee_int)))))
  (ss_cons (ss_put (hu1 hr) (ee_op op_mod opd_mod (EB.of (ee_int1 z_int (ebs_cons (EB.of (ee_op op_addAll opd_add (EB.of (ee_op op_addAll opd_add (EB.of (ee_op op_mulAll opd_mul (EB.of (ee_sub (hu1 hr) (EB.of (ee_var 0)) (EB.of ee_int))) (EB.of ee_int))) (EB.of (ee_var 3)))) (EB.of ee_int))) ebs_nil))) (EB.of ee_int)) (EB.of (ee_var 0)) ee_int)
  (ss_cons (ss_if (et_cmp op_ge (opd_cmpI _) (EB.of (ee_var 3)) (EB.of (ee_op op_pow opd_pow (EB.of ee_int) (EB.of ee_int))))
  (ss_one (ss_put (hu1 hr) (ee_op op_fdivW opd_div (EB.of (ee_var 3)) (EB.of (ee_var 1))) (EB.of (ee_var 0)) ee_int))
  ss_nil)
  (ss_one (ss_ret (ee_op op_mod opd_mod (EB.of (ee_int1 z_int (ebs_cons (EB.of (ee_var 3)) ebs_nil))) (EB.of (ee_var 1))))))))))
abbrev s__law_pick : Stmt := top 40
theorem sc__law_pick : FnScope ["_law_row", "_law_things"] ["_law_row", "_law_things"] (defScope s__law_pick) := ⟨rfl, rfl, rfl, by decide +kernel, rfl, by decide +kernel, by decide +kernel⟩
theorem h__law_pick {f : Addr} {fd : FuncData} (F : Fun K "_law_pick" "_law_pick" s__law_pick f fd) (m : mg "_law_pick" = some (.ref f)) (b : Binds K fd ["_law_row", "_law_things"] []) (z_len : mg "len" = none) (h__law_taken : Has P w K mg base 1 "_law_taken" C.F__law_taken false) : Has P w K mg base 2 "_law_pick" C.F__law_pick false := has_mk false F m b sc__law_pick fun _ _ _ _ _ _ hr =>
  ss_one (ss_ret (ee_sub (hu1 hr) (EB.of (ee_var 1)) (EB.of (ee_fn h__law_taken hr (ea_cons (ee_var 0) (ea_cons (ee_len z_len (ebs_cons (EB.of (ee_var 1)) ebs_nil)) ea_nil))))))
abbrev s__law_whole : Stmt := top 41
theorem sc__law_whole : FnScope ["_law_told", "_law_one", "_law_weight"] ["_law_told"] (defScope s__law_whole) := ⟨rfl, rfl, rfl, by decide +kernel, rfl, by decide +kernel, by decide +kernel⟩
theorem h__law_whole {f : Addr} {fd : FuncData} (F : Fun K "_law_whole" "_law_whole" s__law_whole f fd) (m : mg "_law_whole" = some (.ref f)) (b : Binds K fd ["_law_told"] []) (z_sum : mg "sum" = none) : Has P w K mg base 1 "_law_whole" C.F__law_whole false := has_mk false F m b sc__law_whole fun _ _ _ _ _ _ hr =>
  ss_one (ss_ret (ee_sum z_sum (ebs_cons (EB.of (EE.ofF (ef_lc (own := [("_law_one", 1), ("_law_weight", 2)]) sc__law_whole.nd (ei_val (ee_var 0)) (blkOk_by (by kernel_rfl)) (fun _ _ _ _ _ => gg_tup (is := [1, 2]) (pgn_cons (i := 1) sc__law_whole.nd (pgn_cons (i := 2) sc__law_whole.nd pgn_nil))) (fun _ _ _ _ _ => ets_nil) (fun _ _ _ _ _ => ee_var 2)))) ebs_nil)))
abbrev s__law_mixed : Stmt := top 42
theorem sc__law_mixed : FnScope ["_law_row", "_law_some", "_law_left", "_law_found", "_law_step"] ["_law_row", "_law_some"] (defScope s__law_mixed) := ⟨rfl, rfl, rfl, by decide +kernel, rfl, by decide +kernel, by decide +kernel⟩
theorem h__law_mixed {f : Addr} {fd : FuncData} (F : Fun K "_law_mixed" "_law_mixed" s__law_mixed f fd) (m : mg "_law_mixed" = some (.ref f)) (b : Binds K fd ["_law_row", "_law_some"] []) (z_len : mg "len" = none) (z_list : mg "list" = none) (z_range : mg "range" = none) (h__law_taken : Has P w K mg base 1 "_law_taken" C.F__law_taken false) : Has P w K mg base 2 "_law_mixed" C.F__law_mixed false := has_mk false F m b sc__law_mixed fun _ _ _ _ _ _ hr =>
  ss_cons (ss_par (i := 2) (j := 3) sc__law_mixed.nd (ex_fr (ef_list z_list (ebs_cons (EB.of (ee_var 1)) ebs_nil)) (ex_fr (ef_lst ea_nil) ex_nil)))
  (ss_cons (ss_for (ei_rg1 z_range (ea_cons (ee_len z_len (ebs_cons (eb_any 2) ebs_nil)) ea_nil)) (gg_name (i := 4) sc__law_mixed.nd)
  (ss_one (ss_expr (ee_append (eb_any 3) (ee_popAt (eb_any 2) (ee_fn h__law_taken hr (ea_cons (ee_var 0) (ea_cons (ee_len z_len (ebs_cons (eb_any 2) ebs_nil)) ea_nil))))))))
  (ss_one (ss_frz 3 (ss_ret (ee_var 3)))))
abbrev s__law_picture : Stmt := top 43
theorem sc__law_picture : FnScope ["_law_row", "_law_high", "_law_wide", "_law_at", "_law_spot"] ["_law_row", "_law_high", "_law_wide"] (defScope s__law_picture) := ⟨rfl, rfl, rfl, by decide +kernel, rfl, by decide +kernel, by decide +kernel⟩
theorem h__law_picture {f : Addr} {fd : FuncData} (F : Fun K "_law_picture" "_law_picture" s__law_picture f fd) (m : mg "_law_picture" = some (.ref f)) (b : Binds K fd ["_law_row", "_law_high", "_law_wide"] []) (z_range : mg "range" = none) (z_tuple : mg "tuple" = none) (h__law_pick : Has P w K mg base 2 "_law_pick" C.F__law_pick false) : Has P w K mg base 3 "_law_picture" C.F__law_picture false := has_mk false F m b sc__law_picture fun _ _ _ _ _ _ hr =>
  ss_one (ss_ret (ee_tuple z_tuple (ebs_cons (EB.of (EE.ofF (ef_lc (own := [("_law_at", 3)]) sc__law_picture.nd (ei_rg1 z_range (ea_cons (ee_var 1) ea_nil)) (blkOk_by (by kernel_rfl)) (fun _ _ _ _ _ => gg_name (i := 3) sc__law_picture.nd) (fun _ _ _ _ _ => ets_nil) (fun _ _ _ _ _ => ee_join ee_str (EB.of (EE.ofF (ef_lc (own := [("_law_spot", 4)]) sc__law_picture.nd (ei_rg1 z_range (ea_cons (ee_var 2) ea_nil)) (blkOk_by (by kernel_rfl)) (fun _ _ _ _ _ => gg_name (i := 4) sc__law_picture.nd) (fun _ _ _ _ _ => ets_nil) (fun _ _ _ _ _ => ee_fn h__law_pick hr (ea_cons (ee_var 0) (ea_cons ee_str ea_nil)))))))))) ebs_nil)))
abbrev s__law_stroke : Stmt := top 44
theorem sc__law_stroke : FnScope ["_law_picture_here", "_law_line", "_law_at", "_law_told"] ["_law_picture_here", "_law_line"] (defScope s__law_stroke) := ⟨rfl, rfl, rfl, by decide +kernel, rfl, by decide +kernel, by decide +kernel⟩
theorem h__law_stroke {f : Addr} {fd : FuncData} (F : Fun K "_law_stroke" "_law_stroke" s__law_stroke f fd) (m : mg "_law_stroke" = some (.ref f)) (b : Binds K fd ["_law_picture_here", "_law_line"] []) (z_len : mg "len" = none) (z_tuple : mg "tuple" = none) : Has P w K mg base 1 "_law_stroke" C.F__law_stroke false := has_mk false F m b sc__law_stroke fun _ _ _ _ _ _ hr =>
  ss_cons (ss_if (et_cmp op_lt (opd_cmpI _) (EB.of (ee_var 1)) (EB.of (ee_len z_len (ebs_cons (EB.of (ee_var 0)) ebs_nil))))
  (ss_one (ss_ret (ee_op op_addAll opd_add (EB.of (ee_op op_addAll opd_add (EB.of (ee_sl (EB.of (ee_var 0)) eo_none (eo_some (ee_var 1)))) (EB.of (ee_tup (ea_cons (ee_op op_mulAll opd_mul (EB.of ee_str) (EB.of (ee_len z_len (ebs_cons (EB.of (ee_sub (hu1 hr) (EB.of (ee_var 0)) (EB.of ee_int))) ebs_nil)))) ea_nil))))) (EB.of (ee_sl (EB.of (ee_var 0)) (eo_some (ee_op op_addAll opd_add (EB.of (ee_var 1)) (EB.of ee_int))) eo_none)))))
  ss_nil)
  (ss_cons (ss_set (i := 2) sc__law_stroke.nd (ee_op op_sub opd_sub (EB.of (ee_var 1)) (EB.of (ee_len z_len (ebs_cons (EB.of (ee_var 0)) ebs_nil)))))
  (ss_one (ss_ret (ee_tuple z_tuple (ebs_cons (EB.of (EE.ofF (ef_lc (own := [("_law_told", 3)]) sc__law_stroke.nd (ei_val (ee_var 0)) (blkOk_by (by kernel_rfl)) (fun _ _ _ _ _ => gg_name (i := 3) sc__law_stroke.nd) (fun _ _ _ _ _ => ets_nil) (fun _ _ _ _ _ => ee_op op_addAll opd_add (EB.of (ee_op op_addAll opd_add (EB.of (ee_sl (EB.of (ee_var 3)) eo_none (eo_some (ee_var 2)))) (EB.of ee_str))) (EB.of (ee_sl (EB.of (ee_var 3)) (eo_some (ee_op op_addAll opd_add (EB.of (ee_var 2)) (EB.of ee_int))) eo_none)))))) ebs_nil)))))
abbrev s__law_strokes : Stmt := top 45
theorem sc__law_strokes : FnScope ["_law_picture_here", "_law_lines", "_law_line"] ["_law_picture_here", "_law_lines"] (defScope s__law_strokes) := ⟨rfl, rfl, rfl, by decide +kernel, rfl, by decide +kernel, by decide +kernel⟩
theorem h__law_strokes {f : Addr} {fd : FuncData} (F : Fun K "_law_strokes" "_law_strokes" s__law_strokes f fd) (m : mg "_law_strokes" = some (.ref f)) (b : Binds K fd ["_law_picture_here", "_law_lines"] []) (h__law_stroke : Has P w K mg base 1 "_law_stroke" C.F__law_stroke false) : Has P w K mg base 2 "_law_strokes" C.F__law_strokes false := has_mk false F m b sc__law_strokes fun _ _ _ _ _ _ hr =>
  ss_cons (ss_for (ei_val (ee_var 1)) (gg_name (i := 2) sc__law_strokes.nd)
  (ss_one (ss_set (i := 0) sc__law_strokes.nd (ee_fn h__law_stroke hr (ea_cons (ee_var 0) (ea_cons (ee_var 2) ea_nil))))))
  (ss_one (ss_ret (ee_var 0)))
abbrev s__law_common : Stmt := top 46
theorem sc__law_common : FnScope ["_law_one", "_law_other"] ["_law_one", "_law_other"] (defScope s__law_common) := ⟨rfl, rfl, rfl, by decide +kernel, rfl, by decide +kernel, by decide +kernel⟩
theorem h__law_common {f : Addr} {fd : FuncData} (F : Fun K "_law_common" "_law_common" s__law_common f fd) (m : mg "_law_common" = some (.ref f)) (b : Binds K fd ["_law_one", "_law_other"] []) (z_abs : mg "abs" = none) : Has P w K mg base 1 "_law_common" C.F__law_common false := has_mk false F m b sc__law_common fun _ _ _ _ _ _ hr =>
  ss_cons (ss_par (i := 0) (j := 1) sc__law_common.nd (ex_pl (ee_abs z_abs (ebs_cons (EB.of (ee_var 0)) ebs_nil)) (ex_pl (ee_abs z_abs (ebs_cons (EB.of (ee_var 1)) ebs_nil)) ex_nil)))
  (ss_cons (ss_while (et_cmp (op_neD (hu64 hr)) opd_ne (EB.of (ee_var 1)) (EB.of ee_int))
  (ss_one (ss_par (i := 0) (j := 1) sc__law_common.nd (ex_pl (ee_var 1) (ex_pl (ee_op op_sub opd_sub (EB.of (ee_var 0)) (EB.of (ee_op op_mulAll opd_mul (EB.of (ee_var 1)) (EB.of (ee_op op_fdivW opd_div (EB.of (ee_var 0)) (EB.of (ee_var 1))))))) ex_nil)))))
  (ss_one (ss_ret (ee_var 0))))
abbrev s__law_share : Stmt := top 47
theorem sc__law_share : FnScope ["_law_above", "_law_low", "_law_shared"] ["_law_above", "_law_low"] (defScope s__law_share) := ⟨rfl, rfl, rfl, by decide +kernel, rfl, by decide +kernel, by decide +kernel⟩
theorem h__law_share {f : Addr} {fd : FuncData} (F : Fun K "_law_share" "_law_share" s__law_share f fd) (m : mg "_law_share" = some (.ref f)) (b : Binds K fd ["_law_above", "_law_low"] []) (h__law_common : Has P w K mg base 1 "_law_common" C.F__law_common false) : Has P w K mg base 2 "_law_share" C.F__law_share false := has_mk false F m b sc__law_share fun _ _ _ _ _ _ hr =>
  ss_cons (ss_set (i := 2) sc__law_share.nd (ee_fn h__law_common hr (ea_cons (ee_var 0) (ea_cons (ee_var 1) ea_nil))))
  (ss_one (ss_ret (ee_tup (ea_cons (ee_op op_fdivW opd_div (EB.of (ee_var 0)) (EB.of (ee_var 2))) (ea_cons (ee_op op_fdivW opd_div (EB.of (ee_var 1)) (EB.of (ee_var 2))) ea_nil)))))
abbrev s__law_throws : Stmt := top 48
theorem sc__law_throws : FnScope ["_law_row", "_law_high", "_law_wide", "_law_most", "_law_found", "_law_step", "_law_lines", "_law_at"] ["_law_row", "_law_high", "_law_wide", "_law_most"] (defScope s__law_throws) := ⟨rfl, rfl, rfl, by decide +kernel, rfl, by decide +kernel, by decide +kernel⟩
theorem h__law_throws {f : Addr} {fd : FuncData} (F : Fun K "_law_throws" "_law_throws" s__law_throws f fd) (m : mg "_law_throws" = some (.ref f)) (b : Binds K fd ["_law_row", "_law_high", "_law_wide", "_law_most"] []) (z_range : mg "range" = none) (h__law_pick : Has P w K mg base 2 "_law_pick" C.F__law_pick false) (h__law_taken : Has P w K mg base 1 "_law_taken" C.F__law_taken false) : Has P w K mg base 3 "_law_throws" C.F__law_throws false := has_mk false F m b sc__law_throws fun _ _ _ _ _ _ hr =>
  ss_cons (ss_setF (i := 4) sc__law_throws.nd (ef_lst ea_nil))
  (ss_cons (ss_for (ei_rg1 z_range (ea_cons (ee_op op_addAll opd_add (EB.of ee_int) (EB.of (ee_fn h__law_taken hr (ea_cons (ee_var 0) (ea_cons (ee_var 3) ea_nil))))) ea_nil)) (gg_name (i := 5) sc__law_throws.nd)
  (ss_cons (ss_setLcP (i := 6) (own := [("_law_at", 7)]) sc__law_throws.nd (ei_rg1 z_range (ea_cons (ee_fn h__law_pick hr (ea_cons (ee_var 0) (ea_cons (EE.ofF (ef_lst (ea_cons ee_int (ea_cons ee_int (ea_cons ee_int (ea_cons ee_int (ea_cons ee_int (ea_cons ee_int ea_nil)))))))) ea_nil))) ea_nil)) (blkOk_by (by kernel_rfl)) (fun _ _ _ _ _ => gg_name (i := 7) sc__law_throws.nd) (fun _ _ _ _ _ => ets_nil) (fun _ _ _ _ _ => ee_fn h__law_taken hr (ea_cons (ee_var 0) (ea_cons (ee_op op_addAll opd_add (EB.of (ee_var 1)) (EB.of (ee_var 2))) ea_nil))))
  (ss_one (ss_expr (ee_append (eb_any 4) (ee_tup (ea_cons (ee_var 6) (ea_cons (ee_op op_addAll opd_add (EB.of ee_int) (EB.of (ee_fn h__law_taken hr (ea_cons (ee_var 0) (ea_cons ee_int ea_nil))))) ea_nil))))))))
  (ss_one (ss_frz 4 (ss_ret (ee_var 4)))))
abbrev s__law_draws : Stmt := top 49
theorem sc__law_draws : FnScope ["_law_told", "_law_start", "_law_many", "_law_now", "_law_whole_here", "_law_step", "_law_later", "_law_here", "_law_one", "_law_weight", "_law_there"] ["_law_told", "_law_start", "_law_many"] (defScope s__law_draws) := ⟨rfl, rfl, rfl, by decide +kernel, rfl, by decide +kernel, by decide +kernel⟩
theorem h__law_draws {f : Addr} {fd : FuncData} (F : Fun K "_law_draws" "_law_draws" s__law_draws f fd) (m : mg "_law_draws" = some (.ref f)) (b : Binds K fd ["_law_told", "_law_start", "_law_many"] []) (z_dict : mg "dict" = none) (z_range : mg "range" = none) (h__law_share : Has P w K mg base 2 "_law_share" C.F__law_share false) (h__law_strokes : Has P w K mg base 2 "_law_strokes" C.F__law_strokes false) (h__law_whole : Has P w K mg base 1 "_law_whole" C.F__law_whole false) : Has P w K mg base 3 "_law_draws" C.F__law_draws false := has_mk false F m b sc__law_draws fun _ _ _ _ _ _ hr =>
  ss_cons (ss_asgT (is := [3, 4]) (ex_pl (EE.ofF (ef_disp1T (hu1 hr) (ee_var 1) ee_int)) (ex_pl ee_int ex_nil)) (pgn_cons (i := 3) sc__law_draws.nd (pgn_cons (i := 4) sc__law_draws.nd pgn_nil)))
  (ss_cons (ss_for (ei_rg1 z_range (ea_cons (ee_var 2) ea_nil)) (gg_name (i := 5) sc__law_draws.nd)
  (ss_cons (ss_setF (i := 6) sc__law_draws.nd ef_dnewT)
  (ss_cons (ss_forKeys 3 (gg_name (i := 7) sc__law_draws.nd)
  (ss_one (ss_for (ei_val (ee_var 0)) (gg_tup (is := [8, 9]) (pgn_cons (i := 8) sc__law_draws.nd (pgn_cons (i := 9) sc__law_draws.nd pgn_nil)))
  (ss_cons (ss_set (i := 10) sc__law_draws.nd (ee_fn h__law_strokes hr (ea_cons (ee_var 7) (ea_cons (ee_var 8) ea_nil))))
  (ss_one (ss_put (hu1 hr) (ee_op op_addAll opd_add (EB.of (ee_get2 (hu1 hr) (eb_any 6) (ee_var 10) ee_int)) (EB.of (ee_op op_mulAll opd_mul (EB.of (ee_sub (hu1 hr) (EB.of (ee_var 3)) (EB.of (ee_var 7)))) (EB.of (ee_var 9))))) (eb_any 6) (ee_var 10)))))))
  (ss_one (ss_frz 6 (ss_asgT (is := [3, 4]) (ex_pl (ee_var 6) (ex_pl (ee_op op_mulAll opd_mul (EB.of (ee_var 4)) (EB.of (ee_fn h__law_whole hr (ea_cons (ee_var 0) ea_nil)))) ex_nil)) (pgn_cons (i := 3) sc__law_draws.nd (pgn_cons (i := 4) sc__law_draws.nd pgn_nil))))))))
  (ss_one (ss_ret (EE.ofF (ef_dictL z_dict (hu65 hr) (ebs_cons (EB.of (EE.ofF (ef_lcKeys 3 (own := [("_law_here", 7)]) sc__law_draws.nd (blkOk_by (by kernel_rfl)) (fun _ _ _ _ _ => gg_name (i := 7) sc__law_draws.nd) (fun _ _ _ _ _ => ets_nil) (fun _ _ _ _ _ => ee_tup (ea_cons (ee_var 7) (ea_cons (ee_fn h__law_share hr (ea_cons (ee_sub (hu1 hr) (EB.of (ee_var 3)) (EB.of (ee_var 7))) (ea_cons (ee_var 4) ea_nil))) ea_nil)))))) ebs_nil))))))
abbrev s_law : Stmt := top 50
theorem sc_law : FnScope ["_law_script", "_law_row", "_law_high", "_law_wide", "_law_throws_here", "_law_told", "_law_more", "_law_lines", "_law_weight", "_law_kept", "_law_ahead", "_law_cut", "_law_times", "_law_other", "_law_start", "_law_same", "_law_here", "_law_line", "_law_step"] ["_law_script"] (defScope s_law) := ⟨rfl, rfl, rfl, by decide +kernel, rfl, by decide +kernel, by decide +kernel⟩
theorem g_law {f : Addr} {fd : FuncData} (F : Fun K "law" "law" s_law f fd) (z_len : mg "len" = none) (z_list : mg "list" = none) (z_range : mg "range" = none) (h__law_draws : Has P w K mg base 3 "_law_draws" C.F__law_draws false) (h__law_mixed : Has P w K mg base 2 "_law_mixed" C.F__law_mixed false) (h__law_pick : Has P w K mg base 2 "_law_pick" C.F__law_pick false) (h__law_picture : Has P w K mg base 3 "_law_picture" C.F__law_picture false) (h__law_taken : Has P w K mg base 1 "_law_taken" C.F__law_taken false) (h__law_throws : Has P w K mg base 3 "_law_throws" C.F__law_throws false) (h_effect : Has P w K mg base 5 "effect" C.F_effect false) (h_least_values : Has P w K mg base 7 "least_values" C.F_least_values false) (h_measure : Has P w K mg base 5 "measure" C.F_measure false) (h_same_chain : Has P w K mg base 7 "same_chain" C.F_same_chain false) : FnOk P w K mg base CX0 8 f fd ["_law_script"] (spD K mg C.F_law_K25 false) := fn_ok F sc_law fun _ _ _ _ _ _ hr =>
  ss_cons (ss_setOb (i := 1) sc_law.nd (ef_lst (ea_cons (ee_var 0) (ea_cons ee_int (ea_cons ee_int (ea_cons ee_int ea_nil))))))
  (ss_cons (ss_asgT (is := [2, 3]) (ex_pl (ee_op op_addAll opd_add (EB.of ee_int) (EB.of (ee_fn h__law_taken hr (ea_cons (ee_var 1) (ea_cons ee_int ea_nil))))) (ex_pl (ee_op op_addAll opd_add (EB.of ee_int) (EB.of (ee_fn h__law_taken hr (ea_cons (ee_var 1) (ea_cons ee_int ea_nil))))) ex_nil)) (pgn_cons (i := 2) sc_law.nd (pgn_cons (i := 3) sc_law.nd pgn_nil)))
  (ss_cons (ss_set (i := 4) sc_law.nd (ee_fn h__law_throws hr (ea_cons (ee_var 1) (ea_cons (ee_var 2) (ea_cons (ee_var 3) (ea_cons ee_int ea_nil))))))
  (ss_cons (ss_par (i := 5) (j := 6) sc_law.nd (ex_pl (ee_fn h_measure hr (ea_cons (ee_var 2) (ea_cons (ee_var 3) (ea_cons (ee_var 4) ea_nil)))) (ex_fr (ef_lst ea_nil) ex_nil)))
  (ss_cons (ss_for (ei_val (ee_var 4)) (gg_tup (is := [7, 8]) (pgn_cons (i := 7) sc_law.nd (pgn_cons (i := 8) sc_law.nd pgn_nil)))
  (ss_cons (ss_set (i := 9) sc_law.nd (EE.ofF (ef_list z_list (ebs_cons (EB.of (ee_fn h_effect hr (ea_cons (ee_var 2) (ea_cons (ee_var 3) (ea_cons (ee_var 7) ea_nil))))) ebs_nil))))
  (ss_cons (ss_set (i := 10) sc_law.nd (ee_op op_addAll opd_add (EB.of (EE.ofF (ef_lc (own := [("_law_line", 17)]) sc_law.nd (ei_val (ee_var 7)) (blkOk_by (by kernel_rfl)) (fun _ _ _ _ _ => gg_name (i := 17) sc_law.nd) (fun _ _ _ _ _ => ets_nil) (fun _ _ _ _ _ => ee_var 17)))) (EB.of (EE.ofF (ef_lc (own := [("_law_step", 18)]) sc_law.nd (ei_rg1 z_range (ea_cons (ee_fn h__law_taken hr (ea_cons (ee_var 1) (ea_cons ee_int ea_nil))) ea_nil)) (blkOk_by (by kernel_rfl)) (fun _ _ _ _ _ => gg_name (i := 18) sc_law.nd) (fun _ _ _ _ _ => ets_one (et_cmp (op_neD (hu64 hr)) opd_ne (EB.of (ee_var 9)) (EB.of (EE.ofF (ef_lst ea_nil))))) (fun _ _ _ _ _ => ee_fn h__law_pick hr (ea_cons (ee_var 1) (ea_cons (ee_var 9) ea_nil))))))))
  (ss_cons (ss_if (et_cmp (op_eqD (hu64 hr)) opd_eq (EB.of (ee_len z_len (ebs_cons (EB.of (EE.ofF (ef_lc (own := [("_law_line", 17)]) sc_law.nd (ei_val (ee_var 9)) (blkOk_by (by kernel_rfl)) (fun _ _ _ _ _ => gg_name (i := 17) sc_law.nd) (fun _ _ _ _ _ => ets_one (et_cmp op_lt (opd_cmpI _) (EB.of (ee_var 17)) (EB.of (ee_var 2)))) (fun _ _ _ _ _ => ee_var 17)))) ebs_nil))) (EB.of (ee_var 2)))
  (ss_one (ss_set (i := 10) sc_law.nd (ee_op op_addAll opd_add (EB.of (ee_var 10)) (EB.of (EE.ofF (ef_lc (own := [("_law_step", 18)]) sc_law.nd (ei_rg1 z_range (ea_cons ee_int ea_nil)) (blkOk_by (by kernel_rfl)) (fun _ _ _ _ _ => gg_name (i := 18) sc_law.nd) (fun _ _ _ _ _ => ets_nil) (fun _ _ _ _ _ => ee_op op_addAll opd_add (EB.of (ee_var 2)) (EB.of (ee_fn h__law_taken hr (ea_cons (ee_var 1) (ea_cons (ee_var 3) ea_nil)))))))))))
  ss_nil)
  (ss_cons (ss_if (et_cmp (op_eqD (hu64 hr)) opd_eq (EB.of (ee_len z_len (ebs_cons (EB.of (EE.ofF (ef_lc (own := [("_law_line", 17)]) sc_law.nd (ei_val (ee_var 9)) (blkOk_by (by kernel_rfl)) (fun _ _ _ _ _ => gg_name (i := 17) sc_law.nd) (fun _ _ _ _ _ => ets_one (et_cmp op_ge (opd_cmpI _) (EB.of (ee_var 17)) (EB.of (ee_var 2)))) (fun _ _ _ _ _ => ee_var 17)))) ebs_nil))) (EB.of (ee_var 3)))
  (ss_one (ss_set (i := 10) sc_law.nd (ee_op op_addAll opd_add (EB.of (ee_var 10)) (EB.of (EE.ofF (ef_lc (own := [("_law_step", 18)]) sc_law.nd (ei_rg1 z_range (ea_cons ee_int ea_nil)) (blkOk_by (by kernel_rfl)) (fun _ _ _ _ _ => gg_name (i := 18) sc_law.nd) (fun _ _ _ _ _ => ets_nil) (fun _ _ _ _ _ => ee_fn h__law_taken hr (ea_cons (ee_var 1) (ea_cons (ee_var 2) ea_nil)))))))))
  ss_nil)
  (ss_cons (ss_set (i := 11) sc_law.nd (ee_op op_addAll opd_add (EB.of (ee_fn h__law_taken hr (ea_cons (ee_var 1) (ea_cons (ee_var 8) ea_nil)))) (EB.of ee_int)))
  (ss_cons (ss_expr (ee_append (eb_any 6) (ee_tup (ea_cons (ee_op op_addAll opd_add (EB.of (ee_fn h__law_mixed hr (ea_cons (ee_var 1) (ea_cons (ee_var 10) ea_nil)))) (EB.of (ee_var 9))) (ea_cons (ee_var 11) ea_nil)))))
  (ss_one (ss_if (et_cmp op_lt (opd_cmpI _) (EB.of (ee_var 11)) (EB.of (ee_var 8)))
  (ss_one (ss_expr (ee_append (eb_any 6) (ee_tup (ea_cons (ee_var 7) (ea_cons (ee_op op_sub opd_sub (EB.of (ee_var 8)) (EB.of (ee_var 11))) ea_nil))))))
  ss_nil)))))))))
  (ss_cons (ss_frz 6 (ss_if (et_cmp (op_neD (hu64 hr)) opd_ne (EB.of (ee_fn h_measure hr (ea_cons (ee_var 2) (ea_cons (ee_var 3) (ea_cons (ee_fn h__law_mixed hr (ea_cons (ee_var 1) (ea_cons (ee_var 6) ea_nil))) ea_nil))))) (EB.of (ee_var 5)))
  (ss_one (ss_ret ee_bl))
  ss_nil))
  (ss_cons (ss_set (i := 12) sc_law.nd (ee_op op_addAll opd_add (EB.of ee_int) (EB.of (ee_fn h__law_taken hr (ea_cons (ee_var 1) (ea_cons ee_int ea_nil))))))
  (ss_cons (ss_if (et_cmp (op_neD (hu64 hr)) opd_ne (EB.of (ee_fn h_measure hr (ea_cons (ee_var 2) (ea_cons (ee_var 3) (ea_cons (EE.ofF (ef_lc (own := [("_law_lines", 7), ("_law_weight", 8)]) sc_law.nd (ei_val (ee_var 4)) (blkOk_by (by kernel_rfl)) (fun _ _ _ _ _ => gg_tup (is := [7, 8]) (pgn_cons (i := 7) sc_law.nd (pgn_cons (i := 8) sc_law.nd pgn_nil))) (fun _ _ _ _ _ => ets_nil) (fun _ _ _ _ _ => ee_tup (ea_cons (ee_var 7) (ea_cons (ee_op op_mulAll opd_mul (EB.of (ee_var 8)) (EB.of (ee_var 12))) ea_nil))))) ea_nil))))) (EB.of (ee_var 5)))
  (ss_one (ss_ret ee_bl))
  ss_nil)
  (ss_cons (ss_set (i := 13) sc_law.nd (ee_fn h_measure hr (ea_cons (ee_var 2) (ea_cons (ee_var 3) (ea_cons (ee_op op_addAll opd_add (EB.of (ee_var 4)) (EB.of (EE.ofF (ef_lst (ea_cons (ee_tup (ea_cons (EE.ofF (ef_lst (ea_cons (ee_fn h__law_taken hr (ea_cons (ee_var 1) (ea_cons (ee_op op_addAll opd_add (EB.of (ee_var 2)) (EB.of (ee_var 3))) ea_nil))) ea_nil))) (ea_cons (ee_op op_addAll opd_add (EB.of ee_int) (EB.of (ee_fn h__law_taken hr (ea_cons (ee_var 1) (ea_cons ee_int ea_nil))))) ea_nil))) ea_nil))))) ea_nil)))))
  (ss_cons (ss_setLcP (i := 14) (own := [("_law_step", 18)]) sc_law.nd (ei_rg1 z_range (ea_cons ee_int ea_nil)) (blkOk_by (by kernel_rfl)) (fun _ _ _ _ _ => gg_name (i := 18) sc_law.nd) (fun _ _ _ _ _ => ets_nil) (fun _ _ _ _ _ => ee_fn h__law_picture hr (ea_cons (ee_var 1) (ea_cons (ee_var 2) (ea_cons (ee_var 3) ea_nil)))))
  (ss_cons (ss_set (i := 15) sc_law.nd ee_bl)
  (ss_cons (ss_for (ei_val (ee_var 14)) (gg_name (i := 16) sc_law.nd)
  (ss_one (ss_set (i := 15) sc_law.nd (ee_and (ee_var 15) (ee_one (ee_cmp (op_eqT (hu66 hr)) opd_eqT (EB.of (ee_fn h__law_draws hr (ea_cons (ee_var 5) (ea_cons (ee_var 16) (ea_cons ee_int ea_nil))))) (EB.of (ee_fn h__law_draws hr (ea_cons (ee_var 13) (ea_cons (ee_var 16) (ea_cons ee_int ea_nil)))))))))))
  (ss_cons (ss_if (EW.et (ew_or (EW.et (ew_and (et_val (ee_fn h_same_chain hr (ea_cons (ee_var 2) (ea_cons (ee_var 3) (ea_cons (ee_var 5) (ea_cons (ee_var 13) ea_nil)))))) (ew_and1 (et_not (et_val (ee_var 15)))))) (ew_or1 (et_cmp op_isnotAll opd_isnot (EB.of (ee_fn h_same_chain hr (ea_cons (ee_var 2) (ea_cons (ee_var 3) (ea_cons (ee_var 5) (ea_cons (ee_var 5) ea_nil)))))) (EB.of ee_bl)))))
  (ss_one (ss_ret ee_bl))
  ss_nil)
  (ss_one (ss_ret (ee_and (ee_cmp (op_eqD (hu64 hr)) opd_eq (EB.of (ee_sub (hu1 hr) (EB.of (ee_fn h_least_values hr (ea_cons (ee_var 2) (ea_cons (ee_var 3) (ea_cons (ee_var 5) ea_nil))))) (EB.of ee_int))) (EB.of (ee_tup (ea_cons ee_int (ea_cons ee_int ea_nil))))) (ee_one (ee_cmp (op_eqD (hu64 hr)) opd_eq (EB.of (ee_cmp (op_eqD (hu64 hr)) opd_eq (EB.of (ee_var 5)) (EB.of (ee_var 13)))) (EB.of (ee_fn h_same_chain hr (ea_cons (ee_var 2) (ea_cons (ee_var 3) (ea_cons (ee_var 5) (ea_cons (ee_var 13) ea_nil)))))))))))))))))))))))
end K25
namespace PD
open PySem PySem.Spec PyProof.Rows L2
section
variable {α β : Type} {m m' : M}
@[simp] theorem ret_ap (a : α) (m : M) : Co.ret a m = .ok a m := rfl
@[simp] theorem bind_ap (c : Co α) (k : α → Co β) (m : M) : Co.bind c k m = match c m with
  | .ok a m' => k a m'
  | .no => .no := rfl
@[simp] theorem lift_some (a : α) (m : M) : Co.lift (some a) m = .ok a m := by unfold Co.lift; exact Eq.refl _
@[simp] theorem lift_none (m : M) : (Co.lift none : Co α) m = .no := by unfold Co.lift; exact Eq.refl _
@[simp] theorem vPl_ap (i : Nat) (e : List Slot) (o : List (List D)) : vPl i ⟨e, o⟩ = match e[i]? with
  | some (.pl d) => .ok d ⟨e, o⟩
  | _ => .no := rfl
@[simp] theorem vAny_ap (i : Nat) (e : List Slot) (o : List (List D)) : vAny i ⟨e, o⟩ = match e[i]? with
  | some (.ow _) => .ok (.slot i) ⟨e, o⟩
  | some (.pl d) => .ok (.val d) ⟨e, o⟩
  | _ => .no := rfl
@[simp] theorem get_slot (i : Nat) (e : List Slot) (o : List (List D)) : Opd.get ⟨e, o⟩ (.slot i) = match e[i]? with
  | some (.ow d) => some d
  | _ => none := rfl
@[simp] theorem get_int (m : M) (i : Int) : Opd.get m (.val (.int i)) = some (.int i) := rfl
@[simp] theorem get_bl (m : M) (i : Bool) : Opd.get m (.val (.bl i)) = some (.bl i) := rfl
@[simp] theorem get_non (m : M) : Opd.get m (.val .non) = some .non := rfl
@[simp] theorem get_str (m : M) (i : Str) : Opd.get m (.val (.str i)) = some (.str i) := rfl
@[simp] theorem get_tup (m : M) (i : List D) : Opd.get m (.val (.tup i)) = some (.tup i) := rfl
@[simp] theorem get_lst (m : M) (i : List D) : Opd.get m (.val (.lst i)) = some (.lst i) := rfl
@[simp] theorem get_dk (m : M) (i : List (Key × D)) : Opd.get m (.val (.dk i)) = some (.dk i) := rfl
@[simp] theorem get_dt (m : M) (i : List (List Key × D)) : Opd.get m (.val (.dt i)) = some (.dt i) := rfl
@[simp] theorem get_scr (m : M) (i : List Int) : Opd.get m (.val (.scr i)) = some (.scr i) := rfl
@[simp] theorem get_ty (m : M) (i : String) : Opd.get m (.val (.ty i)) = some (.ty i) := rfl
@[simp] theorem get_obj (m : M) (n : Nat) : Opd.get m (.val (.obj n)) = (m.obs[n]?).map D.lst := rfl
@[simp] theorem vB_ap (f : Co D) (m : M) : vB f m = (Co.bind f fun d => Co.ret (.val d)) m := rfl
@[simp] theorem eOp_ap (g : D → D → Option D) (a b : Co Opd) (m : M) : eOp g a b m = (Co.bind a fun o1 => Co.bind b fun o2 => Opd2 g o1 o2) m := rfl
@[simp] theorem Opd2_ap (g : D → D → Option D) (o1 o2 : Opd) (m : M) : Opd2 g o1 o2 m = match o1.get m with
  | some d1 => match o2.get m with
    | some d2 => match g d1 d2 with
      | some d => .ok d m
      | none => .no
    | none => .no
  | none => .no := rfl
@[simp] theorem Opd1_ap (g : D → Option D) (o1 : Opd) (m : M) : Opd1 g o1 m = match o1.get m with
  | some d1 => match g d1 with
    | some d => .ok d m
    | none => .no
  | none => .no := rfl
@[simp] theorem eOp1_ap (g : D → Option D) (a : Co Opd) (m : M) : eOp1 g a m = (Co.bind a fun o1 => Opd1 g o1) m := rfl
@[simp] theorem un1_ap (g : D → Option D) (f : Co D) (m : M) : un1 g f m = (Co.bind f fun d m => match g d with
  | some r => .ok r m
  | none => .no) m := rfl
@[simp] theorem toB_bl (b : Bool) (m : M) : toB (.bl b) m = .ok b m := rfl
@[simp] theorem tB_ap (f : Co D) (m : M) : tB' f m = (Co.bind f toB) m := rfl
@[simp] theorem tAnd_ap (t u : Co Bool) (m : M) : tAnd' t u m = (Co.bind t fun c => if c = true then u else Co.ret false) m := rfl
@[simp] theorem tOr_ap (t u : Co Bool) (m : M) : tOr' t u m = (Co.bind t fun c => if c = true then Co.ret true else u) m := rfl
@[simp] theorem tNot_ap (t : Co Bool) (m : M) : tNot' t m = (Co.bind t fun c => Co.ret !c) m := rfl
@[simp] theorem eCons_ap (f : Co D) (fs : Co (List D)) (m : M) : eCons f fs m = (Co.bind f fun d => Co.bind fs fun ds => Co.ret (d :: ds)) m := rfl
@[simp] theorem bCons_ap (f : Co Opd) (fs : Co (List Opd)) (m : M) : bCons f fs m = (Co.bind f fun d => Co.bind fs fun ds => Co.ret (d :: ds)) m := rfl
@[simp] theorem getAll_nil (m : M) : Opd.getAll m [] = some [] := rfl
@[simp] theorem getAll_cons (m : M) (o : Opd) (os : List Opd) : Opd.getAll m (o :: os) = match o.get m with
  | some d => match Opd.getAll m os with
    | some ds => some (d :: ds)
    | none => none
  | none => none := rfl
@[simp] theorem eCall_ap (g : List D → Option D) (gs : Co (List Opd)) (m : M) : eCall g gs m = (Co.bind gs fun os m => match Opd.getAll m os with
  | some ds => match g ds with
    | some d => .ok d m
    | none => .no
  | none => .no) m := rfl
@[simp] theorem eFn_ap (F : Fd) (fs : Co (List D)) (m : M) : eFn F fs m = (Co.bind fs fun ds m => match F ds m.obs with
  | some (r, obs') => .ok r { m with obs := obs' }
  | none => .no) m := rfl
@[simp] theorem eTup_ap (fs : Co (List D)) (m : M) : eTup fs m = (Co.bind fs fun ds m => if ds.length ≤ sizeLine then .ok (.tup ds) m else .no) m := rfl
@[simp] theorem eLst_ap (fs : Co (List D)) (m : M) : eLst fs m = (Co.bind fs fun ds m => if ds.length ≤ sizeLine then .ok (.lst ds) m else .no) m := rfl
@[simp] theorem sSeq_ap (f g : Co Flow') (m : M) : sSeq f g m = (Co.bind f fun fl => match fl with
  | .nx => g
  | fl => Co.ret fl) m := rfl
@[simp] theorem sNext_ap (m : M) : sNext m = .ok .nx m := rfl
@[simp] theorem sIf_ap (t : Co Bool) (f g : Co Flow') (m : M) : sIf t f g m = (Co.bind t fun c => if c = true then f else g) m := rfl
@[simp] theorem sRet_ap (f : Co D) (m : M) : sRet f m = (Co.bind f fun d => Co.ret (.rt d)) m := rfl
@[simp] theorem sExpr_ap (f : Co D) (m : M) : sExpr f m = (Co.bind f fun _ => Co.ret .nx) m := rfl
@[simp] theorem sNo_ap (m : M) : sNo m = .no := rfl
@[simp] theorem sSet_ap (i : Nat) (f : Co D) (m : M) : sSet i f m = (Co.bind f fun d m => .ok .nx { m with env := m.env.set i (.pl d) }) m := rfl
@[simp] theorem sSetF_ap (i : Nat) (f : Co D) (m : M) : sSetF i f m = (Co.bind f fun d m => if i < m.env.length then .ok .nx { m with env := m.env.set i (.ow d) } else .no) m := rfl
@[simp] theorem sFrz_ap (i : Nat) (g : Co Flow') (e : List Slot) (o : List (List D)) : sFrz i g ⟨e, o⟩ = match e[i]? with
  | some (.ow d) => g ⟨e.set i (.pl d), o⟩
  | _ => g ⟨e, o⟩ := rfl
@[simp] theorem xNil_ap (m : M) : xNil m = .ok [] m := rfl
@[simp] theorem xPl_ap (f : Co D) (fs : Co (List (Bool × D))) (m : M) : xPl f fs m = (Co.bind f fun d => Co.bind fs fun ds => Co.ret ((false, d) :: ds)) m := rfl
@[simp] theorem xFr_ap (f : Co D) (fs : Co (List (Bool × D))) (m : M) : xFr f fs m = (Co.bind f fun d => Co.bind fs fun ds => Co.ret ((true, d) :: ds)) m := rfl
@[simp] theorem sAsg_ap (is : List Nat) (f : Co (List (Bool × D))) (m : M) : sAsg is f m = (Co.bind f fun ls m => match setEnv m.env is ls with
  | some env => .ok .nx { m with env := env }
  | none => .no) m := rfl
@[simp] theorem setEnv_nil (e : List Slot) : setEnv e [] [] = some e := rfl
@[simp] theorem setEnv_pl (e : List Slot) (i : Nat) (is : List Nat) (d : D) (ls : List (Bool × D)) : setEnv e (i :: is) ((false, d) :: ls) = if i < e.length then setEnv (e.set i (.pl d)) is ls else none := rfl
@[simp] theorem setEnv_ow (e : List Slot) (i : Nat) (is : List Nat) (d : D) (ls : List (Bool × D)) : setEnv e (i :: is) ((true, d) :: ls) = if i < e.length then setEnv (e.set i (.ow d)) is ls else none := rfl
end
@[simp] theorem addD_int (i j : Int) : addD (.int i) (.int j) = some (.int (i + j)) := rfl
@[simp] theorem subD_int (i j : Int) : subD (.int i) (.int j) = some (.int (i - j)) := rfl
@[simp] theorem mulD_int (i j : Int) : mulD (.int i) (.int j) = if CMulW i j then some (.int (i * j)) else none := rfl
@[simp] theorem divD_int (i j : Int) : divD (.int i) (.int j) = if CDivW i j then some (.int (i / j)) else none := rfl
@[simp] theorem modD_int (i j : Int) : modD (.int i) (.int j) = if 0 < j then some (.int (i % j)) else none := rfl
@[simp] theorem cmpI_int (p : Int → Int → Bool) (i j : Int) : cmpI p (.int i) (.int j) = some (.bl (p i j)) := rfl
@[simp] theorem absD_int (i : Int) : absD [.int i] = some (.int (if i < 0 then -i else i)) := rfl
theorem atI_nat {α : Type} (xs : List α) (n : Nat) : atI xs (n : Int) = xs[n]? := by
  unfold atI ixN
  rw [if_pos (by omega)]
  by_cases h : n < xs.length
  · rw [if_pos (by omega)]
    simp
  · rw [if_neg (by omega)]
    simp at h
    simp [h]
@[simp] theorem subD'_tup0 (a : D) (as : List D) : subD' (.tup (a :: as)) (.int 0) = some a := by
  show atI (a :: as) 0 = some a
  exact atI_nat (a :: as) 0
@[simp] theorem subD'_tup1 (a b : D) (as : List D) : subD' (.tup (a :: b :: as)) (.int 1) = some b := by
  show atI (a :: b :: as) 1 = some b
  exact atI_nat (a :: b :: as) 1
theorem runF_rt {nl np : Nat} {body : Co Flow'} {ds : List D} {obs obs' : List (List D)} {d : D} {e : List Slot} (hl : ds.length = np) (h : body ⟨ds.map Slot.pl ++ List.replicate (nl - np) .un, obs⟩ = .ok (.rt d) ⟨e, obs'⟩) : runF nl np body false ds obs = some (d, obs') := by
  unfold runF
  rw [if_pos hl, h]
theorem eqB_of {a b : D} {p q : PyData} (ha : a.toP = some p) (hb : b.toP = some q) (la : p.canLay0 = true) (lb : q.canLay0 = true) (da : p.depth ≤ 64) (db : q.depth ≤ 64) : eqB a b = some (PyData.eqv p q) := by
  unfold eqB
  rw [ha, hb]
  have h1 : SeqAt.shaped p = true := by unfold SeqAt.shaped; rw [la, decide_eq_true da]; rfl
  have h2 : SeqAt.shaped q = true := by unfold SeqAt.shaped; rw [lb, decide_eq_true db]; rfl
  show (if SeqAt.shaped p = true ∧ SeqAt.shaped q = true then some (PyData.eqv p q) else none) = _
  rw [if_pos ⟨h1, h2⟩]
theorem beq_dec {α : Type} [DecidableEq α] [BEq α] [LawfulBEq α] (a b : α) : (a == b) = decide (a = b) := by
  by_cases h : a = b
  · rw [decide_eq_true h, h, beq_self_eq_true]
  · rw [decide_eq_false h]
    exact beq_eq_false_iff_ne.mpr h
theorem eqB_int (i j : Int) : eqB (.int i) (.int j) = some (decide (i = j)) := by
  rw [eqB_of (p := .int i) (q := .int j) rfl rfl rfl rfl (Nat.zero_le _) (Nat.zero_le _)]
  show some (i == j) = _
  rw [beq_dec]
theorem eqB_bl (i j : Bool) : eqB (.bl i) (.bl j) = some (decide (i = j)) := by
  rw [eqB_of (p := .bool i) (q := .bool j) rfl rfl rfl rfl (Nat.zero_le _) (Nat.zero_le _)]
  cases i <;> cases j <;> rfl
@[simp] theorem eqD_int (i j : Int) : eqD (.int i) (.int j) = some (.bl (decide (i = j))) := by unfold eqD; rw [eqB_int]; rfl
@[simp] theorem neD_int (i j : Int) : neD (.int i) (.int j) = some (.bl (!decide (i = j))) := by unfold neD; rw [eqB_int]; rfl
@[simp] theorem eqD_bl (i j : Bool) : eqD (.bl i) (.bl j) = some (.bl (decide (i = j))) := by unfold eqD; rw [eqB_bl]; rfl
@[simp] theorem neD_bl (i j : Bool) : neD (.bl i) (.bl j) = some (.bl (!decide (i = j))) := by unfold neD; rw [eqB_bl]; rfl
theorem eqB_int2 (a b c d : Int) : eqB (.tup [.int a, .int b]) (.tup [.int c, .int d]) = some (decide (a = c) && decide (b = d)) := by
  rw [eqB_of (p := .tuple [.int a, .int b]) (q := .tuple [.int c, .int d]) rfl rfl rfl rfl (by show (max 0 (max 0 0)) + 1 ≤ 64; decide) (by show (max 0 (max 0 0)) + 1 ≤ 64; decide)]
  show some ((a == c) && ((b == d) && true)) = _
  rw [beq_dec, beq_dec, Bool.and_true]
@[simp] theorem asSlot_ap (g : Co Opd) (m : M) : asSlot g m = (Co.bind g fun o m => match o with
  | .slot i => .ok i m
  | _ => .no) m := rfl
@[simp] theorem updW_ap (i : Nat) (h : D → Option D) (m : M) : updW i h m = match m.env[i]? with
  | some (.ow d) => match h d with
    | some d' => .ok () { m with env := m.env.set i (.ow d') }
    | none => .no
  | _ => .no := rfl
@[simp] theorem sDPut_ap (g : Co Opd) (fi fe : Co D) (m : M) : sDPut' g fi fe m = (Co.bind fe fun d => Co.bind (asSlot g) fun i => Co.bind fi fun k => Co.bind (updW i (putDD k d)) fun _ => Co.ret .nx) m := rfl
@[simp] theorem sPut_ap (g : Co Opd) (fi fe : Co D) (m : M) : sPut g fi fe m = match sDPut' g fi fe m with
  | .ok fl m' => .ok fl m'
  | .no => sLSet g fi fe m := rfl
@[simp] theorem isD'_ap (g : Co Opd) (m : M) : isD' g m = (Co.bind g fun o m => match o.get m with
  | some (.dk _) => .ok o m
  | some (.dt _) => .ok o m
  | _ => .no) m := rfl
@[simp] theorem eGet2_ap (g : Co Opd) (f fd : Co D) (m : M) : eGet2 g f fd m = (Co.bind (isD' g) fun o => Co.bind f fun k => Co.bind fd fun z m => match o.get m with
  | some d => match dgetD d k with
    | some (some v) => .ok v m
    | some none => .ok z m
    | none => .no
  | none => .no) m := rfl
@[simp] theorem dgetD_dk (kds : List (Key × D)) (k : D) : dgetD (.dk kds) k = (keyD k).map (valD kds) := rfl
@[simp] theorem keyD_int (i : Int) : keyD (.int i) = some (.inl i) := rfl
@[simp] theorem dictD_dk (kds : List (Key × D)) : dictD [.dk kds] = some (.dk kds) := rfl
@[simp] theorem putDD_dk (k v : D) (kds : List (Key × D)) : putDD k v (.dk kds) = match keyD k with
  | some kk => if kds.length < sizeLine then some (.dk (putD kds kk v)) else none
  | none => none := rfl
@[simp] theorem pCons_ap (fk fv : Co D) (r : Co (List (Key × D))) (m : M) : pCons fk fv r m = (Co.bind fk fun dk => Co.bind (Co.lift (keyD dk)) fun k => Co.bind fv fun v => Co.bind r fun t => Co.ret ((k, v) :: t)) m := rfl
@[simp] theorem eDisp_ap (f : Co (List (Key × D))) (m : M) : eDisp f m = (Co.bind f fun kds => if kds.length ≤ 15 then Co.ret (.dk (mergeD kds)) else fun _ => .no) m := rfl
@[simp] theorem sFor_ap (fi : Co (List D)) (t : Bool) (is : List Nat) (b : Co Flow') (m : M) : sFor fi t is b m = (Co.bind fi fun ds => forL t is b ds) m := rfl
@[simp] theorem sForItems_ap (i : Nat) (t : Bool) (is : List Nat) (b : Co Flow') (m : M) : sForItems i t is b m = match m.env[i]? with
  | some (.pl (.dk kds)) => forL t is b (itemsD kds) m
  | _ => .no := rfl
@[simp] theorem iVal_ap (f : Co D) (m : M) : iVal f m = (Co.bind f fun d => Co.lift (itD d)) m := rfl
@[simp] theorem itD_lst (ds : List D) : itD (.lst ds) = some ds := rfl
@[simp] theorem itD_tup (ds : List D) : itD (.tup ds) = some ds := rfl
@[simp] theorem setTg_name (is : List Nat) (d : D) (e : List Slot) : setTg false is d e = setEnv e is [(false, d)] := rfl
@[simp] theorem setTg_tup (is : List Nat) (ds : List D) (e : List Slot) : setTg true is (.tup ds) e = setEnv e is (ds.map fun d => (false, d)) := rfl
@[simp] theorem forL_nil (t : Bool) (is : List Nat) (b : Co Flow') (m : M) : forL t is b [] m = .ok .nx m := rfl
theorem forL_cons (t : Bool) (is : List Nat) (b : Co Flow') (d : D) (ds : List D) (m : M) : forL t is b (d :: ds) m = match setTg t is d m.env with
    | none => .no
    | some env => match b { m with env := env } with
      | .ok .nx m' => forL t is b ds m'
      | .ok .ct m' => forL t is b ds m'
      | .ok .bk m' => .ok .nx m'
      | .ok (.rt d) m' => .ok (.rt d) m'
      | .ok (.rf d) m' => .ok (.rf d) m'
      | .no => .no := rfl
@[simp] theorem sMove_ap (i j : Nat) (m : M) : sMove i j m = match m.env[j]? with
  | some (.ow d) => if i < m.env.length ∧ i ≠ j then .ok .nx { m with env := (m.env.set j .un).set i (.ow d) } else .no
  | _ => .no := rfl
@[simp] theorem sRetOw_ap (i : Nat) (m : M) : sRetOw i m = match m.env[i]? with
  | some (.ow d) => .ok (.rf d) { m with env := m.env.set i .un }
  | _ => .no := rfl
theorem runF_nx {nl np : Nat} {body : Co Flow'} {ds : List D} {obs obs' : List (List D)} {e : List Slot} (hl : ds.length = np) (h : body ⟨ds.map Slot.pl ++ List.replicate (nl - np) .un, obs⟩ = .ok .nx ⟨e, obs'⟩) : runF nl np body false ds obs = some (.non, obs') := by
  unfold runF
  rw [if_pos hl, h]
end PD
namespace C
open PySem PySem.Spec PyProof.Rows L2 PD
def cf (q : Rat) : D := .tup [.int q.num, .int q.den]
structure Sz (B : Nat) (q : Rat) : Prop where
  n : q.num.natAbs < 2 ^ B
  d : q.den < 2 ^ B
theorem log2_lt' {n B : Nat} (h : n < 2 ^ B) : n.log2 < B + 1 := by
  by_cases h0 : n = 0
  · subst h0; simp
  · have := (Nat.log2_lt h0).mpr h
    omega
theorem mulW {i j : Int} {A B : Nat} (hi : i.natAbs < 2 ^ A) (hj : j.natAbs < 2 ^ B) (h : A + B < 999990 := by decide) : CMulW i j := by
  have h1 := log2_lt' hi
  have h2 := log2_lt' hj
  unfold CMulW
  omega
theorem divW {i : Int} {j : Nat} (h0 : 0 < j) (hj : j < 2 ^ 8990) : CDivW i (j : Int) := by
  refine ⟨by omega, ?_⟩
  have h2 := log2_lt' hj
  simp only [Int.natAbs_natCast]
  omega
theorem size_le {n : Nat} (h : n ≤ 1000) : n ≤ sizeLine := Nat.le_trans h (by rw [sizeLine_eq]; decide)
theorem two_le : 2 ≤ sizeLine := size_le (by decide)
theorem common_loop (obs : List (List D)) : ∀ (b a : Nat), ∃ n, whileN (tB' (eOp gtI (vB (vPl 1)) (vB (Co.ret (.int 0))))) (sAsg [0, 1] (xPl (vPl 1) (xPl (eOp modD (vB (vPl 0)) (vB (vPl 1))) xNil))) n
    ⟨[.pl (.int a), .pl (.int b)], obs⟩ = .ok .nx ⟨[.pl (.int (Nat.gcd a b)), .pl (.int 0)], obs⟩ := by
  intro b
  induction b using Nat.strongRecOn with
  | _ b ih =>
    intro a
    by_cases hb : b = 0
    · subst hb
      refine ⟨1, ?_⟩
      simp [whileN]
    · obtain ⟨n, hn⟩ := ih (a % b) (Nat.mod_lt a (Nat.pos_of_ne_zero hb)) b
      refine ⟨n + 1, ?_⟩
      have h1 : (0 : Int) < (b : Int) := by omega
      have h0 : 0 < b := by omega
      rw [Int.natCast_emod] at hn
      simp only [whileN]
      simp [h1, h0, hn]
      rw [Nat.gcd_comm b, ← Nat.gcd_rec, Nat.gcd_comm]
theorem F_common_nat (a b : Nat) (obs : List (List D)) : F_common [.int a, .int b] obs = some (.int (Nat.gcd a b), obs) := by
  obtain ⟨n, hn⟩ := common_loop obs b a
  have h := sWhile_of hn
  refine runF_rt rfl (e := [.pl (.int (Nat.gcd a b)), .pl (.int 0)]) ?_
  simp [b_common, h]
theorem abs_if (n : Int) : (if n < 0 then -n else n) = (n.natAbs : Int) := by split <;> omega
theorem gcd_lt {n : Int} {d : Nat} (hd : 0 < d) : 0 < Nat.gcd n.natAbs d ∧ Nat.gcd n.natAbs d ≤ d := ⟨Nat.gcd_pos_of_pos_right _ hd, Nat.gcd_le_right _ hd⟩
theorem cf_mk (n : Int) (d : Nat) (hd : 0 < d) : cf (mkRat n d) = .tup [.int (n / (Nat.gcd n.natAbs d : Nat)), .int ((d : Int) / (Nat.gcd n.natAbs d : Nat))] := by
  unfold cf
  rw [Rat.num_mkRat, Rat.den_mkRat, if_neg (by omega), if_neg (by omega), Nat.gcd_comm d, ← Int.natCast_ediv]
theorem F_lowered_mk (n : Int) (d : Nat) (hd : 0 < d) (hz : d < 2 ^ 8990) (obs : List (List D)) : F_lowered [.int n, .int d] obs = some (cf (mkRat n d), obs) := by
  rw [cf_mk n d hd]
  obtain ⟨h1, h2⟩ := gcd_lt (n := n) hd
  have w : ∀ i, CDivW i ((Nat.gcd n.natAbs d : Nat) : Int) := fun i => divW h1 (by omega)
  refine runF_rt rfl (e := [.pl (.int n), .pl (.int d), .pl (.int (Nat.gcd n.natAbs d : Nat))]) ?_
  have hc := F_common_nat n.natAbs d
  simp [b_lowered, abs_if, hc, w, two_le]
theorem F_lowered_q {n m : Int} (hm : 0 < m) (hz : m.natAbs < 2 ^ 8990) (obs : List (List D)) : F_lowered [.int n, .int m] obs = some (cf ((n : Rat) / (m : Rat)), obs) := by
  obtain ⟨d, rfl⟩ := Int.eq_ofNat_of_zero_le (Int.le_of_lt hm)
  rw [F_lowered_mk n d (by omega) (by simpa using hz) obs, Rat.mkRat_eq_div]
  rfl
theorem rat_nd (a : Rat) : a = (a.num : Rat) / ((a.den : Int) : Rat) := by
  have h := Rat.mkRat_self a
  rw [Rat.mkRat_eq_div] at h
  exact h.symm
theorem den_ne (a : Rat) : ((a.den : Int) : Rat) ≠ 0 := by
  have := a.den_nz
  intro h
  have h' : ((a.den : Int) : Rat) = ((0 : Int) : Rat) := h
  rw [Rat.intCast_inj] at h'
  omega
theorem Sz.nd {B : Nat} {q : Rat} (h : Sz B q) : (q.den : Int).natAbs < 2 ^ B := by simpa using h.d
theorem mul_lt_pow {a b A B : Nat} (ha : a < 2 ^ A) (hb : b < 2 ^ B) : a * b < 2 ^ (A + B) := by
  rw [Nat.pow_add]
  exact Nat.mul_lt_mul'' ha hb
theorem mul_lt_pow' {a b : Int} {A B : Nat} (ha : a.natAbs < 2 ^ A) (hb : b.natAbs < 2 ^ B) : (a * b).natAbs < 2 ^ (A + B) := by
  rw [Int.natAbs_mul]
  exact mul_lt_pow ha hb
theorem add_nd (a b : Rat) : ((a.num * b.den + b.num * a.den : Int) : Rat) / ((a.den * b.den : Int) : Rat) = a + b := by
  have e1 := rat_nd a
  have e2 := rat_nd b
  have n1 := den_ne a
  have n2 := den_ne b
  rw [Rat.intCast_add, Rat.intCast_mul, Rat.intCast_mul, Rat.intCast_mul]
  generalize (a.num : Rat) = p at *
  generalize ((a.den : Int) : Rat) = q at *
  generalize (b.num : Rat) = r at *
  generalize ((b.den : Int) : Rat) = s at *
  subst e1 e2
  grind
theorem lcommon_loop (obs : List (List D)) : ∀ (b a : Nat), b < 2 ^ 8990 → a < 2 ^ 100000 → ∃ n, whileN (tB' (eOp neD (vB (vPl 1)) (vB (Co.ret (.int 0))))) (sAsg [0, 1] (xPl (vPl 1) (xPl (eOp subD (vB (vPl 0)) (vB (eOp mulD (vB (vPl 1)) (vB (eOp divD (vB (vPl 0)) (vB (vPl 1))))))) xNil))) n
    ⟨[.pl (.int a), .pl (.int b)], obs⟩ = .ok .nx ⟨[.pl (.int (Nat.gcd a b)), .pl (.int 0)], obs⟩ := by
  intro b
  induction b using Nat.strongRecOn with
  | _ b ih =>
    intro a hbz haz
    by_cases hb : b = 0
    · subst hb
      refine ⟨1, ?_⟩
      simp [whileN]
    · have hlt := Nat.mod_lt a (Nat.pos_of_ne_zero hb)
      obtain ⟨n, hn⟩ := ih (a % b) hlt b (by omega) (Nat.lt_of_lt_of_le hbz (Nat.pow_le_pow_right (by decide) (by decide)))
      refine ⟨n + 1, ?_⟩
      rw [Int.natCast_emod] at hn
      have h1 : CDivW (a : Int) (b : Int) := divW (by omega) hbz
      have h2 : CMulW (b : Int) ((a : Int) / (b : Int)) := mulW (A := 8990) (B := 100000) (by simpa using hbz) (by
        rw [← Int.natCast_ediv, Int.natAbs_natCast]
        exact Nat.lt_of_le_of_lt (Nat.div_le_self _ _) haz)
      have h3 : (a : Int) - (b : Int) * ((a : Int) / (b : Int)) = (a : Int) % (b : Int) := by rw [Int.emod_def]
      simp only [whileN]
      simp [hb, h1, h2, h3, hn]
      rw [Nat.gcd_comm b, ← Nat.gcd_rec, Nat.gcd_comm]
theorem F__law_common_q (a b : Int) (ha : a.natAbs < 2 ^ 100000) (hb : b.natAbs < 2 ^ 8990) (obs : List (List D)) : F__law_common [.int a, .int b] obs = some (.int (Nat.gcd a.natAbs b.natAbs : Nat), obs) := by
  obtain ⟨n, hn⟩ := lcommon_loop obs b.natAbs a.natAbs hb ha
  have h := sWhile_of hn
  refine runF_rt rfl (e := [.pl (.int (Nat.gcd a.natAbs b.natAbs : Nat)), .pl (.int 0)]) ?_
  simp [b__law_common, abs_if, h]
theorem F__law_share_q {n m : Int} (hm : 0 < m) (hn : n.natAbs < 2 ^ 100000) (hz : m.natAbs < 2 ^ 8990) (obs : List (List D)) : F__law_share [.int n, .int m] obs = some (cf ((n : Rat) / (m : Rat)), obs) := by
  obtain ⟨d, rfl⟩ := Int.eq_ofNat_of_zero_le (Int.le_of_lt hm)
  have hd : 0 < d := by omega
  have e : (n : Rat) / (((d : Nat) : Int) : Rat) = mkRat n d := by rw [Rat.mkRat_eq_div]; rfl
  rw [e, cf_mk n d hd]
  have hz' : d < 2 ^ 8990 := by simpa using hz
  obtain ⟨h1, h2⟩ := gcd_lt (n := n) hd
  have w : ∀ i, CDivW i ((Nat.gcd n.natAbs d : Nat) : Int) := fun i => divW h1 (by omega)
  refine runF_rt rfl (e := [.pl (.int n), .pl (.int d), .pl (.int (Nat.gcd n.natAbs d : Nat))]) ?_
  have hc := F__law_common_q n d hn hz obs
  simp only [Int.natAbs_natCast] at hc
  simp [b__law_share, hc, w, two_le]
theorem Sz.of {n : Int} {d : Nat} {B : Nat} (hd : 0 < d) (hn : n.natAbs < 2 ^ B) (hz : d < 2 ^ B) : Sz B ((n : Rat) / (((d : Nat) : Int) : Rat)) := by
  have e : (n : Rat) / (((d : Nat) : Int) : Rat) = mkRat n d := by rw [Rat.mkRat_eq_div]; rfl
  rw [e]
  have g1 : 0 < d.gcd n.natAbs := Nat.gcd_pos_of_pos_left _ hd
  refine ⟨?_, ?_⟩
  · rw [Rat.num_mkRat, if_neg (by omega)]
    refine Nat.lt_of_le_of_lt ?_ hn
    rw [Int.natAbs_ediv_of_dvd (Int.ofNat_dvd_left.mpr (Nat.gcd_dvd_right _ _))]
    exact Nat.div_le_self _ _
  · rw [Rat.den_mkRat, if_neg (by omega)]
    exact Nat.lt_of_le_of_lt (Nat.div_le_self _ _) hz
theorem eqB_cf (a b : Rat) : eqB (cf a) (cf b) = some (decide (a = b)) := by
  unfold cf
  rw [eqB_int2]
  congr 1
  by_cases h : a = b
  · subst h; simp
  · rw [decide_eq_false h]
    by_cases h1 : a.num = b.num
    · have h2 : ¬ (a.den : Int) = (b.den : Int) := fun z => h (Rat.ext h1 (by omega))
      rw [decide_eq_false h2, Bool.and_false]
    · rw [decide_eq_false h1, Bool.false_and]
theorem eqD_cf (a b : Rat) : eqD (cf a) (cf b) = some (.bl (decide (a = b))) := by unfold eqD; rw [eqB_cf]; rfl
theorem rgD_nil {lo hi : Int} (h : hi ≤ lo) : rgD lo hi = [] := by
  unfold rgD
  rw [show (hi - lo).toNat = 0 by omega]
  rfl
theorem rgD_cons {lo hi : Int} (h : lo < hi) : rgD lo hi = .int lo :: rgD (lo + 1) hi := by
  unfold rgD
  rw [show (hi - lo).toNat = (hi - (lo + 1)).toNat + 1 by omega, List.range_succ_eq_map, List.map_cons, List.map_map]
  congr 1
  · simp
  · apply List.map_congr_left
    intro a _
    show D.int _ = D.int _
    congr 1
    simp only [Nat.succ_eq_add_one]
    omega
end C
namespace C
open PySem PySem.Spec PyProof.Rows L2 PD
theorem lcL_fm {i : Nat} {ft : Co Bool} {fe : Co D} {env : List Slot} {obs : List (List D)} (p : D → Bool) (f : D → D) (hl : i < env.length) (hu : env[i]? = some .un) : ∀ (ds : List D),
    (∀ d ∈ ds, ft ⟨env.set i (.pl d), obs⟩ = .ok (p d) ⟨env.set i (.pl d), obs⟩) → (∀ d ∈ ds, p d = true → fe ⟨env.set i (.pl d), obs⟩ = .ok (f d) ⟨env.set i (.pl d), obs⟩) →
    lcL false [i] [i] ft fe ds ⟨env, obs⟩ = .ok ((ds.filter p).map f) ⟨env, obs⟩
  | [], _, _ => rfl
  | d :: ds, ht, he => by
    have ih := lcL_fm p f hl hu ds (fun d h => ht d (List.mem_cons_of_mem _ h)) fun d h => he d (List.mem_cons_of_mem _ h)
    have e1 := ht d List.mem_cons_self
    have hs : setTg false [i] d env = some (env.set i (.pl d)) := by
      show setEnv env [i] [(false, d)] = _
      rw [setEnv_pl, if_pos hl]
      rfl
    have hw : wipeE (env.set i (.pl d)) [i] = env := by
      show (env.set i (.pl d)).set i .un = env
      rw [List.set_set]
      obtain ⟨h1, h2⟩ := List.getElem?_eq_some_iff.mp hu
      conv => lhs; rw [← h2]
      exact List.set_getElem_self h1
    have hno : noOw [i] (env.set i (.pl d)) = true := by
      unfold noOw
      rw [List.all_cons, List.getElem?_set_self hl]
      rfl
    unfold lcL
    simp only [hs]
    rw [e1]
    cases hp : p d with
    | false =>
      simp only [hno, if_true, hw, ih]
      rw [List.filter_cons_of_neg (by rw [hp]; decide)]
    | true =>
      have e2 := he d List.mem_cons_self hp
      simp only [e2, hno, if_true, hw, ih]
      rw [List.filter_cons_of_pos hp, List.map_cons]
theorem set_get {env : List Slot} {i : Nat} (h : i < env.length) : (env.set i .un).set i (env[i]?.getD .un) = env := by
  rw [List.set_set, List.getElem?_eq_getElem h]
  simp
theorem eLc_fm {fi : Co (List D)} {i : Nat} {ft : Co Bool} {fe : Co D} {m : M} {env : List Slot} {obs : List (List D)} {ds : List D} (p : D → Bool) (f : D → D) (hi : fi m = .ok ds ⟨env, obs⟩) (hn : noOw [i] env = true) (hl : i < env.length) (hz : ds.length ≤ sizeLine)
    (ht : ∀ d ∈ ds, ft ⟨env.set i (.pl d), obs⟩ = .ok (p d) ⟨env.set i (.pl d), obs⟩) (he : ∀ d ∈ ds, p d = true → fe ⟨env.set i (.pl d), obs⟩ = .ok (f d) ⟨env.set i (.pl d), obs⟩) :
    eLc fi false [i] [i] ft fe m = .ok (.lst ((ds.filter p).map f)) ⟨env, obs⟩ := by
  have h0 : lcL false [i] [i] ft fe ds ⟨wipeE env [i], obs⟩ = .ok ((ds.filter p).map f) ⟨wipeE env [i], obs⟩ := by
    show lcL false [i] [i] ft fe ds ⟨env.set i .un, obs⟩ = .ok _ ⟨env.set i .un, obs⟩
    refine lcL_fm p f (by simpa using hl) (List.getElem?_set_self hl) ds (fun d h => ?_) fun d h hp => ?_
    · rw [List.set_set]; exact ht d h
    · rw [List.set_set]; exact he d h hp
  unfold eLc Co.bind
  rw [hi]
  simp only [hn, hz, and_self, if_true, h0]
  have hu : PD.unwipe env (wipeE env [i]) [i] = env := set_get hl
  rw [hu]
theorem eLc_map {fi : Co (List D)} {i : Nat} {fe : Co D} {m : M} {env : List Slot} {obs : List (List D)} {ds : List D} (f : D → D) (hi : fi m = .ok ds ⟨env, obs⟩) (hn : noOw [i] env = true) (hl : i < env.length) (hz : ds.length ≤ sizeLine)
    (he : ∀ d ∈ ds, fe ⟨env.set i (.pl d), obs⟩ = .ok (f d) ⟨env.set i (.pl d), obs⟩) : eLc fi false [i] [i] (Co.ret true) fe m = .ok (.lst (ds.map f)) ⟨env, obs⟩ := by
  have := eLc_fm (fi := fi) (ft := Co.ret true) (fe := fe) (fun _ => true) f hi hn hl hz (fun _ _ => rfl) fun d h _ => he d h
  rw [this, List.filter_eq_self.mpr fun _ _ => rfl]
end C
namespace C
open PySem PySem.Spec PyProof.Rows L2 PD
theorem Sz.mono {A B : Nat} {q : Rat} (h : Sz A q) (l : A ≤ B) : Sz B q := ⟨Nat.lt_of_lt_of_le h.n (Nat.pow_le_pow_right (by decide) l), Nat.lt_of_lt_of_le h.d (Nat.pow_le_pow_right (by decide) l)⟩
theorem Sz.add {A B : Nat} {a b : Rat} (ha : Sz A a) (hb : Sz B b) : Sz (A + B + 1) (a + b) := by
  rw [← add_nd]
  have e : ((a.den * b.den : Nat) : Int) = (a.den : Int) * (b.den : Int) := by push_cast; rfl
  rw [← e]
  have h1 := mul_lt_pow' ha.n hb.nd
  have h2 := mul_lt_pow' hb.n ha.nd
  have h3 := Int.natAbs_add_le (a.num * b.den) (b.num * a.den)
  have h4 : 2 ^ (A + B + 1) = 2 ^ (A + B) * 2 := Nat.pow_succ 2 (A + B)
  rw [Nat.add_comm B A] at h2
  refine Sz.of (Nat.mul_pos a.den_pos b.den_pos) (by omega) (Nat.lt_of_lt_of_le (mul_lt_pow ha.d hb.d) (Nat.pow_le_pow_right (by decide) (by omega)))
theorem Sz.foldl {B : Nat} : ∀ {l : List Rat} {A : Nat} {acc : Rat}, Sz A acc → (∀ q ∈ l, Sz B q) → Sz (A + l.length * (B + 1)) (l.foldl (· + ·) acc)
  | [], A, acc, h, _ => by simpa using h
  | q :: l, A, acc, h, hl => by
    have := Sz.foldl (l := l) (h.add (hl q List.mem_cons_self)) fun r hr => hl r (List.mem_cons_of_mem _ hr)
    rw [List.foldl_cons, List.length_cons]
    refine this.mono ?_
    rw [Nat.succ_mul]
    omega
theorem Sz.zero {B : Nat} (h : 0 < B) : Sz B 0 := ⟨by show 0 < 2 ^ B; exact Nat.two_pow_pos _, by show 1 < 2 ^ B; exact Nat.one_lt_two_pow (by omega)⟩
end C
namespace C
open PySem PySem.Spec PyProof.Rows L2 PD
@[simp] theorem isi_int_int (i : Int) : isiD [.int i, .ty "int"] = some (.bl true) := rfl
@[simp] theorem isi_int_bool (i : Int) : isiD [.int i, .ty "bool"] = some (.bl false) := rfl
@[simp] theorem isi_int_str (i : Int) : isiD [.int i, .ty "str"] = some (.bl false) := rfl
@[simp] theorem isi_tup_tuple (i : List D) : isiD [.tup i, .ty "tuple"] = some (.bl true) := rfl
@[simp] theorem isi_lst_list (i : List D) : isiD [.lst i, .ty "list"] = some (.bl true) := rfl
@[simp] theorem isi_str_str (i : Str) : isiD [.str i, .ty "str"] = some (.bl true) := rfl
@[simp] theorem eNot_ap (f : Co D) (m : M) : eNot f m = (Co.bind (tB' f) fun c => Co.ret (.bl !c)) m := rfl
@[simp] theorem eAnd_ap (f g : Co D) (m : M) : eAnd f g m = (Co.bind (tB' f) fun c => if c = true then g else Co.ret (.bl false)) m := rfl
@[simp] theorem eOr_ap (f g : Co D) (m : M) : eOr f g m = (Co.bind (tB' f) fun c => if c = true then Co.ret (.bl true) else g) m := rfl
@[simp] theorem eIf_ap (t : Co Bool) (f g : Co D) (m : M) : eIf t f g m = (Co.bind t fun c => if c = true then f else g) m := rfl
@[simp] theorem eChain_ap (p q : D → D → Option D) (a b c : Co Opd) (m : M) : eChain p q a b c m = (Co.bind a fun o1 => Co.bind b fun o2 => Co.bind (tB' (Opd2 p o1 o2)) fun k => if k = true then Co.bind c fun o3 => Opd2 q o2 o3 else Co.ret (.bl false)) m := rfl
theorem F_is_int_q (i : Int) (obs : List (List D)) : F_is_int [.int i] obs = some (.bl true, obs) := by
  refine runF_rt rfl (e := [.pl (.int i)]) ?_
  simp [b_is_int]
theorem F_is_in_q (i a b : Int) (obs : List (List D)) : F_is_in [.int i, .int a, .int b] obs = some (.bl (decide (a ≤ i ∧ i ≤ b)), obs) := by
  refine runF_rt rfl (e := [.pl (.int i), .pl (.int a), .pl (.int b)]) ?_
  by_cases h1 : a ≤ i <;> by_cases h2 : i ≤ b <;> simp [b_is_in, F_is_int_q, h1, h2]
theorem F_need_number_q {i a b : Int} (h : a ≤ i ∧ i ≤ b) (obs : List (List D)) : F_need_number [.int i, .int a, .int b] obs = some (.non, obs) := by
  refine runF_nx rfl (e := [.pl (.int i), .pl (.int a), .pl (.int b)]) ?_
  simp [b_need_number, F_is_in_q, h]
theorem F_need_board_q {r c : Int} (h1 : 1 ≤ r ∧ r ≤ 12) (h2 : 1 ≤ c ∧ c ≤ 12) (obs : List (List D)) : F_need_board [.int r, .int c] obs = some (.non, obs) := by
  refine runF_nx rfl (e := [.pl (.int r), .pl (.int c)]) ?_
  simp [b_need_board, F_need_number_q h1, F_need_number_q h2]
theorem all_bls (bs : List Bool) : allD [.lst (bs.map D.bl)] = some (.bl (bs.all id)) := by
  show (toBls _).map _ = _
  rw [toBls_map]
  rfl
theorem any_bls (bs : List Bool) : anyD [.lst (bs.map D.bl)] = some (.bl (bs.any id)) := by
  show (toBls _).map _ = _
  rw [toBls_map]
  rfl
@[simp] theorem lenU_tup (xs : List D) : lenU [.tup xs] = some (.int xs.length) := rfl
@[simp] theorem lenU_lst (xs : List D) : lenU [.lst xs] = some (.int xs.length) := rfl
@[simp] theorem lenU_dk (xs : List (Key × D)) : lenU [.dk xs] = some (.int xs.length) := rfl
theorem lenU_str {z : Str} (h : z.length ≤ sizeLine) : lenU [.str z] = some (.int z.length) := by
  have e : lenD [.str z] = some (.int z.length) := by
    show (if z.length ≤ sizeLine then _ else _) = _
    rw [if_pos h]
  show (match lenD [.str z] with | some d => some d | none => lenKD [.str z]) = _
  rw [e]
end C
namespace C
open PySem PySem.Spec PyProof.Rows L2 PD
@[simp] theorem sub_lst0 (a : D) (r : List D) : subD' (.lst (a :: r)) (.int 0) = some a := PD.atI_nat (a :: r) 0
@[simp] theorem sub_lst1 (a b : D) (r : List D) : subD' (.lst (a :: b :: r)) (.int 1) = some b := PD.atI_nat (a :: b :: r) 1
@[simp] theorem sub_lst2 (a b c : D) (r : List D) : subD' (.lst (a :: b :: c :: r)) (.int 2) = some c := PD.atI_nat (a :: b :: c :: r) 2
@[simp] theorem sub_lst3 (a b c d : D) (r : List D) : subD' (.lst (a :: b :: c :: d :: r)) (.int 3) = some d := PD.atI_nat (a :: b :: c :: d :: r) 3
theorem sub_scr (ns : List Int) (n : Nat) : subD' (.scr ns) (.int n) = (ns[n]?).map .int := by
  show (atI ns n).map _ = _
  rw [PD.atI_nat]
@[simp] theorem lenU_scr (ns : List Int) : lenU [.scr ns] = some (.int ns.length) := rfl
@[simp] theorem intD_int (i : Int) : intD [.int i] = some (.int i) := rfl
@[simp] theorem sLSet_ap (g : Co Opd) (fi fe : Co D) (m : M) : sLSet g fi fe m = (Co.bind fe fun d => Co.bind g fun o => Co.bind fi fun k => match k with
  | .int i => Co.bind (updO o fun ds => (ixN ds.length i).map fun j => ds.set j d) fun _ => Co.ret .nx
  | _ => fun _ => .no) m := rfl
@[simp] theorem updO_obj (n : Nat) (h : List D → Option (List D)) (m : M) : updO (.val (.obj n)) h m = match m.obs[n]? with
  | some ds => match h ds with
    | some ds' => .ok () { m with obs := m.obs.set n ds' }
    | none => .no
  | none => .no := rfl
@[simp] theorem ix40 : ixN 4 0 = some 0 := rfl
@[simp] theorem ix41 : ixN 4 1 = some 1 := rfl
@[simp] theorem ix42 : ixN 4 2 = some 2 := rfl
@[simp] theorem ix43 : ixN 4 3 = some 3 := rfl
theorem pow1018 : powD (.int 10) (.int 18) = some (.int 1000000000000000000) := by
  have h : CPow 10 18 := by unfold CPow; decide
  show (if CPow 10 18 then some (D.int (10 ^ (18 : Int).toNat)) else none) = _
  rw [if_pos h]
  rfl
def rowD (ns : List Int) (a b c : Int) : List D := [.scr ns, .int a, .int b, .int c]
structure RowOk (a b : Int) : Prop where
  a : 0 ≤ a
  b : 0 ≤ b ∧ b < 2147483647
theorem divW' {i j : Int} (h0 : 0 < j) (hj : j ≤ 100000) : CDivW i j := by
  obtain ⟨n, rfl⟩ := Int.eq_ofNat_of_zero_le (Int.le_of_lt h0)
  have e : (2 : Nat) ^ 20 = 1048576 := by decide
  have h1 : n < 2 ^ 20 := by omega
  exact divW (by omega) (Nat.lt_of_lt_of_le h1 (Nat.pow_le_pow_right (by decide) (by decide)))
theorem F__law_taken_q (ns : List Int) {a b c many : Int} (r : RowOk a b) (h0 : 0 < many) (hm : many ≤ 100000) : ∃ v a' b' c', F__law_taken [.obj 0, .int many] [rowD ns a b c] = some (.int v, [rowD ns a' b' c']) ∧ RowOk a' b' ∧ 0 ≤ v ∧ v < many := by
  have dw : ∀ i, CDivW i many := fun i => divW' h0 hm
  have md : ∀ i : Int, 0 ≤ i % many ∧ i % many < many := fun i => ⟨Int.emod_nonneg _ (by omega), Int.emod_lt_of_pos _ h0⟩
  have mb : ∀ i : Int, 0 ≤ i % 2147483647 ∧ i % 2147483647 < 2147483647 := fun i => ⟨Int.emod_nonneg _ (by decide), Int.emod_lt_of_pos _ (by decide)⟩
  have mw : CMulW b 48271 := by
    have e : (2 : Nat) ^ 31 = 2147483648 := by decide
    have h1 := r.b
    exact mulW (A := 31) (B := 16) (by omega) (by decide)
  by_cases hc : 0 < c
  · refine ⟨c % many, a, b, c / many, ?_, r, (md c).1, (md c).2⟩
    refine runF_rt rfl (e := [.pl (.obj 0), .pl (.int many), .pl (.int (c % many)), .un]) ?_
    simp [b__law_taken, rowD, hc, h0, dw]
  · have ha : 0 < a + 1 := by have := r.a; omega
    by_cases hl : (ns.length : Int) < a + 1
    · refine ⟨((b * 48271 + 11) % 2147483647) / 7 % many, a + 1, (b * 48271 + 11) % 2147483647, c, ?_, ⟨by omega, mb _⟩, (md _).1, (md _).2⟩
      have d7 : ∀ i, CDivW i 7 := fun i => divW' (by decide) (by decide)
      refine runF_rt rfl (e := [.pl (.obj 0), .pl (.int many), .un, .un]) ?_
      simp [b__law_taken, rowD, hc, hl, h0, mw, d7]
    · have h1 : a.toNat < ns.length := by have := r.a; omega
      have e1 : a + 1 - 1 = ((a.toNat : Nat) : Int) := by have := r.a; omega
      have hs := sub_scr ns a.toNat
      rw [List.getElem?_eq_getElem h1, Option.map_some] at hs
      generalize hx : ns[a.toNat] = x at hs
      rw [← e1] at hs
      by_cases hg : 1000000000000000000 ≤ x
      · refine ⟨x % many, a + 1, (b * 48271 + x + 11) % 2147483647, x / many, ?_, ⟨by omega, mb _⟩, (md _).1, (md _).2⟩
        refine runF_rt rfl (e := [.pl (.obj 0), .pl (.int many), .un, .pl (.int x)]) ?_
        simp only [Int.add_sub_cancel] at hs
        simp [b__law_taken, rowD, hc, hl, h0, mw, dw, hs, hg, pow1018]
      · refine ⟨x % many, a + 1, (b * 48271 + x + 11) % 2147483647, c, ?_, ⟨by omega, mb _⟩, (md _).1, (md _).2⟩
        refine runF_rt rfl (e := [.pl (.obj 0), .pl (.int many), .un, .pl (.int x)]) ?_
        simp only [Int.add_sub_cancel] at hs
        simp [b__law_taken, rowD, hc, hl, h0, mw, dw, hs, hg, pow1018]
end C
namespace C
open PySem PySem.Spec PyProof.Rows L2 PD
@[simp] theorem isLst_ap (g : Co Opd) (m : M) : isLst g m = (Co.bind g fun o m => match o.get m with
  | some (.lst _) => .ok o m
  | _ => .no) m := rfl
@[simp] theorem eAppend_ap (g : Co Opd) (f : Co D) (m : M) : eAppend g f m = (Co.bind (isLst g) fun o => Co.bind f fun d => Co.bind (updO o fun ds => if ds.length < sizeLine then some (ds ++ [d]) else none) fun _ => Co.ret .non) m := rfl
@[simp] theorem ePopAt_ap (g : Co Opd) (f : Co D) (m : M) : ePopAt g f m = (Co.bind (isLst g) fun o => Co.bind f fun k m => match k with
  | .int i => if CIx i then match o.get m with
    | some (.lst ds) => match seqIndex? i ds.length with
      | some j => match ds[j]? with
        | some d => match updO o (fun ds => some (ds.eraseIdx j)) m with
          | .ok _ m' => .ok d m'
          | .no => .no
        | none => .no
      | none => .no
    | _ => .no
    else .no
  | _ => .no) m := rfl
@[simp] theorem updO_slot (i : Nat) (h : List D → Option (List D)) (m : M) : updO (.slot i) h m = match m.env[i]? with
  | some (.ow (.lst ds)) => match h ds with
    | some ds' => .ok () { m with env := m.env.set i (.ow (.lst ds')) }
    | none => .no
  | _ => .no := rfl
@[simp] theorem asL_ap (f : Co D) (m : M) : asL f m = (Co.bind f fun d m => match d with
  | .lst ds => .ok (.lst ds) m
  | _ => .no) m := rfl
@[simp] theorem listU_lst (xs : List D) : listU [.lst xs] = some (.lst xs) := rfl
@[simp] theorem listU_tup (xs : List D) : listU [.tup xs] = some (.lst xs) := rfl
theorem rg1_int {j : Int} (h : -1000000 ≤ j ∧ j ≤ 1000000) : rg1 [.int j] = some (rgD 0 j) := by
  show (if CRg j then _ else _) = _
  rw [if_pos (by unfold CRg; omega)]
theorem iRg1_ok {fs : Co (List D)} {m m1 : M} {j : Int} (h : fs m = .ok [.int j] m1) (hj : -1000000 ≤ j ∧ j ≤ 1000000) : iRg1' fs m = .ok (rgD 0 j) m1 := by
  show Co.bind fs (fun ds => Co.lift (rg1 ds)) m = _
  rw [bind_ap, h]
  show Co.lift (rg1 [.int j]) m1 = _
  rw [rg1_int hj]
  exact Eq.refl _
theorem erase_perm {α : Type} : ∀ (xs : List α) (j : Nat) (d : α), xs[j]? = some d → (d :: xs.eraseIdx j).Perm xs
  | x :: xs, 0, d, h => by
    have e : x = d := by simpa using h
    subst e
    exact List.Perm.refl _
  | x :: xs, j + 1, d, h => by
    have h' : xs[j]? = some d := by simpa using h
    rw [List.eraseIdx_cons_succ]
    exact (List.Perm.swap x d _).trans ((erase_perm xs j d h').cons x)
theorem mixed_loop (ns : List Int) (s : PD.Slot) : ∀ (n : Nat) (lo : Int) (left found : List D) (a b c : Int) (x4 : PD.Slot), left.length = n → n ≤ 1000 → found.length + n ≤ 1000 → RowOk a b → ∃ ys y4 a' b' c', (found ++ left).Perm ys ∧ RowOk a' b' ∧
    forL false [4] (sExpr (eAppend (vAny 3) (ePopAt (vAny 2) (eFn F__law_taken (eCons (vPl 0) (eCons (eCall lenU (bCons (vAny 2) (Co.ret []))) (Co.ret []))))))) (rgD lo (lo + n))
      ⟨[.pl (.obj 0), s, .ow (.lst left), .ow (.lst found), x4], [rowD ns a b c]⟩ = .ok .nx ⟨[.pl (.obj 0), s, .ow (.lst []), .ow (.lst ys), y4], [rowD ns a' b' c']⟩
  | 0, lo, left, found, a, b, c, x4, hl, _, _, r => by
    have e : left = [] := List.eq_nil_of_length_eq_zero hl
    subst e
    refine ⟨found, x4, a, b, c, by rw [List.append_nil], r, ?_⟩
    rw [rgD_nil (by omega)]
    rfl
  | n + 1, lo, left, found, a, b, c, x4, hl, hn, hf, r => by
    obtain ⟨v, a', b', c', ht, r', h0, h1⟩ := F__law_taken_q ns (c := c) (many := (n + 1 : Nat)) r (by omega) (by omega)
    obtain ⟨j, rfl⟩ := Int.eq_ofNat_of_zero_le h0
    have hj : j < left.length := by omega
    have hp := erase_perm left j left[j] (List.getElem?_eq_getElem hj)
    have hle : (left.eraseIdx j).length = n := by rw [List.length_eraseIdx, if_pos hj]; omega
    obtain ⟨ys, y4, a2, b2, c2, p, r2, ih⟩ := mixed_loop ns s n (lo + 1) (left.eraseIdx j) (found ++ [left[j]]) a' b' c' (.pl (.int lo)) hle (by omega) (by rw [List.length_append, List.length_singleton]; omega) r'
    refine ⟨ys, y4, a2, b2, c2, ?_, r2, ?_⟩
    · refine List.Perm.trans ?_ p
      rw [List.append_assoc]
      exact (hp.symm).append_left found
    · rw [rgD_cons (by omega), forL_cons]
      have e : lo + 1 + ((n : Nat) : Int) = lo + ((n + 1 : Nat) : Int) := by omega
      rw [e] at ih
      have hz : found.length < sizeLine := by rw [sizeLine_eq]; omega
      have hci : CIx (j : Int) := by unfold CIx; omega
      have hsi : seqIndex? (j : Int) left.length = some j := by
        unfold seqIndex?
        simp
        omega
      rw [← hl] at ht
      generalize lo + ((n + 1 : Nat) : Int) = hi at *
      clear hn hf h1 p hp hle hl e
      simp [ht, hci, hsi, hj, hz, ih]
theorem seq_nx {f g : Co Flow'} {m m1 : M} {r : Res Flow'} (h1 : f m = .ok .nx m1) (h2 : g m1 = r) : sSeq f g m = r := by
  rw [sSeq_ap, bind_ap, h1]
  exact h2
theorem for_of {fi : Co (List D)} {t : Bool} {is : List Nat} {b : Co Flow'} {m m1 : M} {ds : List D} {r : Res Flow'} (h1 : fi m = .ok ds m1) (h2 : forL t is b ds m1 = r) : sFor fi t is b m = r := by
  rw [sFor_ap, bind_ap, h1]
  exact h2
theorem F__law_mixed_q (ns : List Int) {a b c : Int} (r : RowOk a b) (xs : List D) (hx : xs.length ≤ 1000) : ∃ ys a' b' c', F__law_mixed [.obj 0, .lst xs] [rowD ns a b c] = some (.lst ys, [rowD ns a' b' c']) ∧ RowOk a' b' ∧ xs.Perm ys := by
  obtain ⟨ys, y4, a', b', c', p, r', h⟩ := mixed_loop ns (.pl (.lst xs)) xs.length 0 xs [] a b c .un rfl hx (by simpa using hx) r
  refine ⟨ys, a', b', c', ?_, r', by simpa using p⟩
  refine runF_rt rfl (e := [.pl (.obj 0), .pl (.lst xs), .ow (.lst []), .pl (.lst ys), y4]) ?_
  rw [Int.zero_add] at h
  refine seq_nx (m1 := ⟨[.pl (.obj 0), .pl (.lst xs), .ow (.lst xs), .ow (.lst []), .un], [rowD ns a b c]⟩) (by simp) (seq_nx (for_of (iRg1_ok (j := xs.length) (by simp) (by omega)) h) ?_)
  simp
end C
namespace C
open PySem PySem.Spec PyProof.Rows L2 PD
def chN (b : Bool) : Nat := if b then 35 else 46
def rowS (r : List Bool) : Str := ⟨(r.map chN).toArray⟩
def picD (p : List (List Bool)) : D := .tup (p.map fun r => .str (rowS r))
structure Pic (R C : Nat) (p : List (List Bool)) : Prop where
  r : p.length = R
  c : ∀ r ∈ p, r.length = C
theorem str_hash : (Str.ofString "#" : Str) = rowS [true] := by decide +kernel
theorem str_dot : (Str.ofString "." : Str) = rowS [false] := by decide +kernel
theorem rowS_len (r : List Bool) : (rowS r).length = r.length := by
  show (r.map chN).toArray.size = _
  simp
theorem rowS_app (a b : List Bool) : rowS a ++ rowS b = rowS (a ++ b) := by
  show (⟨(a.map chN).toArray ++ (b.map chN).toArray⟩ : Str) = ⟨((a ++ b).map chN).toArray⟩
  congr 1
  simp
theorem rowS_rep (n : Nat) (b : Bool) : repS (rowS [b]) n = rowS (List.replicate n b) := by
  show (⟨(List.replicate (n : Int).toNat [chN b]).flatten.toArray⟩ : Str) = ⟨((List.replicate n b).map chN).toArray⟩
  congr 1
  rw [Int.toNat_natCast, List.map_replicate]
  congr 1
  induction n with
  | zero => rfl
  | succ n ih => rw [List.replicate_succ, List.flatten_cons, ih, List.replicate_succ]; rfl
theorem sl_tup_hi (xs : List D) (k : Nat) : slD (.tup xs) none (some (k : Int)) = some (.tup (xs.take k)) := by
  show some (D.tup ((xs.drop (HT.sIx xs.length 0 none)).take (HT.sIx xs.length xs.length (some (k : Int)) - HT.sIx xs.length 0 none))) = _
  rw [HT.sIx_nat, HT.sIx_none, List.drop_zero, Nat.sub_zero]
  congr 2
  by_cases h : k ≤ xs.length
  · rw [Nat.min_eq_left h]
  · rw [Nat.min_eq_right (by omega), List.take_of_length_le (Nat.le_refl _), List.take_of_length_le (by omega)]
theorem sl_tup_lo (xs : List D) (k : Nat) : slD (.tup xs) (some (k : Int)) none = some (.tup (xs.drop k)) := by
  show some (D.tup ((xs.drop (HT.sIx xs.length 0 (some (k : Int)))).take (HT.sIx xs.length xs.length none - HT.sIx xs.length 0 (some (k : Int))))) = _
  rw [HT.sIx_nat, HT.sIx_none]
  congr 2
  by_cases h : k ≤ xs.length
  · rw [Nat.min_eq_left h, List.take_of_length_le (by rw [List.length_drop]; exact Nat.le_refl _)]
  · rw [Nat.min_eq_right (by omega), List.drop_of_length_le (Nat.le_refl _), List.drop_of_length_le (by omega), List.take_nil]
theorem cut_hi (r : List Bool) (k : Nat) : cutS (rowS r) none (some (k : Int)) = rowS (r.take k) := by
  show (⟨(((r.map chN).toArray.toList.drop (HT.sIx (rowS r).length 0 none)).take (HT.sIx (rowS r).length (rowS r).length (some (k : Int)) - HT.sIx (rowS r).length 0 none)).toArray⟩ : Str) = ⟨((r.take k).map chN).toArray⟩
  rw [rowS_len, HT.sIx_nat, HT.sIx_none, List.drop_zero, Nat.sub_zero]
  congr 2
  rw [List.map_take]
  by_cases h : k ≤ r.length
  · rw [Nat.min_eq_left h]
  · rw [Nat.min_eq_right (by omega), List.take_of_length_le (by simp), List.take_of_length_le (by simp; omega)]
theorem cut_lo (r : List Bool) (k : Nat) : cutS (rowS r) (some (k : Int)) none = rowS (r.drop k) := by
  show (⟨(((r.map chN).toArray.toList.drop (HT.sIx (rowS r).length 0 (some (k : Int)))).take (HT.sIx (rowS r).length (rowS r).length none - HT.sIx (rowS r).length 0 (some (k : Int)))).toArray⟩ : Str) = ⟨((r.drop k).map chN).toArray⟩
  rw [rowS_len, HT.sIx_nat, HT.sIx_none]
  congr 2
  rw [List.map_drop]
  by_cases h : k ≤ r.length
  · rw [Nat.min_eq_left h, List.take_of_length_le (by simp)]
  · rw [Nat.min_eq_right (by omega), List.drop_of_length_le (by simp), List.drop_of_length_le (by simp; omega), List.take_nil]
theorem set_cut {α : Type} (l : List α) (k : Nat) (x : α) (h : k < l.length) : l.take k ++ [x] ++ l.drop (k + 1) = l.set k x := by
  rw [List.set_eq_take_append_cons_drop, if_pos h, List.append_assoc]
  rfl
def strokeP (p : List (List Bool)) (C l : Nat) : List (List Bool) := if l < p.length then p.set l (List.replicate C true) else p.map fun r => r.set (l - p.length) false
theorem strokeP_pic {R C : Nat} {p : List (List Bool)} (h : Pic R C p) (l : Nat) : Pic R C (strokeP p C l) := by
  unfold strokeP
  split
  · refine ⟨by rw [List.length_set]; exact h.r, fun r hr => ?_⟩
    rcases List.mem_or_eq_of_mem_set hr with hr | rfl
    · exact h.c r hr
    · rw [List.length_replicate]
  · refine ⟨by rw [List.length_map]; exact h.r, fun r hr => ?_⟩
    obtain ⟨q, hq, rfl⟩ := List.mem_map.mp hr
    rw [List.length_set]
    exact h.c q hq
end C
namespace C
open PySem PySem.Spec PyProof.Rows L2 PD
@[simp] theorem eSl_ap (g : Co Opd) (lo hi : Co (Option Int)) (m : M) : eSl g lo hi m = (Co.bind g fun o => Co.bind lo fun l => Co.bind hi fun h => Opd1 (fun d => slD d l h) o) m := rfl
@[simp] theorem ePart_ap (f : Co D) (m : M) : ePart f m = (Co.bind f fun d m => match d with
  | .int i => .ok (some i) m
  | _ => .no) m := rfl
@[simp] theorem tupleD_lst (xs : List D) : tupleD [.lst xs] = some (.tup xs) := rfl
@[simp] theorem tupleD_tup (xs : List D) : tupleD [.tup xs] = some (.tup xs) := rfl
theorem addD_tup {x y : List D} (h : x.length + y.length ≤ 1000) : addD (.tup x) (.tup y) = some (.tup (x ++ y)) := by
  show (if _ then _ else _) = _
  rw [if_pos (size_le h)]
theorem addD_str {x y : List Bool} (h : x.length + y.length ≤ 1000) : addD (.str (rowS x)) (.str (rowS y)) = some (.str (rowS (x ++ y))) := by
  show (if (rowS x).length + (rowS y).length ≤ sizeLine then _ else _) = _
  rw [rowS_len, rowS_len, if_pos (size_le h), rowS_app]
theorem sl_str_hi {r : List Bool} (h : r.length ≤ 1000) (k : Nat) : slD (.str (rowS r)) none (some (k : Int)) = some (.str (rowS (r.take k))) := by
  show (if (rowS r).length ≤ sizeLine then _ else _) = _
  rw [rowS_len, if_pos (size_le h), cut_hi]
theorem sl_str_lo {r : List Bool} (h : r.length ≤ 1000) (k : Nat) : slD (.str (rowS r)) (some (k : Int)) none = some (.str (rowS (r.drop k))) := by
  show (if (rowS r).length ≤ sizeLine then _ else _) = _
  rw [rowS_len, if_pos (size_le h), cut_lo]
theorem mul_hash {n : Nat} (h : n ≤ 1000) (b : Bool) : mulD (.str (rowS [b])) (.int n) = some (.str (rowS (List.replicate n b))) := by
  have hc : CRep (rowS [b]) (n : Int) := by
    unfold CRep
    rw [rowS_len]
    exact ⟨by omega, by omega, by simp⟩
  show (if CRep (rowS [b]) (n : Int) then some (D.str (repS (rowS [b]) n)) else none) = _
  rw [if_pos hc, rowS_rep]
theorem lenU_row {r : List Bool} (h : r.length ≤ 1000) : lenU [.str (rowS r)] = some (.int r.length) := by
  rw [lenU_str (by rw [rowS_len]; exact size_le h), rowS_len]
theorem seq_rt {f g : Co Flow'} {m m1 : M} {d : D} (h1 : f m = .ok (.rt d) m1) : sSeq f g m = .ok (.rt d) m1 := by
  rw [sSeq_ap, bind_ap, h1]
  rfl
theorem if_t {t : Co Bool} {f g : Co Flow'} {m m1 : M} {r : Res Flow'} (h1 : t m = .ok true m1) (h2 : f m1 = r) : sIf t f g m = r := by
  rw [sIf_ap, bind_ap, h1]
  exact h2
theorem if_f {t : Co Bool} {f g : Co Flow'} {m m1 : M} {r : Res Flow'} (h1 : t m = .ok false m1) (h2 : g m1 = r) : sIf t f g m = r := by
  rw [sIf_ap, bind_ap, h1]
  exact h2
theorem ret_of {f : Co D} {m m1 : M} {d : D} (h1 : f m = .ok d m1) : sRet f m = .ok (.rt d) m1 := by
  rw [sRet_ap, bind_ap, h1]
  rfl
theorem F__law_stroke_q {R C : Nat} {p : List (List Bool)} (h : Pic R C p) (hR : 1 ≤ R ∧ R ≤ 12) (hC : 1 ≤ C ∧ C ≤ 12) {l : Nat} (hl : l < R + C) (obs : List (List D)) : F__law_stroke [picD p, .int l] obs = some (picD (strokeP p C l), obs) := by
  have hlen := h.r
  have hlu : lenU [picD p] = some (.int R) := by
    show some (D.int ((p.map fun r => D.str (rowS r)).length : Nat)) = _
    rw [List.length_map, hlen]
  by_cases hb : l < R
  · have e1 : strokeP p C l = p.set l (List.replicate C true) := by unfold strokeP; rw [if_pos (by omega)]
    rw [e1, ← set_cut _ _ _ (by omega)]
    refine runF_rt rfl (e := [.pl (picD p), .pl (.int l), .un, .un]) (seq_rt (if_t (m1 := ⟨[.pl (picD p), .pl (.int l), .un, .un], obs⟩) ?_ (ret_of ?_)))
    · simp only [picD] at hlu
      simp [picD, hlu, hb]
    · obtain ⟨r0, q, rfl⟩ : ∃ r0 q, p = r0 :: q := by
        cases p with
        | nil => simp at hlen; omega
        | cons r0 q => exact ⟨r0, q, rfl⟩
      have hr0 := h.c r0 List.mem_cons_self
      have h1 := lenU_row (r := r0) (by omega)
      rw [hr0] at h1
      have h2 := mul_hash (n := C) (by omega) true
      rw [← str_hash] at h2
      have h3 := sl_tup_hi ((r0 :: q).map fun r => D.str (rowS r)) l
      have h4 := sl_tup_lo ((r0 :: q).map fun r => D.str (rowS r)) (l + 1)
      have e5 : (((l + 1 : Nat)) : Int) = (l : Int) + 1 := by omega
      rw [e5] at h4
      have h6 : addD (.tup (((r0 :: q).map fun r => D.str (rowS r)).take l)) (.tup [.str (rowS (List.replicate C true))]) = some (.tup ((((r0 :: q).map fun r => D.str (rowS r)).take l) ++ [.str (rowS (List.replicate C true))])) :=
        addD_tup (by rw [List.length_take]; simp; omega)
      have h7 : addD (.tup ((((r0 :: q).map fun r => D.str (rowS r)).take l) ++ [.str (rowS (List.replicate C true))])) (.tup (((r0 :: q).map fun r => D.str (rowS r)).drop (l + 1))) =
          some (.tup ((((r0 :: q).map fun r => D.str (rowS r)).take l) ++ [.str (rowS (List.replicate C true))] ++ (((r0 :: q).map fun r => D.str (rowS r)).drop (l + 1)))) :=
        addD_tup (by rw [List.length_append, List.length_take, List.length_drop]; simp at hlen ⊢; omega)
      have e8 : picD (List.take l (r0 :: q) ++ [List.replicate C true] ++ List.drop (l + 1) (r0 :: q)) = .tup ((((r0 :: q).map fun r => D.str (rowS r)).take l) ++ [.str (rowS (List.replicate C true))] ++ (((r0 :: q).map fun r => D.str (rowS r)).drop (l + 1))) := by
        unfold picD
        rw [List.map_append, List.map_append, List.map_take, List.map_drop]
        rfl
      rw [e8]
      have e9 : picD (r0 :: q) = .tup ((r0 :: q).map fun r => D.str (rowS r)) := rfl
      have e10 : subD' (.tup ((r0 :: q).map fun r => D.str (rowS r))) (.int 0) = some (.str (rowS r0)) := subD'_tup0 _ _
      rw [e9]
      generalize (r0 :: q).map (fun r => D.str (rowS r)) = xs at *
      simp only [List.append_assoc] at h7 ⊢
      simp [h1, h2, h3, h4, h6, h7, e10, size_le]
  · have e1 : strokeP p C l = p.map fun r => r.set (l - R) false := by unfold strokeP; rw [if_neg (by omega), hlen]
    rw [e1]
    refine runF_rt rfl (e := [.pl (picD p), .pl (.int l), .pl (.int (l - R : Nat)), .un]) (seq_nx (m1 := ⟨[.pl (picD p), .pl (.int l), .un, .un], obs⟩) (if_f (m1 := ⟨[.pl (picD p), .pl (.int l), .un, .un], obs⟩) ?_ rfl) (seq_nx (m1 := ⟨[.pl (picD p), .pl (.int l), .pl (.int (l - R : Nat)), .un], obs⟩) ?_ (ret_of ?_)))
    · simp only [picD] at hlu
      simp [picD, hlu, hb]
    · have e2 : ((l - R : Nat) : Int) = (l : Int) - R := by omega
      rw [e2]
      simp only [picD] at hlu
      simp [picD, hlu]
    · have hm := eLc_map (i := 3) (fi := iVal (vPl 0)) (fe := eOp addD (vB (eOp addD (vB (eSl (vB (vPl 3)) (Co.ret none) (ePart (vPl 2)))) (vB (Co.ret (.str "."))))) (vB (eSl (vB (vPl 3)) (ePart (eOp addD (vB (vPl 2)) (vB (Co.ret (.int 1))))) (Co.ret none))))
        (m := ⟨[.pl (picD p), .pl (.int l), .pl (.int (l - R : Nat)), .un], obs⟩) (env := [.pl (picD p), .pl (.int l), .pl (.int (l - R : Nat)), .un]) (obs := obs) (ds := p.map fun r => D.str (rowS r))
        (fun d => match d with
          | .str z => .str ⟨(z.cps.toList.set (l - R) 46).toArray⟩
          | _ => .non) (by simp [picD]) rfl (by simp) (by rw [List.length_map]; exact size_le (by omega)) (fun d hd => by
          obtain ⟨r, hr, rfl⟩ := List.mem_map.mp hd
          have hrc := h.c r hr
          have a1 := sl_str_hi (r := r) (by omega) (l - R)
          have a2 := sl_str_lo (r := r) (by omega) (l - R + 1)
          have e5 : (((l - R + 1 : Nat)) : Int) = ((l - R : Nat) : Int) + 1 := by omega
          rw [e5] at a2
          have a3 : addD (.str (rowS (r.take (l - R)))) (.str (rowS [false])) = some (.str (rowS (r.take (l - R) ++ [false]))) := addD_str (by rw [List.length_take]; simp; omega)
          have a4 : addD (.str (rowS (r.take (l - R) ++ [false]))) (.str (rowS (r.drop (l - R + 1)))) = some (.str (rowS (r.take (l - R) ++ [false] ++ r.drop (l - R + 1)))) := addD_str (by rw [List.length_append, List.length_take, List.length_drop]; simp; omega)
          rw [set_cut _ _ _ (by omega)] at a4
          rw [← str_dot] at a3
          have a5 : (⟨((rowS r).cps.toList.set (l - R) 46).toArray⟩ : Str) = rowS (r.set (l - R) false) := by
            show (⟨((r.map chN).toArray.toList.set (l - R) 46).toArray⟩ : Str) = ⟨((r.set (l - R) false).map chN).toArray⟩
            rw [List.map_set]
            rfl
          simp only [a5]
          generalize ((l - R : Nat) : Int) = k at *
          simp [a1, a2, a3, a4])
      have e3 : (p.map fun r => D.str (rowS r)).map (fun d => match d with
          | .str z => .str ⟨(z.cps.toList.set (l - R) 46).toArray⟩
          | _ => .non) = (p.map fun r => r.set (l - R) false).map fun r => D.str (rowS r) := by
        rw [List.map_map, List.map_map]
        apply List.map_congr_left
        intro r _
        show D.str _ = D.str _
        congr 1
        show (⟨((r.map chN).toArray.toList.set (l - R) 46).toArray⟩ : Str) = ⟨((r.set (l - R) false).map chN).toArray⟩
        rw [List.map_set]
        rfl
      rw [e3] at hm
      have e4 : picD (p.map fun r => r.set (l - R) false) = .tup ((p.map fun r => r.set (l - R) false).map fun r => D.str (rowS r)) := rfl
      rw [e4]
      generalize (p.map fun r => r.set (l - R) false).map (fun r => D.str (rowS r)) = X at *
      generalize ((l - R : Nat) : Int) = k at *
      clear e3 e4
      simp [hm]
end C
namespace C
open PySem PySem.Spec PyProof.Rows L2 PD
def natD (l : List Nat) : List D := l.map fun (n : Nat) => D.int (n : Int)
theorem strokes_loop {R C : Nat} (hR : 1 ≤ R ∧ R ≤ 12) (hC : 1 ≤ C ∧ C ≤ 12) (s : PD.Slot) (obs : List (List D)) : ∀ (ls : List Nat) (p : List (List Bool)) (x2 : PD.Slot), Pic R C p → (∀ l ∈ ls, l < R + C) → ∃ y2,
    forL false [2] (sSet 0 (eFn F__law_stroke (eCons (vPl 0) (eCons (vPl 2) (Co.ret []))))) (natD ls) ⟨[.pl (picD p), s, x2], obs⟩ = .ok .nx ⟨[.pl (picD (ls.foldl (fun q l => strokeP q C l) p)), s, y2], obs⟩
  | [], p, x2, _, _ => ⟨x2, rfl⟩
  | l :: ls, p, x2, h, hl => by
    obtain ⟨y2, ih⟩ := strokes_loop hR hC s obs ls (strokeP p C l) (.pl (.int l)) (strokeP_pic h l) fun k hk => hl k (List.mem_cons_of_mem _ hk)
    refine ⟨y2, ?_⟩
    rw [List.foldl_cons, ← ih]
    show forL _ _ _ (.int (l : Int) :: natD ls) _ = _
    rw [forL_cons]
    have hs := F__law_stroke_q h hR hC (hl l List.mem_cons_self) obs
    simp [hs]
theorem strokes_pic {R C : Nat} : ∀ (ls : List Nat) {p : List (List Bool)}, Pic R C p → Pic R C (ls.foldl (fun q l => strokeP q C l) p)
  | [], _, h => h
  | l :: ls, _, h => strokes_pic ls (strokeP_pic h l)
def cell (p : List (List Bool)) (i j : Nat) : Bool := ((p[i]?).getD [])[j]?.getD false
end C
namespace C
open PySem PySem.Spec PyProof.Rows L2 PD
theorem ix_row {r : List Bool} {j : Nat} (hj : j < r.length) (hz : r.length ≤ 1000) : subD' (.str (rowS r)) (.int j) = some (.str (rowS [r[j]?.getD false])) := by
  show (if (rowS r).length ≤ sizeLine then (atI (r.map chN).toArray.toList j).map fun c => D.str ⟨#[c]⟩ else none) = _
  rw [rowS_len, if_pos (size_le hz), PD.atI_nat]
  show ((r.map chN)[j]?).map _ = _
  rw [List.getElem?_map, List.getElem?_eq_getElem hj]
  rfl
theorem natD_len (l : List Nat) : (natD l).length = l.length := by unfold natD; rw [List.length_map]
theorem natD_ints (l : List Nat) : natD l = (l.map fun (n : Nat) => (n : Int)).map D.int := by unfold natD; rw [List.map_map]; rfl
end C
namespace C
open PySem PySem.Spec PyProof.Rows L2 PD
theorem rgD_nat (n : Nat) : rgD 0 (n : Int) = natD (List.range n) := by
  unfold rgD natD
  rw [Int.sub_zero, Int.toNat_natCast]
  apply List.map_congr_left
  intro k _
  show D.int _ = D.int _
  rw [Int.zero_add]
theorem get_pic (m : M) (p : List (List Bool)) : Opd.get m (.val (picD p)) = some (picD p) := rfl
end C
namespace C
open PySem PySem.Spec PyProof.Rows L2 PD
theorem all_true (n : Nat) : allD [.lst (List.replicate n (.bl true))] = some (.bl true) := by
  have := all_bls (List.replicate n true)
  rw [List.map_replicate] at this
  rw [this]
  congr 2
  rw [List.all_eq_true]
  intro x hx
  exact List.eq_of_mem_replicate hx
end C
namespace PD
open PySem PySem.Spec PyProof.Rows L2
def WQ {α : Type} (c : Co α) (m : M) (Q : α → M → Prop) : Prop := ∃ a m', c m = .ok a m' ∧ Q a m'
def FQ (F : Fd) (ds : List D) (obs : List (List D)) (Q : D → List (List D) → Prop) : Prop := ∃ r obs', F ds obs = some (r, obs') ∧ Q r obs'
def FlQ (g : Co Flow') (Q : Flow' → M → Prop) (fl : Flow') (m : M) : Prop := match fl with
  | .nx => WQ g m Q
  | fl => Q fl m
section
variable {α β : Type} {m m' : M}
theorem WQ.mono {c : Co α} {Q R : α → M → Prop} (h : WQ c m Q) (i : ∀ a m', Q a m' → R a m') : WQ c m R := let ⟨a, m', e, q⟩ := h; ⟨a, m', e, i a m' q⟩
theorem WQ.of {c : Co α} {Q : α → M → Prop} {a : α} (e : c m = .ok a m') (q : Q a m') : WQ c m Q := ⟨a, m', e, q⟩
theorem WQ.eq {c : Co α} {a : α} (h : WQ c m fun x m2 => x = a ∧ m2 = m') : c m = .ok a m' := by
  obtain ⟨x, m2, e, rfl, rfl⟩ := h
  exact e
@[simp ↓] theorem FlQ_nx (g : Co Flow') (Q : Flow' → M → Prop) : FlQ g Q .nx m = WQ g m Q := by unfold FlQ; exact Eq.refl _
@[simp ↓] theorem FlQ_rt (g : Co Flow') (Q : Flow' → M → Prop) (d : D) : FlQ g Q (.rt d) m = Q (.rt d) m := by unfold FlQ; exact Eq.refl _
@[simp ↓] theorem FlQ_rf (g : Co Flow') (Q : Flow' → M → Prop) (d : D) : FlQ g Q (.rf d) m = Q (.rf d) m := by unfold FlQ; exact Eq.refl _
@[simp ↓] theorem FlQ_bk (g : Co Flow') (Q : Flow' → M → Prop) : FlQ g Q .bk m = Q .bk m := by unfold FlQ; exact Eq.refl _
@[simp ↓] theorem FlQ_ct (g : Co Flow') (Q : Flow' → M → Prop) : FlQ g Q .ct m = Q .ct m := by unfold FlQ; exact Eq.refl _
theorem wq_ret (a : α) (Q : α → M → Prop) : WQ (Co.ret a) m Q ↔ Q a m := ⟨fun ⟨_, _, e, q⟩ => by cases e; exact q, fun q => ⟨a, m, by rfl, q⟩⟩
theorem wq_bind (c : Co α) (k : α → Co β) (Q : β → M → Prop) : WQ (Co.bind c k) m Q ↔ WQ c m fun a m' => WQ (k a) m' Q := by
  constructor
  · rintro ⟨b, m2, e, q⟩
    obtain ⟨a, m1, e1, e2⟩ := Co.bind_ok e
    exact ⟨a, m1, e1, b, m2, e2, q⟩
  · rintro ⟨a, m1, e1, b, m2, e2, q⟩
    refine ⟨b, m2, ?_, q⟩
    rw [bind_ap, e1]
    exact e2
theorem wq_lift (o : Option α) (Q : α → M → Prop) : WQ (Co.lift o) m Q ↔ ∃ a, o = some a ∧ Q a m := by
  constructor
  · rintro ⟨a, m1, e, q⟩
    obtain ⟨h, rfl⟩ := Co.lift_ok e
    exact ⟨a, h, q⟩
  · rintro ⟨a, h, q⟩
    subst h
    exact ⟨a, m, by rw [lift_some], q⟩
theorem wq_no (Q : α → M → Prop) : WQ (fun _ => Res.no) m Q ↔ False := ⟨fun ⟨_, _, e, _⟩ => (nomatch e), False.elim⟩
theorem wq_vPl (i : Nat) (Q : D → M → Prop) : WQ (vPl i) m Q ↔ ∃ d, m.env[i]? = some (.pl d) ∧ Q d m := by
  constructor
  · rintro ⟨a, m1, e, q⟩
    unfold vPl at e
    split at e
    · rename_i d h
      cases e
      exact ⟨_, h, q⟩
    · cases e
  · rintro ⟨d, h, q⟩
    refine ⟨d, m, ?_, q⟩
    unfold vPl
    rw [h]
theorem wq_vAny (i : Nat) (Q : Opd → M → Prop) : WQ (vAny i) m Q ↔ (∃ d, m.env[i]? = some (.ow d) ∧ Q (.slot i) m) ∨ ∃ d, m.env[i]? = some (.pl d) ∧ Q (.val d) m := by
  constructor
  · rintro ⟨a, m1, e, q⟩
    unfold vAny at e
    split at e
    · rename_i d h
      cases e
      exact .inl ⟨_, h, q⟩
    · rename_i d h
      cases e
      exact .inr ⟨_, h, q⟩
    · cases e
  · rintro (⟨d, h, q⟩ | ⟨d, h, q⟩)
    · refine ⟨_, m, ?_, q⟩
      unfold vAny
      rw [h]
    · refine ⟨_, m, ?_, q⟩
      unfold vAny
      rw [h]
theorem wq_vB (f : Co D) (Q : Opd → M → Prop) : WQ (vB f) m Q ↔ WQ f m fun d m' => Q (.val d) m' := by
  unfold vB
  rw [wq_bind]
  exact ⟨fun h => h.mono fun _ _ q => (wq_ret _ _).mp q, fun h => h.mono fun _ _ q => (wq_ret _ _).mpr q⟩
theorem wq_opd2 (g : D → D → Option D) (o1 o2 : Opd) (Q : D → M → Prop) : WQ (Opd2 g o1 o2) m Q ↔ ∃ d1, o1.get m = some d1 ∧ ∃ d2, o2.get m = some d2 ∧ ∃ d, g d1 d2 = some d ∧ Q d m := by
  constructor
  · rintro ⟨a, m1, e, q⟩
    rw [Opd2_ap] at e
    cases h1 : o1.get m with
    | none => rw [h1] at e; cases e
    | some d1 =>
      cases h2 : o2.get m with
      | none => rw [h1, h2] at e; cases e
      | some d2 =>
        cases h3 : g d1 d2 with
        | none => rw [h1, h2] at e; simp only [h3] at e; cases e
        | some d => rw [h1, h2] at e; simp only [h3] at e; cases e; exact ⟨d1, rfl, d2, rfl, _, h3, q⟩
  · rintro ⟨d1, h1, d2, h2, d, h3, q⟩
    refine ⟨d, m, ?_, q⟩
    rw [Opd2_ap, h1, h2]
    simp only [h3]
theorem wq_opd1 (g : D → Option D) (o1 : Opd) (Q : D → M → Prop) : WQ (Opd1 g o1) m Q ↔ ∃ d1, o1.get m = some d1 ∧ ∃ d, g d1 = some d ∧ Q d m := by
  constructor
  · rintro ⟨a, m1, e, q⟩
    rw [Opd1_ap] at e
    cases h1 : o1.get m with
    | none => rw [h1] at e; cases e
    | some d1 =>
      cases h3 : g d1 with
      | none => rw [h1] at e; simp only [h3] at e; cases e
      | some d => rw [h1] at e; simp only [h3] at e; cases e; exact ⟨d1, rfl, _, h3, q⟩
  · rintro ⟨d1, h1, d, h3, q⟩
    refine ⟨d, m, ?_, q⟩
    rw [Opd1_ap, h1]
    simp only [h3]
theorem wq_eOp (g : D → D → Option D) (a b : Co Opd) (Q : D → M → Prop) : WQ (eOp g a b) m Q ↔ WQ a m fun o1 m1 => WQ b m1 fun o2 m2 => ∃ d1, o1.get m2 = some d1 ∧ ∃ d2, o2.get m2 = some d2 ∧ ∃ d, g d1 d2 = some d ∧ Q d m2 := by
  unfold eOp
  simp only [wq_bind, wq_opd2]
theorem wq_eOp1 (g : D → Option D) (a : Co Opd) (Q : D → M → Prop) : WQ (eOp1 g a) m Q ↔ WQ a m fun o1 m1 => ∃ d1, o1.get m1 = some d1 ∧ ∃ d, g d1 = some d ∧ Q d m1 := by
  unfold eOp1
  simp only [wq_bind, wq_opd1]
theorem wq_un1 (g : D → Option D) (f : Co D) (Q : D → M → Prop) : WQ (un1 g f) m Q ↔ WQ f m fun d m1 => ∃ r, g d = some r ∧ Q r m1 := by
  unfold un1
  rw [wq_bind]
  refine ⟨fun h => h.mono fun d m1 q => ?_, fun h => h.mono fun d m1 q => ?_⟩
  · obtain ⟨a, m2, e, q⟩ := q
    cases h3 : g d with
    | none => simp only [h3] at e; cases e
    | some r => simp only [h3] at e; cases e; exact ⟨_, rfl, q⟩
  · obtain ⟨r, h, q⟩ := q
    exact ⟨r, m1, by simp only [h], q⟩
theorem wq_toB (d : D) (Q : Bool → M → Prop) : WQ (toB d) m Q ↔ ∃ b, d = .bl b ∧ Q b m := by
  constructor
  · rintro ⟨a, m1, e, q⟩
    unfold toB at e
    split at e
    · cases e; exact ⟨_, rfl, q⟩
    · cases e
  · rintro ⟨b, rfl, q⟩
    exact ⟨b, m, by rw [toB_bl], q⟩
theorem wq_tB (f : Co D) (Q : Bool → M → Prop) : WQ (tB' f) m Q ↔ WQ f m fun d m' => ∃ b, d = .bl b ∧ Q b m' := by
  unfold tB'
  simp only [wq_bind, wq_toB]
theorem wq_ite (p : Prop) [Decidable p] (f g : Co α) (Q : α → M → Prop) : WQ (if p then f else g) m Q ↔ if p then WQ f m Q else WQ g m Q := by
  by_cases h : p
  · rw [if_pos h, if_pos h]
  · rw [if_neg h, if_neg h]
theorem wq_tAnd (t u : Co Bool) (Q : Bool → M → Prop) : WQ (tAnd' t u) m Q ↔ WQ t m fun c m' => if c = true then WQ u m' Q else Q false m' := by
  unfold tAnd'
  simp only [wq_bind, wq_ite, wq_ret]
theorem wq_tOr (t u : Co Bool) (Q : Bool → M → Prop) : WQ (tOr' t u) m Q ↔ WQ t m fun c m' => if c = true then Q true m' else WQ u m' Q := by
  unfold tOr'
  simp only [wq_bind, wq_ite, wq_ret]
theorem wq_tNot (t : Co Bool) (Q : Bool → M → Prop) : WQ (tNot' t) m Q ↔ WQ t m fun c m' => Q (!c) m' := by
  unfold tNot'
  simp only [wq_bind, wq_ite, wq_ret]
theorem wq_eNot (f : Co D) (Q : D → M → Prop) : WQ (eNot f) m Q ↔ WQ f m fun d m' => ∃ b, d = .bl b ∧ Q (.bl !b) m' := by
  unfold eNot
  simp only [wq_bind, wq_tB, wq_ret]
theorem wq_eAnd (f g : Co D) (Q : D → M → Prop) : WQ (eAnd f g) m Q ↔ WQ f m fun d m' => ∃ b, d = .bl b ∧ if b = true then WQ g m' Q else Q (.bl false) m' := by
  unfold eAnd
  simp only [wq_bind, wq_tB, wq_ret, wq_ite]
theorem wq_eOr (f g : Co D) (Q : D → M → Prop) : WQ (eOr f g) m Q ↔ WQ f m fun d m' => ∃ b, d = .bl b ∧ if b = true then Q (.bl true) m' else WQ g m' Q := by
  unfold eOr
  simp only [wq_bind, wq_tB, wq_ret, wq_ite]
theorem wq_eIf (t : Co Bool) (f g : Co D) (Q : D → M → Prop) : WQ (eIf t f g) m Q ↔ WQ t m fun c m' => if c = true then WQ f m' Q else WQ g m' Q := by
  unfold eIf
  simp only [wq_bind, wq_ite]
theorem wq_eChain (p q : D → D → Option D) (a b c : Co Opd) (Q : D → M → Prop) : WQ (eChain p q a b c) m Q ↔ WQ a m fun o1 m1 => WQ b m1 fun o2 m2 => ∃ d1, o1.get m2 = some d1 ∧ ∃ d2, o2.get m2 = some d2 ∧ ∃ d, p d1 d2 = some d ∧ ∃ k, d = .bl k ∧
    if k = true then WQ c m2 fun o3 m3 => ∃ d2, o2.get m3 = some d2 ∧ ∃ d3, o3.get m3 = some d3 ∧ ∃ d, q d2 d3 = some d ∧ Q d m3 else Q (.bl false) m2 := by
  unfold eChain
  simp only [wq_bind, wq_tB, wq_opd2, wq_ite, wq_ret]
theorem wq_eCons (f : Co D) (fs : Co (List D)) (Q : List D → M → Prop) : WQ (eCons f fs) m Q ↔ WQ f m fun d m1 => WQ fs m1 fun ds m2 => Q (d :: ds) m2 := by
  unfold eCons
  simp only [wq_bind, wq_ret]
theorem wq_bCons (f : Co Opd) (fs : Co (List Opd)) (Q : List Opd → M → Prop) : WQ (bCons f fs) m Q ↔ WQ f m fun d m1 => WQ fs m1 fun ds m2 => Q (d :: ds) m2 := by
  unfold bCons
  simp only [wq_bind, wq_ret]
theorem wq_eCall (g : List D → Option D) (gs : Co (List Opd)) (Q : D → M → Prop) : WQ (eCall g gs) m Q ↔ WQ gs m fun os m' => ∃ ds, Opd.getAll m' os = some ds ∧ ∃ d, g ds = some d ∧ Q d m' := by
  unfold eCall
  rw [wq_bind]
  refine ⟨fun h => h.mono fun os m1 q => ?_, fun h => h.mono fun os m1 q => ?_⟩
  · obtain ⟨a, m2, e, q⟩ := q
    cases h1 : Opd.getAll m1 os with
    | none => simp only [h1] at e; cases e
    | some ds =>
      cases h2 : g ds with
      | none => simp only [h1, h2] at e; cases e
      | some d => simp only [h1, h2] at e; cases e; exact ⟨_, rfl, _, h2, q⟩
  · obtain ⟨ds, h1, d, h2, q⟩ := q
    exact ⟨d, m1, by simp only [h1, h2], q⟩
theorem wq_eFn (F : Fd) (fs : Co (List D)) (Q : D → M → Prop) : WQ (eFn F fs) m Q ↔ WQ fs m fun ds m' => FQ F ds m'.obs fun r obs' => Q r ⟨m'.env, obs'⟩ := by
  unfold eFn
  rw [wq_bind]
  refine ⟨fun h => h.mono fun os m1 q => ?_, fun h => h.mono fun os m1 q => ?_⟩
  · obtain ⟨a, m2, e, q⟩ := q
    cases h1 : F os m1.obs with
    | none => simp only [h1] at e; cases e
    | some ro =>
      obtain ⟨r, o⟩ := ro
      simp only [h1] at e
      cases e
      exact ⟨_, _, h1, q⟩
  · obtain ⟨r, o, h1, q⟩ := q
    exact ⟨r, ⟨m1.env, o⟩, by simp only [h1], q⟩
theorem FQ_of {F : Fd} {ds : List D} {obs obs' : List (List D)} {r : D} (h : F ds obs = some (r, obs')) (Q : D → List (List D) → Prop) : FQ F ds obs Q ↔ Q r obs' :=
  ⟨fun ⟨_, _, e, q⟩ => by rw [h] at e; cases e; exact q, fun q => ⟨r, obs', h, q⟩⟩
theorem wq_eTup (fs : Co (List D)) (Q : D → M → Prop) : WQ (eTup fs) m Q ↔ WQ fs m fun ds m' => ds.length ≤ sizeLine ∧ Q (.tup ds) m' := by
  unfold eTup
  rw [wq_bind]
  refine ⟨fun h => h.mono fun ds m1 q => ?_, fun h => h.mono fun ds m1 q => ?_⟩
  · obtain ⟨a, m2, e, q⟩ := q
    try dsimp only at e
    split at e
    · cases e; exact ⟨by assumption, q⟩
    · cases e
  · exact ⟨_, m1, by simp only [q.1, if_true], q.2⟩
theorem wq_eLst (fs : Co (List D)) (Q : D → M → Prop) : WQ (eLst fs) m Q ↔ WQ fs m fun ds m' => ds.length ≤ sizeLine ∧ Q (.lst ds) m' := by
  unfold eLst
  rw [wq_bind]
  refine ⟨fun h => h.mono fun ds m1 q => ?_, fun h => h.mono fun ds m1 q => ?_⟩
  · obtain ⟨a, m2, e, q⟩ := q
    try dsimp only at e
    split at e
    · cases e; exact ⟨by assumption, q⟩
    · cases e
  · exact ⟨_, m1, by simp only [q.1, if_true], q.2⟩
theorem wq_sSeq (f g : Co Flow') (Q : Flow' → M → Prop) : WQ (sSeq f g) m Q ↔ WQ f m fun fl m' => FlQ g Q fl m' := by
  unfold sSeq
  rw [wq_bind]
  refine ⟨fun h => h.mono fun fl m1 q => ?_, fun h => h.mono fun fl m1 q => ?_⟩
  · cases fl <;> simp only [FlQ_nx, FlQ_rt, FlQ_rf, FlQ_bk, FlQ_ct] <;> first | exact q | exact (wq_ret _ _).mp q
  · cases fl <;> simp only [FlQ_nx, FlQ_rt, FlQ_rf, FlQ_bk, FlQ_ct] at q <;> first | exact q | exact (wq_ret _ _).mpr q
theorem wq_sIf (t : Co Bool) (f g : Co Flow') (Q : Flow' → M → Prop) : WQ (sIf t f g) m Q ↔ WQ t m fun c m' => if c = true then WQ f m' Q else WQ g m' Q := by
  unfold sIf
  simp only [wq_bind, wq_ite]
theorem wq_sRet (f : Co D) (Q : Flow' → M → Prop) : WQ (sRet f) m Q ↔ WQ f m fun d m' => Q (.rt d) m' := by
  unfold sRet
  simp only [wq_bind, wq_ret]
theorem wq_sExpr (f : Co D) (Q : Flow' → M → Prop) : WQ (sExpr f) m Q ↔ WQ f m fun d m' => Q .nx m' := by
  unfold sExpr
  simp only [wq_bind, wq_ret]
theorem wq_sSet (i : Nat) (f : Co D) (Q : Flow' → M → Prop) : WQ (sSet i f) m Q ↔ WQ f m fun d m' => Q .nx ⟨m'.env.set i (.pl d), m'.obs⟩ := by
  unfold sSet
  rw [wq_bind]
  refine ⟨fun h => h.mono fun ds m1 q => ?_, fun h => h.mono fun ds m1 q => ?_⟩
  · obtain ⟨a, m2, e, q⟩ := q
    cases e; exact q
  · exact ⟨_, _, rfl, q⟩
theorem wq_sSetF (i : Nat) (f : Co D) (Q : Flow' → M → Prop) : WQ (sSetF i f) m Q ↔ WQ f m fun d m' => i < m'.env.length ∧ Q .nx ⟨m'.env.set i (.ow d), m'.obs⟩ := by
  unfold sSetF
  rw [wq_bind]
  refine ⟨fun h => h.mono fun ds m1 q => ?_, fun h => h.mono fun ds m1 q => ?_⟩
  · obtain ⟨a, m2, e, q⟩ := q
    try dsimp only at e
    split at e
    · cases e; exact ⟨by assumption, q⟩
    · cases e
  · exact ⟨_, _, by simp only [q.1, if_true], q.2⟩
def frzM (i : Nat) (m : M) : M := match m.env[i]? with
  | some (.ow d) => ⟨m.env.set i (.pl d), m.obs⟩
  | _ => m
@[simp] theorem frzM_ap (i : Nat) (e : List Slot) (o : List (List D)) : frzM i ⟨e, o⟩ = match e[i]? with
  | some (.ow d) => ⟨e.set i (.pl d), o⟩
  | _ => ⟨e, o⟩ := by unfold frzM; exact Eq.refl _
theorem wq_sFrz (i : Nat) (g : Co Flow') (Q : Flow' → M → Prop) : WQ (sFrz i g) m Q ↔ WQ g (frzM i m) Q := by
  have : sFrz i g m = g (frzM i m) := by
    unfold sFrz frzM
    cases h : m.env[i]? with
    | none => rfl
    | some s => cases s <;> rfl
  unfold WQ
  rw [this]
theorem wq_xPl (f : Co D) (fs : Co (List (Bool × D))) (Q : List (Bool × D) → M → Prop) : WQ (xPl f fs) m Q ↔ WQ f m fun d m1 => WQ fs m1 fun ls m2 => Q ((false, d) :: ls) m2 := by
  unfold xPl
  simp only [wq_bind, wq_ret]
theorem wq_xFr (f : Co D) (fs : Co (List (Bool × D))) (Q : List (Bool × D) → M → Prop) : WQ (xFr f fs) m Q ↔ WQ f m fun d m1 => WQ fs m1 fun ls m2 => Q ((true, d) :: ls) m2 := by
  unfold xFr
  simp only [wq_bind, wq_ret]
theorem wq_sAsg (is : List Nat) (f : Co (List (Bool × D))) (Q : Flow' → M → Prop) : WQ (sAsg is f) m Q ↔ WQ f m fun ls m' => ∃ env, setEnv m'.env is ls = some env ∧ Q .nx ⟨env, m'.obs⟩ := by
  unfold sAsg
  rw [wq_bind]
  refine ⟨fun h => h.mono fun ds m1 q => ?_, fun h => h.mono fun ds m1 q => ?_⟩
  · obtain ⟨a, m2, e, q⟩ := q
    cases h1 : setEnv m1.env is ds with
    | none => simp only [h1] at e; cases e
    | some env => simp only [h1] at e; cases e; exact ⟨_, rfl, q⟩
  · obtain ⟨env, h1, q⟩ := q
    exact ⟨_, _, by simp only [h1], q⟩
@[simp] theorem sEnv_nil (e : List Slot) : setEnv e [] [] = some e := by unfold setEnv; exact Eq.refl _
@[simp] theorem sEnv_pl (e : List Slot) (i : Nat) (is : List Nat) (d : D) (ls : List (Bool × D)) : setEnv e (i :: is) ((false, d) :: ls) = if i < e.length then setEnv (e.set i (.pl d)) is ls else none := by
  conv => lhs; unfold setEnv
  simp only [Bool.false_eq_true, if_false]
@[simp] theorem sEnv_ow (e : List Slot) (i : Nat) (is : List Nat) (d : D) (ls : List (Bool × D)) : setEnv e (i :: is) ((true, d) :: ls) = if i < e.length then setEnv (e.set i (.ow d)) is ls else none := by
  conv => lhs; unfold setEnv
  simp only [if_true]
@[simp] theorem sTg_name (is : List Nat) (d : D) (e : List Slot) : setTg false is d e = setEnv e is [(false, d)] := by unfold setTg; exact Eq.refl _
@[simp] theorem sTg_tup (is : List Nat) (ds : List D) (e : List Slot) : setTg true is (.tup ds) e = setEnv e is (ds.map fun d => (false, d)) := by unfold setTg; exact Eq.refl _
theorem wq_sFor (fi : Co (List D)) (t : Bool) (is : List Nat) (b : Co Flow') (Q : Flow' → M → Prop) : WQ (sFor fi t is b) m Q ↔ WQ fi m fun ds m' => WQ (forL t is b ds) m' Q := by
  unfold sFor
  rw [wq_bind]
theorem wq_iVal (f : Co D) (Q : List D → M → Prop) : WQ (iVal f) m Q ↔ WQ f m fun d m' => ∃ ds, itD d = some ds ∧ Q ds m' := by
  unfold iVal
  simp only [wq_bind, wq_lift]
theorem wq_iZip (f : Co (List D)) (Q : List D → M → Prop) : WQ (iZip f) m Q ↔ WQ f m fun d m' => ∃ ds, zipD d = some ds ∧ Q ds m' := by
  unfold iZip
  simp only [wq_bind, wq_lift]
theorem wq_iEnu (f : Co (List D)) (Q : List D → M → Prop) : WQ (iEnu f) m Q ↔ WQ f m fun d m' => ∃ as, d = [.lst as] ∧ Q (enumD 0 as) m' := by
  unfold iEnu
  simp only [wq_bind, wq_lift]
  refine ⟨fun h => h.mono fun ds m1 q => ?_, fun h => h.mono fun ds m1 q => ?_⟩
  · obtain ⟨a, e, q⟩ := q
    split at e
    · cases e; exact ⟨_, rfl, q⟩
    · cases e
  · obtain ⟨as, rfl, q⟩ := q
    exact ⟨_, rfl, q⟩
theorem wq_iRg1 (f : Co (List D)) (Q : List D → M → Prop) : WQ (iRg1' f) m Q ↔ WQ f m fun d m' => ∃ ds, rg1 d = some ds ∧ Q ds m' := by
  unfold iRg1'
  simp only [wq_bind, wq_lift]
theorem wq_iRg2 (f : Co (List D)) (Q : List D → M → Prop) : WQ (iRg2' f) m Q ↔ WQ f m fun d m' => ∃ ds, rg2 d = some ds ∧ Q ds m' := by
  unfold iRg2'
  simp only [wq_bind, wq_lift]
theorem wq_eSl (g : Co Opd) (lo hi : Co (Option Int)) (Q : D → M → Prop) : WQ (eSl g lo hi) m Q ↔ WQ g m fun o m1 => WQ lo m1 fun l m2 => WQ hi m2 fun h m3 => ∃ d1, o.get m3 = some d1 ∧ ∃ d, slD d1 l h = some d ∧ Q d m3 := by
  unfold eSl
  simp only [wq_bind, wq_opd1]
theorem wq_ePart (f : Co D) (Q : Option Int → M → Prop) : WQ (ePart f) m Q ↔ WQ f m fun d m' => ∃ i, d = .int i ∧ Q (some i) m' := by
  unfold ePart
  rw [wq_bind]
  refine ⟨fun h => h.mono fun ds m1 q => ?_, fun h => h.mono fun ds m1 q => ?_⟩
  · obtain ⟨a, m2, e, q⟩ := q
    try dsimp only at e
    split at e
    · cases e; exact ⟨_, rfl, q⟩
    · cases e
  · obtain ⟨i, rfl, q⟩ := q
    exact ⟨_, _, rfl, q⟩
theorem wq_asL (f : Co D) (Q : D → M → Prop) : WQ (asL f) m Q ↔ WQ f m fun d m' => ∃ ds, d = .lst ds ∧ Q (.lst ds) m' := by
  unfold asL
  rw [wq_bind]
  refine ⟨fun h => h.mono fun ds m1 q => ?_, fun h => h.mono fun ds m1 q => ?_⟩
  · obtain ⟨a, m2, e, q⟩ := q
    try dsimp only at e
    split at e
    · cases e; exact ⟨_, rfl, q⟩
    · cases e
  · obtain ⟨ds, rfl, q⟩ := q
    exact ⟨_, _, rfl, q⟩
theorem wq_toI (f : Co D) (Q : Int → M → Prop) : WQ (toI f) m Q ↔ WQ f m fun d m' => ∃ i, d = .int i ∧ Q i m' := by
  unfold toI
  rw [wq_bind]
  refine ⟨fun h => h.mono fun ds m1 q => ?_, fun h => h.mono fun ds m1 q => ?_⟩
  · obtain ⟨a, m2, e, q⟩ := q
    try dsimp only at e
    split at e
    · cases e; exact ⟨_, rfl, q⟩
    · cases e
  · obtain ⟨i, rfl, q⟩ := q
    exact ⟨_, _, rfl, q⟩
theorem wq_rR1 (f : Co D) (Q : Int × Int → M → Prop) : WQ (rR1 f) m Q ↔ WQ f m fun d m' => ∃ i, d = .int i ∧ Q (0, i) m' := by
  unfold rR1
  simp only [wq_bind, wq_toI, wq_ret]
theorem wq_rR2 (f g : Co D) (Q : Int × Int → M → Prop) : WQ (rR2 f g) m Q ↔ WQ f m fun d m1 => ∃ i, d = .int i ∧ WQ g m1 fun d m' => ∃ j, d = .int j ∧ Q (i, j) m' := by
  unfold rR2
  simp only [wq_bind, wq_toI, wq_ret]
theorem wq_eLRg (r : Co (Int × Int)) (Q : D → M → Prop) : WQ (eLRg r) m Q ↔ WQ r m fun ij m' => RgOk ij.1 ij.2 ∧ Q (.lst (rgD ij.1 ij.2)) m' := by
  unfold eLRg
  rw [wq_bind]
  refine ⟨fun h => h.mono fun ds m1 q => ?_, fun h => h.mono fun ds m1 q => ?_⟩
  · obtain ⟨a, m2, e, q⟩ := q
    try dsimp only at e
    split at e
    · cases e; exact ⟨by assumption, q⟩
    · cases e
  · exact ⟨_, _, by simp only [q.1, if_true], q.2⟩
theorem wq_eTRg (r : Co (Int × Int)) (Q : D → M → Prop) : WQ (eTRg r) m Q ↔ WQ r m fun ij m' => RgOk ij.1 ij.2 ∧ Q (.tup (rgD ij.1 ij.2)) m' := by
  unfold eTRg
  rw [wq_bind]
  refine ⟨fun h => h.mono fun ds m1 q => ?_, fun h => h.mono fun ds m1 q => ?_⟩
  · obtain ⟨a, m2, e, q⟩ := q
    try dsimp only at e
    split at e
    · cases e; exact ⟨by assumption, q⟩
    · cases e
  · exact ⟨_, _, by simp only [q.1, if_true], q.2⟩
theorem wq_sMove (i j : Nat) (Q : Flow' → M → Prop) : WQ (sMove i j) m Q ↔ ∃ d, m.env[j]? = some (.ow d) ∧ (i < m.env.length ∧ i ≠ j) ∧ Q .nx ⟨(m.env.set j .un).set i (.ow d), m.obs⟩ := by
  constructor
  · rintro ⟨a, m1, e, q⟩
    unfold sMove at e
    split at e
    · rename_i d h
      split at e
      · cases e; exact ⟨_, h, by assumption, q⟩
      · cases e
    · cases e
  · rintro ⟨d, h, h2, q⟩
    refine ⟨_, _, ?_, q⟩
    unfold sMove
    rw [h]
    simp only [h2, if_true, and_self, ne_eq, not_false_eq_true]
theorem wq_sRetOw (i : Nat) (Q : Flow' → M → Prop) : WQ (sRetOw i) m Q ↔ ∃ d, m.env[i]? = some (.ow d) ∧ Q (.rf d) ⟨m.env.set i .un, m.obs⟩ := by
  constructor
  · rintro ⟨a, m1, e, q⟩
    unfold sRetOw at e
    split at e
    · rename_i d h
      cases e; exact ⟨_, h, q⟩
    · cases e
  · rintro ⟨d, h, q⟩
    refine ⟨_, _, ?_, q⟩
    unfold sRetOw
    rw [h]
theorem wq_isLst (g : Co Opd) (Q : Opd → M → Prop) : WQ (isLst g) m Q ↔ WQ g m fun o m' => ∃ ds, o.get m' = some (.lst ds) ∧ Q o m' := by
  unfold isLst
  rw [wq_bind]
  refine ⟨fun h => h.mono fun ds m1 q => ?_, fun h => h.mono fun ds m1 q => ?_⟩
  · obtain ⟨a, m2, e, q⟩ := q
    try dsimp only at e
    split at e
    · rename_i h; cases e; exact ⟨_, h, q⟩
    · cases e
  · obtain ⟨ds, h, q⟩ := q
    exact ⟨_, _, by simp only [h], q⟩
theorem wq_updO_slot (i : Nat) (h : List D → Option (List D)) (Q : Unit → M → Prop) : WQ (updO (.slot i) h) m Q ↔ ∃ ds, m.env[i]? = some (.ow (.lst ds)) ∧ ∃ ds', h ds = some ds' ∧ Q () ⟨m.env.set i (.ow (.lst ds')), m.obs⟩ := by
  constructor
  · rintro ⟨a, m1, e, q⟩
    unfold updO at e
    simp only at e
    split at e
    · rename_i ds h1
      split at e
      · rename_i ds' h2
        cases e; exact ⟨_, h1, _, h2, q⟩
      · cases e
    · cases e
  · rintro ⟨ds, h1, ds', h2, q⟩
    refine ⟨_, _, ?_, q⟩
    unfold updO
    simp only [h1, h2]
theorem wq_eAppend (g : Co Opd) (f : Co D) (Q : D → M → Prop) : WQ (eAppend g f) m Q ↔ WQ g m fun o m1 => ∃ ds, o.get m1 = some (.lst ds) ∧ WQ f m1 fun d m2 => WQ (updO o fun ds => if ds.length < sizeLine then some (ds ++ [d]) else none) m2 fun _ m3 => Q .non m3 := by
  unfold eAppend
  simp only [wq_bind, wq_isLst, wq_ret]
end
end PD
namespace PD
open PySem PySem.Spec PyProof.Rows L2
theorem wq_forL_nil {t : Bool} {is : List Nat} {b : Co Flow'} {m : M} {Q : Flow' → M → Prop} (q : Q .nx m) : WQ (forL t is b []) m Q := ⟨.nx, m, by rfl, q⟩
def TurnQ (Q : Flow' → M → Prop) (J : M → Prop) (fl : Flow') (m : M) : Prop := match fl with
  | .nx => J m
  | .ct => J m
  | .bk => Q .nx m
  | fl => Q fl m
@[simp ↓] theorem TurnQ_nx (Q : Flow' → M → Prop) (J : M → Prop) (m : M) : TurnQ Q J .nx m = J m := by unfold TurnQ; exact Eq.refl _
@[simp ↓] theorem TurnQ_ct (Q : Flow' → M → Prop) (J : M → Prop) (m : M) : TurnQ Q J .ct m = J m := by unfold TurnQ; exact Eq.refl _
@[simp ↓] theorem TurnQ_bk (Q : Flow' → M → Prop) (J : M → Prop) (m : M) : TurnQ Q J .bk m = Q .nx m := by unfold TurnQ; exact Eq.refl _
@[simp ↓] theorem TurnQ_rt (Q : Flow' → M → Prop) (J : M → Prop) (d : D) (m : M) : TurnQ Q J (.rt d) m = Q (.rt d) m := by unfold TurnQ; exact Eq.refl _
@[simp ↓] theorem TurnQ_rf (Q : Flow' → M → Prop) (J : M → Prop) (d : D) (m : M) : TurnQ Q J (.rf d) m = Q (.rf d) m := by unfold TurnQ; exact Eq.refl _
theorem wq_forL_cons {t : Bool} {is : List Nat} {b : Co Flow'} {d : D} {ds : List D} {m : M} {Q : Flow' → M → Prop} {env : List Slot} (h : setTg t is d m.env = some env) (q : WQ b ⟨env, m.obs⟩ (TurnQ Q fun m' => WQ (forL t is b ds) m' Q)) : WQ (forL t is b (d :: ds)) m Q := by
  obtain ⟨fl, m1, e, q⟩ := q
  cases fl <;> simp only [TurnQ_nx, TurnQ_ct, TurnQ_bk, TurnQ_rt, TurnQ_rf] at q
  · obtain ⟨fl, m2, e2, q⟩ := q
    exact ⟨fl, m2, by rw [forL_cons, h]; simp only [e]; exact e2, q⟩
  · exact ⟨_, m1, by rw [forL_cons, h]; simp only [e], q⟩
  · exact ⟨_, m1, by rw [forL_cons, h]; simp only [e], q⟩
  · exact ⟨_, m1, by rw [forL_cons, h]; simp only [e], q⟩
  · obtain ⟨fl, m2, e2, q⟩ := q
    exact ⟨fl, m2, by rw [forL_cons, h]; simp only [e]; exact e2, q⟩
theorem wq_for {β : Type} {t : Bool} {is : List Nat} {b : Co Flow'} {Q : Flow' → M → Prop} (enc : β → D) (xs : List β) (I : List β → M → Prop) {m : M} (h0 : I [] m)
    (hs : ∀ (done : List β) (x : β) (rest : List β) (m : M), xs = done ++ x :: rest → I done m → ∃ env, setTg t is (enc x) m.env = some env ∧ WQ b ⟨env, m.obs⟩ (TurnQ Q (I (done ++ [x]))))
    (hq : ∀ m, I xs m → Q .nx m) : WQ (forL t is b (xs.map enc)) m Q := by
  have key : ∀ (rest done : List β) (m : M), xs = done ++ rest → I done m → WQ (forL t is b (rest.map enc)) m Q := by
    intro rest
    induction rest with
    | nil =>
      intro done m e i
      rw [List.append_nil] at e
      subst e
      exact wq_forL_nil (hq m i)
    | cons x rest ih =>
      intro done m e i
      obtain ⟨env, h1, h2⟩ := hs done x rest m e i
      rw [List.map_cons]
      refine wq_forL_cons h1 (h2.mono fun fl m' q => ?_)
      cases fl <;> simp only [TurnQ_nx, TurnQ_ct, TurnQ_bk, TurnQ_rt, TurnQ_rf] at q ⊢
      · exact ih (done ++ [x]) m' (by rw [e, List.append_assoc]; rfl) q
      · exact q
      · exact q
      · exact q
      · exact ih (done ++ [x]) m' (by rw [e, List.append_assoc]; rfl) q
  exact key xs [] m rfl h0
theorem wq_rg {t : Bool} {is : List Nat} {b : Co Flow'} {Q : Flow' → M → Prop} (lo : Int) (n : Nat) (I : Nat → M → Prop) {m : M} (h0 : I 0 m)
    (hs : ∀ (k : Nat) (m : M), k < n → I k m → ∃ env, setTg t is (.int (lo + k)) m.env = some env ∧ WQ b ⟨env, m.obs⟩ (TurnQ Q (I (k + 1))))
    (hq : ∀ m, I n m → Q .nx m) : WQ (forL t is b (rgD lo (lo + n))) m Q := by
  have e : rgD lo (lo + n) = (List.range n).map fun (i : Nat) => D.int (lo + i) := by
    unfold rgD
    congr 2
    omega
  rw [e]
  refine wq_for (fun (i : Nat) => D.int (lo + i)) (List.range n) (fun done m => I done.length m) h0 (fun done x rest m e i => ?_) (fun m i => hq m (by rw [List.length_range] at i; exact i))
  have hl : done.length < n := by
    have := congrArg List.length e
    rw [List.length_range, List.length_append, List.length_cons] at this
    omega
  have hx : x = done.length := by
    have h1 : (List.range n)[done.length]? = some x := by rw [e]; simp
    rw [List.getElem?_range hl] at h1
    cases h1; rfl
  subst hx
  rw [List.length_append, List.length_singleton]
  exact hs done.length m hl i
theorem unwipe_wipe (e0 : List Slot) : ∀ (vs : List Nat) (e : List Slot), e.length = e0.length → (∀ i, i ∉ vs → e[i]? = e0[i]?) → unwipe e0 e vs = e0
  | [], e, hl, h => by
    unfold unwipe
    exact List.ext_getElem? fun i => h i (by simp)
  | v :: vs, e, hl, h => by
    unfold unwipe
    have ih := unwipe_wipe e0 vs (e.set v (e0[v]?.getD .un)) (by rw [List.length_set, hl]) (fun i hi => by
      by_cases hv : v = i
      · subst hv
        rw [List.getElem?_set]
        rw [if_pos rfl]
        split
        · rename_i h1
          rw [hl] at h1
          rw [List.getElem?_eq_getElem h1]
          rfl
        · rename_i h1
          rw [List.getElem?_eq_none (by omega)]
      · rw [List.getElem?_set_ne hv]
        exact h i (by simp [hi, Ne.symm hv]))
    refine List.ext_getElem? fun i => ?_
    have gen : ∀ (vs : List Nat) (e : List Slot), (unwipe e0 e vs)[i]? = if i ∈ vs ∧ i < e.length then some (e0[i]?.getD .un) else e[i]? := by
      intro vs
      induction vs with
      | nil => intro e; simp [unwipe]
      | cons w ws ihw =>
        intro e
        unfold unwipe
        by_cases hw : w = i
        · subst hw
          rw [List.getElem?_set, if_pos rfl, unwipe_len]
          by_cases hl2 : w < e.length
          · rw [if_pos hl2, if_pos ⟨by simp, hl2⟩]
          · rw [if_neg hl2, if_neg (fun z => hl2 z.2), List.getElem?_eq_none (by omega)]
        · rw [List.getElem?_set_ne hw, ihw]
          simp [Ne.symm hw]
    by_cases hv : v = i
    · subst hv
      rw [List.getElem?_set, if_pos rfl, unwipe_len, hl]
      split
      · rename_i h1
        rw [List.getElem?_eq_getElem h1]
        rfl
      · rename_i h1
        rw [List.getElem?_eq_none (by omega)]
    · rw [List.getElem?_set_ne hv, gen]
      by_cases hm : i ∈ vs ∧ i < e.length
      · rw [if_pos hm]
        rw [List.getElem?_eq_getElem (by omega)]
        rfl
      · rw [if_neg hm]
        by_cases h2 : i ∈ vs
        · rw [List.getElem?_eq_none (by have := hm; simp [h2] at this; omega), List.getElem?_eq_none (by have := hm; simp [h2] at this; omega)]
        · exact h i (by simp [h2, Ne.symm hv])
theorem unwipe_self (env : List Slot) (vs : List Nat) : unwipe env (wipeE env vs) vs = env :=
  unwipe_wipe env vs _ (wipeE_len env vs) fun i h => wipeE_out h
theorem wq_lcL {β : Type} {t : Bool} {is vs : List Nat} {ft : Co Bool} {fe : Co D} (enc : β → D) (E : List Slot) (xs : List β) (I : List β → List D → List (List D) → Prop) {obs : List (List D)} (h0 : I [] [] obs)
    (hs : ∀ (done : List β) (x : β) (rest : List β) (ys : List D) (obs : List (List D)), xs = done ++ x :: rest → I done ys obs → ∃ env, setTg t is (enc x) E = some env ∧ WQ ft ⟨env, obs⟩ fun k m1 => if k = true
      then WQ fe m1 fun y m2 => noOw vs m2.env = true ∧ wipeE m2.env vs = E ∧ I (done ++ [x]) (ys ++ [y]) m2.obs
      else noOw vs m1.env = true ∧ wipeE m1.env vs = E ∧ I (done ++ [x]) ys m1.obs) :
    WQ (lcL t is vs ft fe (xs.map enc)) ⟨E, obs⟩ fun ys m' => m'.env = E ∧ I xs ys m'.obs := by
  have key : ∀ (rest done : List β) (ys : List D) (obs : List (List D)), xs = done ++ rest → I done ys obs → WQ (lcL t is vs ft fe (rest.map enc)) ⟨E, obs⟩ fun zs m' => m'.env = E ∧ I xs (ys ++ zs) m'.obs := by
    intro rest
    induction rest with
    | nil =>
      intro done ys obs e i
      rw [List.append_nil] at e
      subst e
      exact ⟨[], ⟨E, obs⟩, by rfl, rfl, by rw [List.append_nil]; exact i⟩
    | cons x rest ih =>
      intro done ys obs e i
      obtain ⟨env, h1, k, m1, e1, h2⟩ := hs done x rest ys obs e i
      rw [List.map_cons]
      cases k with
      | true =>
        rw [if_pos rfl] at h2
        obtain ⟨y, m2, e2, n2, w2, i2⟩ := h2
        obtain ⟨zs, m3, e3, q1, q2⟩ := ih (done ++ [x]) (ys ++ [y]) m2.obs (by rw [e, List.append_assoc]; rfl) i2
        refine ⟨y :: zs, m3, ?_, q1, by rw [List.append_assoc] at q2; exact q2⟩
        unfold lcL
        simp only [h1, e1, e2, n2, if_true, w2, e3]
      | false =>
        rw [if_neg (by decide)] at h2
        obtain ⟨n2, w2, i2⟩ := h2
        obtain ⟨zs, m3, e3, q1, q2⟩ := ih (done ++ [x]) ys m1.obs (by rw [e, List.append_assoc]; rfl) i2
        refine ⟨zs, m3, ?_, q1, q2⟩
        unfold lcL
        simp only [h1, e1, n2, if_true, w2, e3]
  have := key xs [] [] obs rfl h0
  refine this.mono fun ys m' q => ⟨q.1, by simpa using q.2⟩
theorem wq_eLc (fi : Co (List D)) (t : Bool) (is vs : List Nat) (ft : Co Bool) (fe : Co D) (m : M) (Q : D → M → Prop) : WQ (eLc fi t is vs ft fe) m Q ↔ WQ fi m fun ds m1 => noOw vs m1.env = true ∧ ds.length ≤ sizeLine ∧
    WQ (lcL t is vs ft fe ds) ⟨wipeE m1.env vs, m1.obs⟩ fun ys m' => Q (.lst ys) ⟨unwipe m1.env m'.env vs, m'.obs⟩ := by
  unfold eLc
  rw [wq_bind]
  refine ⟨fun h => h.mono fun ds m1 q => ?_, fun h => h.mono fun ds m1 q => ?_⟩
  · obtain ⟨a, m2, e, q⟩ := q
    dsimp only at e
    split at e
    · rename_i h1
      refine ⟨h1.1, h1.2, ?_⟩
      split at e
      · rename_i ys m3 h3
        cases e
        exact ⟨ys, m3, h3, q⟩
      · cases e
    · cases e
  · obtain ⟨h1, h2, ys, m', e, q⟩ := q
    exact ⟨_, _, by dsimp only; rw [if_pos ⟨h1, h2⟩]; simp only [e], q⟩
theorem wq_lc {β : Type} {fi : Co (List D)} {t : Bool} {is vs : List Nat} {ft : Co Bool} {fe : Co D} {m : M} {Q : D → M → Prop} (enc : β → D) (p : β → Bool) (f : β → D) (xs : List β) (env : List Slot) (obs : List (List D))
    (hi : fi m = .ok (xs.map enc) ⟨env, obs⟩) (hn : noOw vs env = true) (hz : xs.length ≤ sizeLine)
    (hs : ∀ x ∈ xs, ∃ e1, setTg t is (enc x) (wipeE env vs) = some e1 ∧ noOw vs e1 = true ∧ wipeE e1 vs = wipeE env vs ∧ ft ⟨e1, obs⟩ = .ok (p x) ⟨e1, obs⟩ ∧ (p x = true → fe ⟨e1, obs⟩ = .ok (f x) ⟨e1, obs⟩))
    (q : Q (.lst ((xs.filter p).map f)) ⟨env, obs⟩) : WQ (eLc fi t is vs ft fe) m Q := by
  rw [wq_eLc]
  refine ⟨_, _, hi, hn, by rw [List.length_map]; exact hz, ?_⟩
  refine (wq_lcL enc (wipeE env vs) xs (fun done ys o => o = obs ∧ ys = (done.filter p).map f) ⟨rfl, rfl⟩ ?_).mono ?_
  · rintro done x rest ys o e ⟨rfl, rfl⟩
    obtain ⟨e1, h1, h2, h3, h4, h5⟩ := hs x (by rw [e]; simp)
    refine ⟨e1, h1, p x, _, h4, ?_⟩
    cases hp : p x with
    | true =>
      rw [if_pos rfl]
      exact ⟨f x, _, h5 hp, h2, h3, rfl, by rw [List.filter_append, List.map_append]; simp [hp]⟩
    | false =>
      rw [if_neg (by decide)]
      exact ⟨h2, h3, rfl, by rw [List.filter_append, List.map_append]; simp [hp]⟩
  · rintro ys m' ⟨h1, h2, h3⟩
    subst h3
    obtain ⟨e', o'⟩ := m'
    simp only at h1 h2 ⊢
    subst h1 h2
    rw [unwipe_self]
    exact q
theorem run_wq {nl np : Nat} {body : Co Flow'} {ds : List D} {obs : List (List D)} {Q : D → List (List D) → Prop} (hl : ds.length = np)
    (h : WQ body ⟨ds.map Slot.pl ++ List.replicate (nl - np) .un, obs⟩ fun fl m' => match fl with
      | .nx => Q .non m'.obs
      | .rt d => Q d m'.obs
      | _ => False) : FQ (runF nl np body false) ds obs Q := by
  obtain ⟨fl, m', e, q⟩ := h
  unfold FQ runF
  rw [if_pos hl, e]
  cases fl <;> simp only at q ⊢ <;> first
    | exact q.elim
    | exact ⟨_, _, rfl, q⟩
theorem FQ.eq {F : Fd} {ds : List D} {obs obs' : List (List D)} {r : D} (h : FQ F ds obs fun x o => x = r ∧ o = obs') : F ds obs = some (r, obs') := by
  obtain ⟨x, o, e, rfl, rfl⟩ := h
  exact e
theorem FQ.mono {F : Fd} {ds : List D} {obs : List (List D)} {Q R : D → List (List D) → Prop} (h : FQ F ds obs Q) (i : ∀ d o, Q d o → R d o) : FQ F ds obs R := let ⟨a, m', e, q⟩ := h; ⟨a, m', e, i a m' q⟩
end PD
namespace PD
open PySem PySem.Spec PyProof.Rows L2
theorem wq_lcm {β : Type} {fi : Co (List D)} {t : Bool} {is vs : List Nat} {fe : Co D} {Q : D → M → Prop} {env : List Slot} {obs : List (List D)} (enc : β → D) (f : β → D) (xs : List β)
    (hi : WQ fi ⟨env, obs⟩ fun ds m1 => ds = xs.map enc ∧ m1 = ⟨env, obs⟩) (hn : noOw vs env = true) (hz : xs.length ≤ sizeLine)
    (hs : ∀ x ∈ xs, ∃ e1, setTg t is (enc x) (wipeE env vs) = some e1 ∧ noOw vs e1 = true ∧ wipeE e1 vs = wipeE env vs ∧ WQ fe ⟨e1, obs⟩ fun y m1 => y = f x ∧ m1 = ⟨e1, obs⟩)
    (q : Q (.lst (xs.map f)) ⟨env, obs⟩) : WQ (eLc fi t is vs (Co.ret true) fe) ⟨env, obs⟩ Q := by
  refine wq_lc enc (fun _ => true) f xs env obs hi.eq hn hz (fun x hx => ?_) (by rw [List.filter_eq_self.mpr fun _ _ => rfl]; exact q)
  obtain ⟨e1, h1, h2, h3, h4⟩ := hs x hx
  exact ⟨e1, h1, h2, h3, rfl, fun _ => h4.eq⟩
theorem wq_lct {β : Type} {fi : Co (List D)} {t : Bool} {is vs : List Nat} {ft : Co Bool} {fe : Co D} {Q : D → M → Prop} {env : List Slot} {obs : List (List D)} (enc : β → D) (p : β → Bool) (f : β → D) (xs : List β)
    (hi : WQ fi ⟨env, obs⟩ fun ds m1 => ds = xs.map enc ∧ m1 = ⟨env, obs⟩) (hn : noOw vs env = true) (hz : xs.length ≤ sizeLine)
    (hs : ∀ x ∈ xs, ∃ e1, setTg t is (enc x) (wipeE env vs) = some e1 ∧ noOw vs e1 = true ∧ wipeE e1 vs = wipeE env vs ∧ (WQ ft ⟨e1, obs⟩ fun y m1 => y = p x ∧ m1 = ⟨e1, obs⟩) ∧ (p x = true → WQ fe ⟨e1, obs⟩ fun y m1 => y = f x ∧ m1 = ⟨e1, obs⟩))
    (q : Q (.lst ((xs.filter p).map f)) ⟨env, obs⟩) : WQ (eLc fi t is vs ft fe) ⟨env, obs⟩ Q := by
  refine wq_lc enc p f xs env obs hi.eq hn hz (fun x hx => ?_) q
  obtain ⟨e1, h1, h2, h3, h4, h5⟩ := hs x hx
  exact ⟨e1, h1, h2, h3, h4.eq, fun hp => (h5 hp).eq⟩
theorem allD_map {β : Type} (f : β → Bool) (xs : List β) : allD [.lst (xs.map fun x => D.bl (f x))] = some (.bl (xs.all f)) := by
  have := C.all_bls (xs.map f)
  rw [List.map_map] at this
  rw [show (xs.map fun x => D.bl (f x)) = xs.map (D.bl ∘ f) from rfl, this]
  congr 2
  rw [List.all_map]
  rfl
theorem anyD_map {β : Type} (f : β → Bool) (xs : List β) : anyD [.lst (xs.map fun x => D.bl (f x))] = some (.bl (xs.any f)) := by
  have := C.any_bls (xs.map f)
  rw [List.map_map] at this
  rw [show (xs.map fun x => D.bl (f x)) = xs.map (D.bl ∘ f) from rfl, this]
  congr 2
  rw [List.any_map]
  rfl
theorem sumD_map {β : Type} (f : β → Int) (xs : List β) : sumD [.lst (xs.map fun x => D.int (f x))] = some (.int (xs.map f).sum) := by
  have h := toInts_map (xs.map f)
  rw [List.map_map] at h
  show (toInts _).map _ = _
  rw [show (xs.map fun x => D.int (f x)) = xs.map (D.int ∘ f) from rfl, h]
  rfl
@[simp] theorem get_cf (m : M) (q : Rat) : Opd.get m (.val (C.cf q)) = some (C.cf q) := by unfold C.cf; exact Eq.refl _
@[simp] theorem get_pic (m : M) (p : List (List Bool)) : Opd.get m (.val (C.picD p)) = some (C.picD p) := by unfold C.picD; exact Eq.refl _
@[simp] theorem cf_0 (q : Rat) : subD' (C.cf q) (.int 0) = some (.int q.num) := by unfold C.cf; exact subD'_tup0 _ _
@[simp] theorem cf_1 (q : Rat) : subD' (C.cf q) (.int 1) = some (.int q.den) := by unfold C.cf; exact subD'_tup1 _ _ _
@[simp] theorem wipeE_nil (env : List Slot) : wipeE env [] = env := by unfold wipeE; exact Eq.refl _
@[simp] theorem wipeE_cons (env : List Slot) (v : Nat) (vs : List Nat) : wipeE env (v :: vs) = (wipeE env vs).set v .un := by conv => lhs; unfold wipeE
@[simp] theorem allD_true (n : Nat) : allD [.lst (List.replicate n (.bl true))] = some (.bl true) := C.all_true n
@[simp] theorem allD_mtrue {β : Type} (xs : List β) : allD [.lst (xs.map fun _ => .bl true)] = some (.bl true) := by rw [allD_map (fun _ => true) xs]; simp
@[simp] theorem anyD_mfalse {β : Type} (xs : List β) : anyD [.lst (xs.map fun _ => .bl false)] = some (.bl false) := by rw [anyD_map (fun _ => false) xs]; simp
theorem cf_one : D.tup [.int 1, .int 1] = C.cf 1 := by rfl
end PD
namespace PD
open PySem PySem.Spec PyProof.Rows L2
theorem wq_pCons {m : M} (fk fv : Co D) (r : Co (List (Key × D))) (Q : List (Key × D) → M → Prop) : WQ (pCons fk fv r) m Q ↔ WQ fk m fun dk m1 => ∃ k, keyD dk = some k ∧ WQ fv m1 fun v m2 => WQ r m2 fun t m3 => Q ((k, v) :: t) m3 := by
  unfold pCons
  simp only [wq_bind, wq_lift, wq_ret]
theorem wq_eDisp {m : M} (f : Co (List (Key × D))) (Q : D → M → Prop) : WQ (eDisp f) m Q ↔ WQ f m fun kds m' => kds.length ≤ 15 ∧ Q (.dk (mergeD kds)) m' := by
  unfold eDisp
  rw [wq_bind]
  refine ⟨fun h => h.mono fun ds m1 q => ?_, fun h => h.mono fun ds m1 q => ?_⟩
  · obtain ⟨a, m2, e, q⟩ := q
    split at e
    · cases e; exact ⟨by assumption, q⟩
    · cases e
  · exact ⟨_, m1, by simp only [q.1, if_true]; rfl, q.2⟩
end PD
namespace PD
open PySem PySem.Spec PyProof.Rows L2
structure Tie {α : Sort u} {β : Sort v} (a : α) (b : β) : Type where
def WP {α : Type} (c : Co α) (m : M) (Q : α → M → Prop) (t : Tie c Q := ⟨⟩) : Prop := WQ c m Q
def FP (F : Fd) (ds : List D) (obs : List (List D)) (Q : D → List (List D) → Prop) (t : Tie F Q := ⟨⟩) : Prop := FQ F ds obs Q
def FlK (g : Co Flow') (Q : Flow' → M → Prop) (fl : Flow') (m : M) (t : Tie g Q := ⟨⟩) : Prop := FlQ g Q fl m
def Turn (Q : Flow' → M → Prop) (J : M → Prop) (fl : Flow') (m : M) (t : Tie Q J := ⟨⟩) : Prop := TurnQ Q J fl m
section
variable {α : Type} {m m' : M}
theorem WP.mono {c : Co α} {Q R : α → M → Prop} (h : WP c m Q) (i : ∀ a m', Q a m' → R a m') : WP c m R := WQ.mono h i
theorem WP.eq {c : Co α} {a : α} (h : WP c m fun x m2 => x = a ∧ m2 = m') : c m = .ok a m' := WQ.eq h
theorem WP.of {c : Co α} {Q : α → M → Prop} {a : α} (e : c m = .ok a m') (q : Q a m') : WP c m Q := WQ.of e q
@[simp ↓] theorem FlK_nx (g : Co Flow') (Q : Flow' → M → Prop) : FlK g Q .nx m ↔ WP g m Q := by unfold FlK WP; rw [FlQ_nx]
@[simp ↓] theorem FlK_rt (g : Co Flow') (Q : Flow' → M → Prop) (d : D) : FlK g Q (.rt d) m ↔ Q (.rt d) m := by unfold FlK; rw [FlQ_rt]
@[simp ↓] theorem FlK_rf (g : Co Flow') (Q : Flow' → M → Prop) (d : D) : FlK g Q (.rf d) m ↔ Q (.rf d) m := by unfold FlK; rw [FlQ_rf]
@[simp ↓] theorem FlK_bk (g : Co Flow') (Q : Flow' → M → Prop) : FlK g Q .bk m ↔ Q .bk m := by unfold FlK; rw [FlQ_bk]
@[simp ↓] theorem FlK_ct (g : Co Flow') (Q : Flow' → M → Prop) : FlK g Q .ct m ↔ Q .ct m := by unfold FlK; rw [FlQ_ct]
@[simp ↓] theorem Turn_nx (Q : Flow' → M → Prop) (J : M → Prop) : Turn Q J .nx m ↔ J m := by unfold Turn; rw [TurnQ_nx]
@[simp ↓] theorem Turn_ct (Q : Flow' → M → Prop) (J : M → Prop) : Turn Q J .ct m ↔ J m := by unfold Turn; rw [TurnQ_ct]
@[simp ↓] theorem Turn_bk (Q : Flow' → M → Prop) (J : M → Prop) : Turn Q J .bk m ↔ Q .nx m := by unfold Turn; rw [TurnQ_bk]
@[simp ↓] theorem Turn_rt (Q : Flow' → M → Prop) (J : M → Prop) (d : D) : Turn Q J (.rt d) m ↔ Q (.rt d) m := by unfold Turn; rw [TurnQ_rt]
@[simp ↓] theorem Turn_rf (Q : Flow' → M → Prop) (J : M → Prop) (d : D) : Turn Q J (.rf d) m ↔ Q (.rf d) m := by unfold Turn; rw [TurnQ_rf]
theorem FP_of {F : Fd} {ds : List D} {obs obs' : List (List D)} {r : D} (h : F ds obs = some (r, obs')) (Q : D → List (List D) → Prop) : FP F ds obs Q ↔ Q r obs' := FQ_of h Q
theorem FP.eq {F : Fd} {ds : List D} {obs obs' : List (List D)} {r : D} (h : FP F ds obs fun x o => x = r ∧ o = obs') : F ds obs = some (r, obs') := FQ.eq h
theorem FP.mono {F : Fd} {ds : List D} {obs : List (List D)} {Q R : D → List (List D) → Prop} (h : FP F ds obs Q) (i : ∀ d o, Q d o → R d o) : FP F ds obs R := FQ.mono h i
theorem FP.get {F : Fd} {ds : List D} {obs : List (List D)} {Q : D → List (List D) → Prop} (h : FP F ds obs Q) : ∃ r obs', F ds obs = some (r, obs') ∧ Q r obs' := h
theorem FP.mk {F : Fd} {ds : List D} {obs obs' : List (List D)} {r : D} {Q : D → List (List D) → Prop} (h : F ds obs = some (r, obs')) (q : Q r obs') : FP F ds obs Q := ⟨r, obs', h, q⟩
theorem wp_forL_nil {t : Bool} {is : List Nat} {b : Co Flow'} {Q : Flow' → M → Prop} (q : Q .nx m) : WP (forL t is b []) m Q := wq_forL_nil q
theorem wp_forL_cons {t : Bool} {is : List Nat} {b : Co Flow'} {d : D} {ds : List D} {Q : Flow' → M → Prop} {env : List Slot} (h : setTg t is d m.env = some env) (q : WP b ⟨env, m.obs⟩ (Turn Q fun m' => WP (forL t is b ds) m' Q)) : WP (forL t is b (d :: ds)) m Q := wq_forL_cons h q
theorem wp_for {β : Type} {t : Bool} {is : List Nat} {b : Co Flow'} {Q : Flow' → M → Prop} (enc : β → D) (xs : List β) (I : List β → M → Prop) {m : M} (h0 : I [] m)
    (hs : ∀ (done : List β) (x : β) (rest : List β) (m : M), xs = done ++ x :: rest → I done m → ∃ env, setTg t is (enc x) m.env = some env ∧ WP b ⟨env, m.obs⟩ fun fl m' => Turn Q (I (done ++ [x])) fl m')
    (hq : ∀ m, I xs m → Q .nx m) : WP (forL t is b (xs.map enc)) m Q := wq_for enc xs I h0 hs hq
theorem wp_rg {t : Bool} {is : List Nat} {b : Co Flow'} {Q : Flow' → M → Prop} (lo : Int) (n : Nat) (I : Nat → M → Prop) {m : M} (h0 : I 0 m)
    (hs : ∀ (k : Nat) (m : M), k < n → I k m → ∃ env, setTg t is (.int (lo + k)) m.env = some env ∧ WP b ⟨env, m.obs⟩ fun fl m' => Turn Q (I (k + 1)) fl m')
    (hq : ∀ m, I n m → Q .nx m) : WP (forL t is b (rgD lo (lo + n))) m Q := wq_rg lo n I h0 hs hq
theorem wp_lcL {β : Type} {t : Bool} {is vs : List Nat} {ft : Co Bool} {fe : Co D} (enc : β → D) (E : List Slot) (xs : List β) (I : List β → List D → List (List D) → Prop) {obs : List (List D)} (h0 : I [] [] obs)
    (hs : ∀ (done : List β) (x : β) (rest : List β) (ys : List D) (obs : List (List D)), xs = done ++ x :: rest → I done ys obs → ∃ env, setTg t is (enc x) E = some env ∧ WP ft ⟨env, obs⟩ fun k m1 => if k = true
      then WP fe m1 fun y m2 => noOw vs m2.env = true ∧ wipeE m2.env vs = E ∧ I (done ++ [x]) (ys ++ [y]) m2.obs
      else noOw vs m1.env = true ∧ wipeE m1.env vs = E ∧ I (done ++ [x]) ys m1.obs) :
    WP (lcL t is vs ft fe (xs.map enc)) ⟨E, obs⟩ fun ys m' => m'.env = E ∧ I xs ys m'.obs := wq_lcL enc E xs I h0 hs
theorem wp_eLc (fi : Co (List D)) (t : Bool) (is vs : List Nat) (ft : Co Bool) (fe : Co D) (m : M) (Q : D → M → Prop) : WP (eLc fi t is vs ft fe) m Q ↔ WP fi m fun ds m1 => noOw vs m1.env = true ∧ ds.length ≤ sizeLine ∧
    WP (lcL t is vs ft fe ds) ⟨wipeE m1.env vs, m1.obs⟩ fun ys m' => Q (.lst ys) ⟨unwipe m1.env m'.env vs, m'.obs⟩ := wq_eLc fi t is vs ft fe m Q
theorem wp_lcm {β : Type} {fi : Co (List D)} {t : Bool} {is vs : List Nat} {fe : Co D} {Q : D → M → Prop} {env : List Slot} {obs : List (List D)} (enc : β → D) (f : β → D) (xs : List β)
    (hi : WP fi ⟨env, obs⟩ fun ds m1 => ds = xs.map enc ∧ m1 = ⟨env, obs⟩) (hn : noOw vs env = true) (hz : xs.length ≤ sizeLine)
    (hs : ∀ x ∈ xs, ∃ e1, setTg t is (enc x) (wipeE env vs) = some e1 ∧ noOw vs e1 = true ∧ wipeE e1 vs = wipeE env vs ∧ WP fe ⟨e1, obs⟩ fun y m1 => y = f x ∧ m1 = ⟨e1, obs⟩)
    (q : Q (.lst (xs.map f)) ⟨env, obs⟩) : WP (eLc fi t is vs (Co.ret true) fe) ⟨env, obs⟩ Q := wq_lcm enc f xs hi hn hz hs q
theorem wp_lct {β : Type} {fi : Co (List D)} {t : Bool} {is vs : List Nat} {ft : Co Bool} {fe : Co D} {Q : D → M → Prop} {env : List Slot} {obs : List (List D)} (enc : β → D) (p : β → Bool) (f : β → D) (xs : List β)
    (hi : WP fi ⟨env, obs⟩ fun ds m1 => ds = xs.map enc ∧ m1 = ⟨env, obs⟩) (hn : noOw vs env = true) (hz : xs.length ≤ sizeLine)
    (hs : ∀ x ∈ xs, ∃ e1, setTg t is (enc x) (wipeE env vs) = some e1 ∧ noOw vs e1 = true ∧ wipeE e1 vs = wipeE env vs ∧ (WP ft ⟨e1, obs⟩ fun y m1 => y = p x ∧ m1 = ⟨e1, obs⟩) ∧ (p x = true → WP fe ⟨e1, obs⟩ fun y m1 => y = f x ∧ m1 = ⟨e1, obs⟩))
    (q : Q (.lst ((xs.filter p).map f)) ⟨env, obs⟩) : WP (eLc fi t is vs ft fe) ⟨env, obs⟩ Q := wq_lct enc p f xs hi hn hz hs q
theorem run_wp {nl np : Nat} {body : Co Flow'} {ds : List D} {obs : List (List D)} {Q : D → List (List D) → Prop} (hl : ds.length = np)
    (h : WP body ⟨ds.map Slot.pl ++ List.replicate (nl - np) .un, obs⟩ fun fl m' => match fl with
      | .nx => Q .non m'.obs
      | .rt d => Q d m'.obs
      | _ => False) : FP (runF nl np body false) ds obs Q := run_wq hl h
end
def optK {α : Type} (o : Option α) (k : α → Prop) (t : Tie k k := ⟨⟩) : Prop := ∃ a, o = some a ∧ k a
@[simp] theorem optK_some {α : Type} (a : α) (k : α → Prop) : optK (some a) k ↔ k a := ⟨fun ⟨_, e, q⟩ => by cases e; exact q, fun q => ⟨a, rfl, q⟩⟩
def slotK (s : Option Slot) (k : D → Prop) (t : Tie k k := ⟨⟩) : Prop := ∃ d, s = some (.pl d) ∧ k d
@[simp] theorem slotK_pl (d : D) (k : D → Prop) : slotK (some (.pl d)) k ↔ k d := ⟨fun ⟨_, e, q⟩ => by cases e; exact q, fun q => ⟨d, rfl, q⟩⟩
def owK (s : Option Slot) (k : D → Prop) (t : Tie k k := ⟨⟩) : Prop := ∃ d, s = some (.ow d) ∧ k d
@[simp] theorem owK_ow (d : D) (k : D → Prop) : owK (some (.ow d)) k ↔ k d := ⟨fun ⟨_, e, q⟩ => by cases e; exact q, fun q => ⟨d, rfl, q⟩⟩
def anyK (s : Option Slot) (i : Nat) (k : Opd → Prop) (t : Tie k k := ⟨⟩) : Prop := (∃ d, s = some (.ow d) ∧ k (.slot i)) ∨ ∃ d, s = some (.pl d) ∧ k (.val d)
@[simp] theorem anyK_ow (d : D) (i : Nat) (k : Opd → Prop) : anyK (some (.ow d)) i k ↔ k (.slot i) := by
  constructor
  · rintro (⟨_, _, q⟩ | ⟨_, e, _⟩)
    · exact q
    · cases e
  · exact fun q => .inl ⟨d, rfl, q⟩
@[simp] theorem anyK_pl (d : D) (i : Nat) (k : Opd → Prop) : anyK (some (.pl d)) i k ↔ k (.val d) := by
  constructor
  · rintro (⟨_, e, _⟩ | ⟨_, e, q⟩)
    · cases e
    · cases e; exact q
  · exact fun q => .inr ⟨d, rfl, q⟩
def blK (d : D) (k : Bool → Prop) (t : Tie k k := ⟨⟩) : Prop := ∃ b, d = .bl b ∧ k b
@[simp] theorem blK_bl (b : Bool) (k : Bool → Prop) : blK (.bl b) k ↔ k b := ⟨fun ⟨_, e, q⟩ => by cases e; exact q, fun q => ⟨b, rfl, q⟩⟩
def intK (d : D) (k : Int → Prop) (t : Tie k k := ⟨⟩) : Prop := ∃ b, d = .int b ∧ k b
@[simp] theorem intK_int (b : Int) (k : Int → Prop) : intK (.int b) k ↔ k b := ⟨fun ⟨_, e, q⟩ => by cases e; exact q, fun q => ⟨b, rfl, q⟩⟩
def lstK (d : D) (k : List D → Prop) (t : Tie k k := ⟨⟩) : Prop := ∃ b, d = .lst b ∧ k b
@[simp] theorem lstK_lst (b : List D) (k : List D → Prop) : lstK (.lst b) k ↔ k b := ⟨fun ⟨_, e, q⟩ => by cases e; exact q, fun q => ⟨b, rfl, q⟩⟩
def stK (m : M) (k : M → Prop) (t : Tie k k := ⟨⟩) : Prop := k m
@[simp] theorem stK_ap (m : M) (k : M → Prop) : stK m k ↔ k m := by unfold stK; exact Iff.refl _
section
variable {α β : Type} {m m' : M}
@[simp ↓] theorem kp_ret (a : α) (Q : α → M → Prop) : WP (Co.ret a) m Q ↔ Q a m := wq_ret a Q
@[simp ↓] theorem kp_bind (c : Co α) (k : α → Co β) (Q : β → M → Prop) : WP (Co.bind c k) m Q ↔ WP c m fun a m' => WP (k a) m' Q := wq_bind c k Q
@[simp ↓] theorem kp_lift (o : Option α) (Q : α → M → Prop) : WP (Co.lift o) m Q ↔ optK o fun a => Q a m := wq_lift o Q
@[simp ↓] theorem kp_vPl (i : Nat) (Q : D → M → Prop) : WP (vPl i) m Q ↔ slotK m.env[i]? fun d => Q d m := wq_vPl i Q
@[simp ↓] theorem kp_vAny (i : Nat) (Q : Opd → M → Prop) : WP (vAny i) m Q ↔ anyK m.env[i]? i fun o => Q o m := wq_vAny i Q
@[simp ↓] theorem kp_vB (f : Co D) (Q : Opd → M → Prop) : WP (vB f) m Q ↔ WP f m fun d m' => Q (.val d) m' := wq_vB f Q
@[simp ↓] theorem kp_opd2 (g : D → D → Option D) (o1 o2 : Opd) (Q : D → M → Prop) : WP (Opd2 g o1 o2) m Q ↔ optK (o1.get m) fun d1 => optK (o2.get m) fun d2 => optK (g d1 d2) fun d => Q d m := wq_opd2 g o1 o2 Q
@[simp ↓] theorem kp_opd1 (g : D → Option D) (o1 : Opd) (Q : D → M → Prop) : WP (Opd1 g o1) m Q ↔ optK (o1.get m) fun d1 => optK (g d1) fun d => Q d m := wq_opd1 g o1 Q
@[simp ↓] theorem kp_eOp (g : D → D → Option D) (a b : Co Opd) (Q : D → M → Prop) : WP (eOp g a b) m Q ↔ WP a m fun o1 m1 => WP b m1 fun o2 m2 => optK (o1.get m2) fun d1 => optK (o2.get m2) fun d2 => optK (g d1 d2) fun d => Q d m2 := wq_eOp g a b Q
@[simp ↓] theorem kp_eOp1 (g : D → Option D) (a : Co Opd) (Q : D → M → Prop) : WP (eOp1 g a) m Q ↔ WP a m fun o1 m1 => optK (o1.get m1) fun d1 => optK (g d1) fun d => Q d m1 := wq_eOp1 g a Q
@[simp ↓] theorem kp_un1 (g : D → Option D) (f : Co D) (Q : D → M → Prop) : WP (un1 g f) m Q ↔ WP f m fun d m1 => optK (g d) fun r => Q r m1 := wq_un1 g f Q
@[simp ↓] theorem kp_toB (d : D) (Q : Bool → M → Prop) : WP (toB d) m Q ↔ blK d fun b => Q b m := wq_toB d Q
@[simp ↓] theorem kp_tB (f : Co D) (Q : Bool → M → Prop) : WP (tB' f) m Q ↔ WP f m fun d m' => blK d fun b => Q b m' := wq_tB f Q
@[simp ↓] theorem kp_ite (p : Prop) [Decidable p] (f g : Co α) (Q : α → M → Prop) : WP (if p then f else g) m Q ↔ if p then WP f m Q else WP g m Q := wq_ite p f g Q
@[simp ↓] theorem kp_tAnd (t u : Co Bool) (Q : Bool → M → Prop) : WP (tAnd' t u) m Q ↔ WP t m fun c m' => if c = true then WP u m' Q else Q false m' := wq_tAnd t u Q
@[simp ↓] theorem kp_tOr (t u : Co Bool) (Q : Bool → M → Prop) : WP (tOr' t u) m Q ↔ WP t m fun c m' => if c = true then Q true m' else WP u m' Q := wq_tOr t u Q
@[simp ↓] theorem kp_tNot (t : Co Bool) (Q : Bool → M → Prop) : WP (tNot' t) m Q ↔ WP t m fun c m' => Q (!c) m' := wq_tNot t Q
@[simp ↓] theorem kp_eNot (f : Co D) (Q : D → M → Prop) : WP (eNot f) m Q ↔ WP f m fun d m' => blK d fun b => Q (.bl !b) m' := wq_eNot f Q
@[simp ↓] theorem kp_eAnd (f g : Co D) (Q : D → M → Prop) : WP (eAnd f g) m Q ↔ WP f m fun d m' => blK d fun b => if b = true then WP g m' Q else Q (.bl false) m' := wq_eAnd f g Q
@[simp ↓] theorem kp_eOr (f g : Co D) (Q : D → M → Prop) : WP (eOr f g) m Q ↔ WP f m fun d m' => blK d fun b => if b = true then Q (.bl true) m' else WP g m' Q := wq_eOr f g Q
@[simp ↓] theorem kp_eIf (t : Co Bool) (f g : Co D) (Q : D → M → Prop) : WP (eIf t f g) m Q ↔ WP t m fun c m' => if c = true then WP f m' Q else WP g m' Q := wq_eIf t f g Q
@[simp ↓] theorem kp_eChain (p q : D → D → Option D) (a b c : Co Opd) (Q : D → M → Prop) : WP (eChain p q a b c) m Q ↔ WP a m fun o1 m1 => WP b m1 fun o2 m2 => optK (o1.get m2) fun d1 => optK (o2.get m2) fun d2 => optK (p d1 d2) fun d => blK d fun k =>
    if k = true then WP c m2 fun o3 m3 => optK (o2.get m3) fun d2 => optK (o3.get m3) fun d3 => optK (q d2 d3) fun d => Q d m3 else Q (.bl false) m2 := wq_eChain p q a b c Q
@[simp ↓] theorem kp_eCons (f : Co D) (fs : Co (List D)) (Q : List D → M → Prop) : WP (eCons f fs) m Q ↔ WP f m fun d m1 => WP fs m1 fun ds m2 => Q (d :: ds) m2 := wq_eCons f fs Q
@[simp ↓] theorem kp_bCons (f : Co Opd) (fs : Co (List Opd)) (Q : List Opd → M → Prop) : WP (bCons f fs) m Q ↔ WP f m fun d m1 => WP fs m1 fun ds m2 => Q (d :: ds) m2 := wq_bCons f fs Q
@[simp ↓] theorem kp_eCall (g : List D → Option D) (gs : Co (List Opd)) (Q : D → M → Prop) : WP (eCall g gs) m Q ↔ WP gs m fun os m' => optK (Opd.getAll m' os) fun ds => optK (g ds) fun d => Q d m' := wq_eCall g gs Q
@[simp ↓] theorem kp_eFn (F : Fd) (fs : Co (List D)) (Q : D → M → Prop) : WP (eFn F fs) m Q ↔ WP fs m fun ds m' => FP F ds m'.obs fun r obs' => stK ⟨m'.env, obs'⟩ fun m2 => Q r m2 := wq_eFn F fs Q
@[simp ↓] theorem kp_eTup (fs : Co (List D)) (Q : D → M → Prop) : WP (eTup fs) m Q ↔ WP fs m fun ds m' => ds.length ≤ sizeLine ∧ Q (.tup ds) m' := wq_eTup fs Q
@[simp ↓] theorem kp_eLst (fs : Co (List D)) (Q : D → M → Prop) : WP (eLst fs) m Q ↔ WP fs m fun ds m' => ds.length ≤ sizeLine ∧ Q (.lst ds) m' := wq_eLst fs Q
@[simp ↓] theorem kp_sSeq (f g : Co Flow') (Q : Flow' → M → Prop) : WP (sSeq f g) m Q ↔ WP f m fun fl m' => FlK g Q fl m' := wq_sSeq f g Q
@[simp ↓] theorem kp_sNext (Q : Flow' → M → Prop) : WP sNext m Q ↔ Q .nx m := wq_ret _ _
@[simp ↓] theorem kp_sNo (Q : Flow' → M → Prop) : WP sNo m Q ↔ False := wq_no _
@[simp ↓] theorem kp_sIf (t : Co Bool) (f g : Co Flow') (Q : Flow' → M → Prop) : WP (sIf t f g) m Q ↔ WP t m fun c m' => if c = true then WP f m' Q else WP g m' Q := wq_sIf t f g Q
@[simp ↓] theorem kp_sRet (f : Co D) (Q : Flow' → M → Prop) : WP (sRet f) m Q ↔ WP f m fun d m' => Q (.rt d) m' := wq_sRet f Q
@[simp ↓] theorem kp_sExpr (f : Co D) (Q : Flow' → M → Prop) : WP (sExpr f) m Q ↔ WP f m fun d m' => Q .nx m' := wq_sExpr f Q
@[simp ↓] theorem kp_sSet (i : Nat) (f : Co D) (Q : Flow' → M → Prop) : WP (sSet i f) m Q ↔ WP f m fun d m' => stK ⟨m'.env.set i (.pl d), m'.obs⟩ fun m2 => Q .nx m2 := wq_sSet i f Q
@[simp ↓] theorem kp_sSetF (i : Nat) (f : Co D) (Q : Flow' → M → Prop) : WP (sSetF i f) m Q ↔ WP f m fun d m' => i < m'.env.length ∧ stK ⟨m'.env.set i (.ow d), m'.obs⟩ fun m2 => Q .nx m2 := wq_sSetF i f Q
@[simp ↓] theorem kp_sFrz (i : Nat) (g : Co Flow') (Q : Flow' → M → Prop) : WP (sFrz i g) m Q ↔ stK (frzM i m) fun m2 => WP g m2 Q := wq_sFrz i g Q
@[simp ↓] theorem kp_xNil (Q : List (Bool × D) → M → Prop) : WP xNil m Q ↔ Q [] m := wq_ret _ _
@[simp ↓] theorem kp_xPl (f : Co D) (fs : Co (List (Bool × D))) (Q : List (Bool × D) → M → Prop) : WP (xPl f fs) m Q ↔ WP f m fun d m1 => WP fs m1 fun ls m2 => Q ((false, d) :: ls) m2 := wq_xPl f fs Q
@[simp ↓] theorem kp_xFr (f : Co D) (fs : Co (List (Bool × D))) (Q : List (Bool × D) → M → Prop) : WP (xFr f fs) m Q ↔ WP f m fun d m1 => WP fs m1 fun ls m2 => Q ((true, d) :: ls) m2 := wq_xFr f fs Q
@[simp ↓] theorem kp_sAsg (is : List Nat) (f : Co (List (Bool × D))) (Q : Flow' → M → Prop) : WP (sAsg is f) m Q ↔ WP f m fun ls m' => optK (setEnv m'.env is ls) fun env => Q .nx ⟨env, m'.obs⟩ := wq_sAsg is f Q
@[simp ↓] theorem kp_sFor (fi : Co (List D)) (t : Bool) (is : List Nat) (b : Co Flow') (Q : Flow' → M → Prop) : WP (sFor fi t is b) m Q ↔ WP fi m fun ds m' => WP (forL t is b ds) m' Q := wq_sFor fi t is b Q
@[simp ↓] theorem kp_iVal (f : Co D) (Q : List D → M → Prop) : WP (iVal f) m Q ↔ WP f m fun d m' => optK (itD d) fun ds => Q ds m' := wq_iVal f Q
@[simp ↓] theorem kp_iZip (f : Co (List D)) (Q : List D → M → Prop) : WP (iZip f) m Q ↔ WP f m fun d m' => optK (zipD d) fun ds => Q ds m' := wq_iZip f Q
def enuK (d : List D) (k : List D → Prop) (t : Tie k k := ⟨⟩) : Prop := ∃ as, d = [.lst as] ∧ k (enumD 0 as)
@[simp] theorem enuK_lst (as : List D) (k : List D → Prop) : enuK [.lst as] k ↔ k (enumD 0 as) := ⟨fun ⟨_, e, q⟩ => by cases e; exact q, fun q => ⟨as, rfl, q⟩⟩
@[simp ↓] theorem kp_iEnu (f : Co (List D)) (Q : List D → M → Prop) : WP (iEnu f) m Q ↔ WP f m fun d m' => enuK d fun ds => Q ds m' := wq_iEnu f Q
@[simp ↓] theorem kp_iRg1 (f : Co (List D)) (Q : List D → M → Prop) : WP (iRg1' f) m Q ↔ WP f m fun d m' => optK (rg1 d) fun ds => Q ds m' := wq_iRg1 f Q
@[simp ↓] theorem kp_iRg2 (f : Co (List D)) (Q : List D → M → Prop) : WP (iRg2' f) m Q ↔ WP f m fun d m' => optK (rg2 d) fun ds => Q ds m' := wq_iRg2 f Q
@[simp ↓] theorem kp_eSl (g : Co Opd) (lo hi : Co (Option Int)) (Q : D → M → Prop) : WP (eSl g lo hi) m Q ↔ WP g m fun o m1 => WP lo m1 fun l m2 => WP hi m2 fun h m3 => optK (o.get m3) fun d1 => optK (slD d1 l h) fun d => Q d m3 := wq_eSl g lo hi Q
@[simp ↓] theorem kp_ePart (f : Co D) (Q : Option Int → M → Prop) : WP (ePart f) m Q ↔ WP f m fun d m' => intK d fun i => Q (some i) m' := wq_ePart f Q
@[simp ↓] theorem kp_asL (f : Co D) (Q : D → M → Prop) : WP (asL f) m Q ↔ WP f m fun d m' => lstK d fun ds => Q (.lst ds) m' := wq_asL f Q
@[simp ↓] theorem kp_rR1 (f : Co D) (Q : Int × Int → M → Prop) : WP (rR1 f) m Q ↔ WP f m fun d m' => intK d fun i => Q (0, i) m' := wq_rR1 f Q
@[simp ↓] theorem kp_rR2 (f g : Co D) (Q : Int × Int → M → Prop) : WP (rR2 f g) m Q ↔ WP f m fun d m1 => intK d fun i => WP g m1 fun d m' => intK d fun j => Q (i, j) m' := wq_rR2 f g Q
@[simp ↓] theorem kp_eLRg (r : Co (Int × Int)) (Q : D → M → Prop) : WP (eLRg r) m Q ↔ WP r m fun ij m' => RgOk ij.1 ij.2 ∧ Q (.lst (rgD ij.1 ij.2)) m' := wq_eLRg r Q
@[simp ↓] theorem kp_eTRg (r : Co (Int × Int)) (Q : D → M → Prop) : WP (eTRg r) m Q ↔ WP r m fun ij m' => RgOk ij.1 ij.2 ∧ Q (.tup (rgD ij.1 ij.2)) m' := wq_eTRg r Q
@[simp ↓] theorem kp_sMove (i j : Nat) (Q : Flow' → M → Prop) : WP (sMove i j) m Q ↔ owK m.env[j]? fun d => (i < m.env.length ∧ i ≠ j) ∧ stK ⟨(m.env.set j .un).set i (.ow d), m.obs⟩ fun m2 => Q .nx m2 := wq_sMove i j Q
@[simp ↓] theorem kp_sRetOw (i : Nat) (Q : Flow' → M → Prop) : WP (sRetOw i) m Q ↔ owK m.env[i]? fun d => stK ⟨m.env.set i .un, m.obs⟩ fun m2 => Q (.rf d) m2 := wq_sRetOw i Q
def olK (o : Option D) (k : List D → Prop) (t : Tie k k := ⟨⟩) : Prop := ∃ ds, o = some (.lst ds) ∧ k ds
@[simp] theorem olK_lst (as : List D) (k : List D → Prop) : olK (some (.lst as)) k ↔ k as := ⟨fun ⟨_, e, q⟩ => by cases e; exact q, fun q => ⟨as, rfl, q⟩⟩
def solK (o : Option Slot) (k : List D → Prop) (t : Tie k k := ⟨⟩) : Prop := ∃ ds, o = some (.ow (.lst ds)) ∧ k ds
@[simp] theorem solK_lst (as : List D) (k : List D → Prop) : solK (some (.ow (.lst as))) k ↔ k as := ⟨fun ⟨_, e, q⟩ => by cases e; exact q, fun q => ⟨as, rfl, q⟩⟩
@[simp ↓] theorem kp_isLst (g : Co Opd) (Q : Opd → M → Prop) : WP (isLst g) m Q ↔ WP g m fun o m' => olK (o.get m') fun _ => Q o m' := (wq_isLst g Q).trans ⟨fun h => WQ.mono h fun _ _ ⟨ds, a, b⟩ => ⟨ds, a, b⟩, fun h => WQ.mono h fun _ _ ⟨ds, a, b⟩ => ⟨ds, a, b⟩⟩
@[simp ↓] theorem kp_updO_slot (i : Nat) (h : List D → Option (List D)) (Q : Unit → M → Prop) : WP (updO (.slot i) h) m Q ↔ solK m.env[i]? fun ds => optK (h ds) fun ds' => stK ⟨m.env.set i (.ow (.lst ds')), m.obs⟩ fun m2 => Q () m2 := wq_updO_slot i h Q
@[simp ↓] theorem kp_eAppend (g : Co Opd) (f : Co D) (Q : D → M → Prop) : WP (eAppend g f) m Q ↔ WP g m fun o m1 => olK (o.get m1) fun _ => WP f m1 fun d m2 => WP (updO o fun ds => if ds.length < sizeLine then some (ds ++ [d]) else none) m2 fun _ m3 => Q .non m3 := wq_eAppend g f Q
@[simp ↓] theorem kp_pCons (fk fv : Co D) (r : Co (List (Key × D))) (Q : List (Key × D) → M → Prop) : WP (pCons fk fv r) m Q ↔ WP fk m fun dk m1 => optK (keyD dk) fun k => WP fv m1 fun v m2 => WP r m2 fun t m3 => Q ((k, v) :: t) m3 := wq_pCons fk fv r Q
@[simp ↓] theorem kp_eDisp (f : Co (List (Key × D))) (Q : D → M → Prop) : WP (eDisp f) m Q ↔ WP f m fun kds m' => kds.length ≤ 15 ∧ Q (.dk (mergeD kds)) m' := wq_eDisp f Q
end
@[simp] theorem le_size (n : Nat) (h : n ≤ 1000000) : n ≤ sizeLine := Nat.le_trans h (by rw [sizeLine_eq]; decide)
@[simp] theorem lt_size (n : Nat) (h : n ≤ 1000000) : n < sizeLine := Nat.lt_of_le_of_lt h (by rw [sizeLine_eq]; decide)
end PD
namespace PD
open PySem PySem.Spec PyProof.Rows L2
theorem wp_rg0 {t : Bool} {is : List Nat} {b : Co Flow'} {Q : Flow' → M → Prop} (n : Nat) (I : Nat → M → Prop) {m : M} (h0 : I 0 m)
    (hs : ∀ (k : Nat) (m : M), k < n → I k m → ∃ env, setTg t is (.int k) m.env = some env ∧ WP b ⟨env, m.obs⟩ (Turn Q (I (k + 1))))
    (hq : ∀ m, I n m → Q .nx m) : WP (forL t is b (rgD 0 n)) m Q := by
  have := wq_rg (t := t) (is := is) (b := b) (Q := Q) 0 n I h0 (fun k m h i => by rw [Int.zero_add]; exact hs k m h i) hq
  rw [Int.zero_add] at this
  exact this
theorem rg1_nat {n : Nat} (h : n ≤ 1000000) : rg1 [.int n] = some (rgD 0 n) := C.rg1_int (by omega)
end PD
namespace PD
open PySem PySem.Spec PyProof.Rows L2
theorem wq_sSetOb {m : M} (i : Nat) (f : Co D) (Q : Flow' → M → Prop) : WQ (sSetOb i f) m Q ↔ WQ f m fun d m' => ∃ ds, d = .lst ds ∧ Q .nx ⟨m'.env.set i (.pl (.obj m'.obs.length)), m'.obs ++ [ds]⟩ := by
  unfold sSetOb
  rw [wq_bind]
  refine ⟨fun h => WQ.mono h fun ds m1 q => ?_, fun h => WQ.mono h fun ds m1 q => ?_⟩
  · obtain ⟨a, m2, e, q⟩ := q
    try dsimp only at e
    split at e
    · cases e; exact ⟨_, rfl, q⟩
    · cases e
  · obtain ⟨ds, rfl, q⟩ := q
    exact ⟨_, _, rfl, q⟩
@[simp ↓] theorem kp_sSetOb {m : M} (i : Nat) (f : Co D) (Q : Flow' → M → Prop) : WP (sSetOb i f) m Q ↔ WP f m fun d m' => lstK d fun ds => stK ⟨m'.env.set i (.pl (.obj m'.obs.length)), m'.obs ++ [ds]⟩ fun m2 => Q .nx m2 := wq_sSetOb i f Q
theorem FP_taken {ns : List Int} {a b c many : Int} {Q : D → List (List D) → Prop} (r : C.RowOk a b) (h0 : 0 < many) (hm : many ≤ 100000) (h : ∀ (v : Nat) (a' b' c' : Int), C.RowOk a' b' → (v : Int) < many → Q (.int v) [C.rowD ns a' b' c']) :
    FP C.F__law_taken [.obj 0, .int many] [C.rowD ns a b c] Q := by
  obtain ⟨v, a', b', c', ht, r', h1, h2⟩ := C.F__law_taken_q ns (c := c) r h0 hm
  obtain ⟨n, rfl⟩ := Int.eq_ofNat_of_zero_le h1
  exact ⟨_, _, ht, h n a' b' c' r' h2⟩
theorem FP_taken0 {ns : List Int} {a b c many : Int} {Q : D → List (List D) → Prop} (r : C.RowOk a b) (h0 : 0 < many) (hm : many ≤ 100000) (h : ∀ (v : Nat) (a' b' c' : Int), C.RowOk a' b' → (v : Int) < many → Q (.int v) [C.rowD ns a' b' c']) :
    FP C.F__law_taken [.obj 0, .int many] [[.scr ns, .int a, .int b, .int c]] Q := FP_taken r h0 hm h
end PD
namespace C
open PySem PySem.Spec PyProof.Rows L2 PD
def hf (n : Nat) : D := cf (((n : Nat) : Int) / 2 : Rat)
@[simp] theorem get_hf (m : M) (n : Nat) : Opd.get m (.val (hf n)) = some (hf n) := by unfold hf; exact get_cf _ _
end C
namespace C
open PySem PySem.Spec PyProof.Rows L2 PD
theorem perm_natD {l : List Nat} {ys : List D} (h : (natD l).Perm ys) : ∃ o : List Nat, ys = natD o ∧ l.Perm o := by
  let f : D → Nat := fun d => match d with
    | .int i => i.toNat
    | _ => 0
  have e : ∀ l : List Nat, (natD l).map f = l := fun l => by
    unfold natD
    rw [List.map_map]
    conv => rhs; rw [← List.map_id l]
    rfl
  refine ⟨ys.map f, ?_, ?_⟩
  · unfold natD
    rw [List.map_map]
    conv => lhs; rw [← List.map_id ys]
    refine List.map_congr_left fun d hd => ?_
    obtain ⟨n, _, rfl⟩ := List.mem_map.mp (h.symm.subset hd)
    rfl
  · have := h.map f
    rw [e] at this
    exact this
end C
namespace Od
def qs : List Rat → Rat
  | [] => 0
  | x :: l => x + qs l
@[simp] theorem qs_nil : qs [] = 0 := rfl
@[simp] theorem qs_cons (x : Rat) (l : List Rat) : qs (x :: l) = x + qs l := rfl
section
variable {α β : Type}
theorem qs_congr {f g : α → Rat} {l : List α} (h : ∀ x ∈ l, f x = g x) : qs (l.map f) = qs (l.map g) := by rw [List.map_congr_left h]
end
def EO (w : Nat → Rat) : Nat → List Nat → (List Nat → Rat) → Rat
  | 0, _, f => f []
  | n + 1, ls, f => qs (ls.map fun l => w l / qs (ls.map w) * EO w n (ls.erase l) fun o => f (l :: o))
abbrev E (w : Nat → Rat) (ls : List Nat) (f : List Nat → Rat) : Rat := EO w ls.length ls f
section
variable {w : Nat → Rat}
theorem len_erase {ls : List Nat} {l n : Nat} (h : l ∈ ls) (hn : ls.length = n + 1) : (ls.erase l).length = n := by
  rw [List.length_erase_of_mem h, hn]; rfl
theorem ind {P : List Nat → Prop} (h0 : P []) (hs : ∀ ls, ls ≠ [] → (∀ l ∈ ls, P (ls.erase l)) → P ls) (ls : List Nat) : P ls := by
  have key : ∀ n ls, ls.length = n → P ls := by
    intro n
    induction n with
    | zero => intro ls e; rw [List.eq_nil_of_length_eq_zero e]; exact h0
    | succ n ih => intro ls e; exact hs ls (fun z => by rw [z] at e; cases e) fun l hl => ih _ (len_erase hl e)
  exact key _ ls rfl
end
end Od
namespace Od
def blk (r c : Nat) : List Nat → Bool
  | [] => false
  | l :: o => if l = r then true else if l = c then false else blk r c o
def one (b : Bool) : Rat := if b then 1 else 0
section
variable {w : Nat → Rat} {rows cols : List Nat} {g : Nat → Nat → Bool}
def AR (w : Nat → Rat) (s : Rat) : Nat → List Nat → Rat
  | 0, _ => 1
  | n + 1, ls => qs (ls.map fun l => w l / (qs (ls.map w) + s) * AR w s n (ls.erase l))
abbrev A (w : Nat → Rat) (s : Rat) (ls : List Nat) : Rat := AR w s ls.length ls
theorem A_nil (s : Rat) : A w s [] = 1 := rfl
theorem A_step {s : Rat} {ls : List Nat} (h : ls ≠ []) : A w s ls = qs (ls.map fun l => w l / (qs (ls.map w) + s) * A w s (ls.erase l)) := by
  cases e : ls.length with
  | zero => exact absurd (List.eq_nil_of_length_eq_zero e) h
  | succ n =>
    unfold A
    rw [e]
    conv => lhs; unfold AR
    exact qs_congr fun l hl => by rw [len_erase hl e]
end
end Od
namespace PD
open PySem PySem.Spec PyProof.Rows L2
def dkK (d : D) (k : List (Key × D) → Prop) (t : Tie k k := ⟨⟩) : Prop := ∃ b, d = .dk b ∧ k b
@[simp] theorem dkK_dk (b : List (Key × D)) (k : List (Key × D) → Prop) : dkK (.dk b) k ↔ k b := ⟨fun ⟨_, e, q⟩ => by cases e; exact q, fun q => ⟨b, rfl, q⟩⟩
def spK (s : Option Slot) (k : List (Key × D) → Prop) (t : Tie k k := ⟨⟩) : Prop := ∃ b, s = some (.pl (.dk b)) ∧ k b
@[simp] theorem spK_dk (b : List (Key × D)) (k : List (Key × D) → Prop) : spK (some (.pl (.dk b))) k ↔ k b := ⟨fun ⟨_, e, q⟩ => by cases e; exact q, fun q => ⟨b, rfl, q⟩⟩
def tupK (d : D) (k : List D → Prop) (t : Tie k k := ⟨⟩) : Prop := ∃ b, (d = .tup b ∨ d = .xt b) ∧ k b
@[simp] theorem tupK_tup (b : List D) (k : List D → Prop) : tupK (.tup b) k ↔ k b := ⟨fun ⟨_, e, q⟩ => by rcases e with e | e <;> cases e; exact q, fun q => ⟨b, .inl rfl, q⟩⟩
@[simp] theorem tupK_xt (b : List D) (k : List D → Prop) : tupK (.xt b) k ↔ k b := ⟨fun ⟨_, e, q⟩ => by rcases e with e | e <;> cases e; exact q, fun q => ⟨b, .inr rfl, q⟩⟩
section
variable {m : M}
theorem wq_iItemsF (f : Co D) (Q : List D → M → Prop) : WQ (iItemsF f) m Q ↔ WQ f m fun d m' => ∃ b, d = .dk b ∧ Q (itemsD b) m' := by
  unfold iItemsF
  simp only [wq_bind, wq_lift]
  refine ⟨fun h => WQ.mono h fun ds m1 q => ?_, fun h => WQ.mono h fun ds m1 q => ?_⟩
  · obtain ⟨a, e, q⟩ := q
    split at e
    · cases e; exact ⟨_, rfl, q⟩
    · cases e
  · obtain ⟨b, rfl, q⟩ := q
    exact ⟨_, rfl, q⟩
@[simp ↓] theorem kp_iItemsF (f : Co D) (Q : List D → M → Prop) : WP (iItemsF f) m Q ↔ WP f m fun d m' => dkK d fun b => Q (itemsD b) m' := wq_iItemsF f Q
theorem wq_sForItems (i : Nat) (t : Bool) (is : List Nat) (b : Co Flow') (Q : Flow' → M → Prop) : WQ (sForItems i t is b) m Q ↔ ∃ kds, m.env[i]? = some (.pl (.dk kds)) ∧ WQ (forL t is b (itemsD kds)) m Q := by
  constructor
  · rintro ⟨fl, m1, e, q⟩
    unfold sForItems at e
    split at e
    · rename_i kds h
      exact ⟨kds, h, fl, m1, e, q⟩
    · cases e
  · rintro ⟨kds, h, fl, m1, e, q⟩
    refine ⟨fl, m1, ?_, q⟩
    unfold sForItems
    rw [h]
    exact e
@[simp ↓] theorem kp_sForItems (i : Nat) (t : Bool) (is : List Nat) (b : Co Flow') (Q : Flow' → M → Prop) : WP (sForItems i t is b) m Q ↔ spK m.env[i]? fun kds => WP (forL t is b (itemsD kds)) m Q := wq_sForItems i t is b Q
theorem wq_sUnp (is : List Nat) (f : Co D) (Q : Flow' → M → Prop) : WQ (sUnp is f) m Q ↔ WQ f m fun d m' => ∃ ds, (d = .tup ds ∨ d = .xt ds) ∧ ∃ env, setEnv m'.env is (ds.map fun d => (false, d)) = some env ∧ Q .nx ⟨env, m'.obs⟩ := by
  unfold sUnp
  rw [wq_bind]
  refine ⟨fun h => WQ.mono h fun ds m1 q => ?_, fun h => WQ.mono h fun ds m1 q => ?_⟩
  · obtain ⟨a, m2, e, q⟩ := q
    dsimp only at e
    split at e
    · split at e
      · rename_i h
        cases e; exact ⟨_, .inl rfl, _, h, q⟩
      · cases e
    · split at e
      · rename_i h
        cases e; exact ⟨_, .inr rfl, _, h, q⟩
      · cases e
    · cases e
  · obtain ⟨ds, hd, env, h, q⟩ := q
    rcases hd with rfl | rfl
    · exact ⟨_, _, by simp only [h], q⟩
    · exact ⟨_, _, by simp only [h], q⟩
@[simp ↓] theorem kp_sUnp (is : List Nat) (f : Co D) (Q : Flow' → M → Prop) : WP (sUnp is f) m Q ↔ WP f m fun d m' => tupK d fun ds => optK (setEnv m'.env is (ds.map fun d => (false, d))) fun env => stK ⟨env, m'.obs⟩ fun m2 => Q .nx m2 := wq_sUnp is f Q
theorem wq_eGet2 (g : Co Opd) (f fd : Co D) (Q : D → M → Prop) : WQ (eGet2 g f fd) m Q ↔ WQ g m fun o m1 => (∃ d, o.get m1 = some d ∧ isDict d = true) ∧ WQ f m1 fun k m2 => WQ fd m2 fun z m3 => ∃ v, (match o.get m3 with
    | some d => match dgetD d k with
      | some (some v) => some v
      | some none => some z
      | none => none
    | none => none) = some v ∧ Q v m3 := by
  unfold eGet2
  simp only [wq_bind]
  constructor
  · rintro ⟨o, m1, e1, q⟩
    obtain ⟨d, e2, e3, e4⟩ := isD'_ok e1
    refine ⟨o, m1, e2, ⟨d, e3, e4⟩, WQ.mono q fun k m2 q => WQ.mono q fun z m3 q => ?_⟩
    obtain ⟨v, m4, e, q⟩ := q
    revert e
    cases h1 : o.get m3 with
    | none => intro e; dsimp only at e; rw [h1] at e; cases e
    | some d1 =>
      cases h2 : dgetD d1 k with
      | none => intro e; dsimp only at e; rw [h1] at e; simp only [h2] at e; cases e
      | some o2 =>
        cases o2 with
        | none => intro e; dsimp only at e; rw [h1] at e; simp only [h2] at e; cases e; exact ⟨_, by simp only [h2], q⟩
        | some v2 => intro e; dsimp only at e; rw [h1] at e; simp only [h2] at e; cases e; exact ⟨_, by simp only [h2], q⟩
  · rintro ⟨o, m1, e1, ⟨d, e3, e4⟩, q⟩
    refine ⟨o, m1, ?_, WQ.mono q fun k m2 q => WQ.mono q fun z m3 q => ?_⟩
    · unfold isD'
      rw [bind_ap, e1]
      dsimp only
      rw [e3]
      cases d <;> first | rfl | cases e4
    · obtain ⟨v, e, q⟩ := q
      refine ⟨v, m3, ?_, q⟩
      dsimp only
      cases h1 : o.get m3 with
      | none => rw [h1] at e; cases e
      | some d1 =>
        rw [h1] at e
        dsimp only at e ⊢
        cases h2 : dgetD d1 k with
        | none => simp only [h2] at e; cases e
        | some o2 => cases o2 <;> (simp only [h2] at e ⊢; cases e; rfl)
def dicK (o : Option D) (P : Prop) (t : Tie P P := ⟨⟩) : Prop := (∃ d, o = some d ∧ isDict d = true) ∧ P
@[simp] theorem dicK_dk (b : List (Key × D)) (P : Prop) : dicK (some (.dk b)) P ↔ P := ⟨fun h => h.2, fun h => ⟨⟨_, rfl, rfl⟩, h⟩⟩
@[simp] theorem dicK_dt (b : List (List Key × D)) (P : Prop) : dicK (some (.dt b)) P ↔ P := ⟨fun h => h.2, fun h => ⟨⟨_, rfl, rfl⟩, h⟩⟩
def getK (o : Option D) (kk z : D) : Option D := match o with
    | some d => match dgetD d kk with
      | some (some v) => some v
      | some none => some z
      | none => none
    | none => none
@[simp] theorem getK_some (d kk z : D) : getK (some d) kk z = match dgetD d kk with
      | some (some v) => some v
      | some none => some z
      | none => none := by unfold getK; exact Eq.refl _
@[simp ↓] theorem kp_eGet2 (g : Co Opd) (f fd : Co D) (Q : D → M → Prop) : WP (eGet2 g f fd) m Q ↔ WP g m fun o m1 => dicK (o.get m1) (WP f m1 fun k m2 => WP fd m2 fun z m3 => optK (getK (o.get m3) k z) fun v => Q v m3) := wq_eGet2 g f fd Q
def putK (s : Option Slot) (k : D → Prop) (t : Tie k k := ⟨⟩) : Prop := ∃ d, s = some (.ow d) ∧ k d
@[simp] theorem putK_ow (d : D) (k : D → Prop) : putK (some (.ow d)) k ↔ k d := ⟨fun ⟨_, e, q⟩ => by cases e; exact q, fun q => ⟨d, rfl, q⟩⟩
theorem kp_dput (i : Nat) (fi fe : Co D) (Q : Flow' → M → Prop) : (WP fe m fun d m1 => anyK m1.env[i]? i fun _ => WP fi m1 fun k m2 => putK m2.env[i]? fun dd => optK (putDD k d dd) fun d' => stK ⟨m2.env.set i (.ow d'), m2.obs⟩ fun m3 => (∃ x, m1.env[i]? = some (.ow x)) ∧ Q .nx m3) → WP (sPut (vAny i) fi fe) m Q := by
  rintro ⟨d, m1, e1, h⟩
  have hx : ∃ x, m1.env[i]? = some (.ow x) ∧ WQ fi m1 fun k m2 => ∃ dd, m2.env[i]? = some (.ow dd) ∧ ∃ d', putDD k d dd = some d' ∧ Q .nx ⟨m2.env.set i (.ow d'), m2.obs⟩ := by
    rcases h with ⟨x, hx, q⟩ | ⟨x, hx, q⟩
    · refine ⟨x, hx, WQ.mono q fun k m2 ⟨dd, a, d', b, c⟩ => ⟨dd, a, d', b, c.2⟩⟩
    · obtain ⟨k, m2, _, dd, _, d', _, ⟨⟨y, hy⟩, _⟩⟩ := q
      rw [hx] at hy; cases hy
  obtain ⟨x, hx, k, m2, e2, dd, h2, d', h3, q⟩ := hx
  refine ⟨.nx, ⟨m2.env.set i (.ow d'), m2.obs⟩, ?_, q⟩
  have hs : sDPut' (vAny i) fi fe m = .ok .nx ⟨m2.env.set i (.ow d'), m2.obs⟩ := by
    unfold sDPut'
    rw [bind_ap, e1]
    dsimp only
    rw [bind_ap]
    have : asSlot (vAny i) m1 = .ok i m1 := by
      unfold asSlot vAny
      rw [bind_ap, hx]
    rw [this]
    dsimp only
    rw [bind_ap, e2]
    dsimp only
    rw [bind_ap]
    have : updW i (putDD k d) m2 = .ok () ⟨m2.env.set i (.ow d'), m2.obs⟩ := by
      unfold updW
      rw [h2]
      simp only [h3]
    rw [this]
    rfl
  unfold sPut
  rw [hs]
end
end PD
namespace C
open PySem PySem.Spec PyProof.Rows L2 PD Od
def wt (ws : List Int) (l : Nat) : Int := (ws[l]?).getD 1
def wq (ws : List Int) (l : Nat) : Rat := ((wt ws l : Int) : Rat)
end C
namespace C
open PySem PySem.Spec PyProof.Rows L2 PD Od
def gP (p : List (List Bool)) (R : Nat) (r c : Nat) : Bool := cell p r (c - R)
end C
set_option exponentiation.threshold 5000
namespace Od
section
variable {w : Nat → Rat}
theorem ci {a b : Int} : ((a : Rat) = (b : Rat)) ↔ a = b := Rat.intCast_inj
theorem ne0 {N : Nat} (h : 0 < N) : ((N : Int) : Rat) ≠ 0 := fun e => by
  have : (N : Int) = 0 := ci.mp (e.trans rfl)
  omega
end
end Od
namespace C
open PySem PySem.Spec PyProof.Rows L2 PD Od
theorem FP_pick {ns : List Int} {a b c : Int} {ds : List D} {Q : D → List (List D) → Prop} (r : C.RowOk a b) (h0 : 0 < ds.length) (hm : ds.length ≤ 100000) (h : ∀ (d : D) (a' b' c' : Int), C.RowOk a' b' → d ∈ ds → Q d [C.rowD ns a' b' c']) :
    FP F__law_pick [.obj 0, .lst ds] [C.rowD ns a b c] Q := by
  refine run_wp rfl ?_
  unfold b__law_pick
  simp
  refine FP_taken r (by omega) (by omega) fun v a b c r1 hv => ?_
  have hv2 : v < ds.length := by omega
  have hi : subD' (.lst ds) (.int v) = some ds[v] := by
    have h2 : subD' (.lst ds) (.int v) = ds[v]? := PD.atI_nat ds v
    rw [h2, List.getElem?_eq_getElem hv2]
  simp [hi]
  exact h _ a b c r1 (List.getElem_mem hv2)
end C
namespace C
open PySem PySem.Spec PyProof.Rows L2 PD Od
theorem chN_inj {a b : Bool} (h : chN a = chN b) : a = b := by
  cases a <;> cases b <;> first | rfl | exact absurd h (by decide)
theorem rowS_inj {a b : List Bool} (h : rowS a = rowS b) : a = b := by
  have h1 : (a.map chN) = b.map chN := by
    have := congrArg (fun s : Str => s.cps.toList) h
    simpa [rowS] using this
  exact List.map_inj_right (fun x y e => chN_inj e) |>.mp h1
end C
namespace C
open PySem PySem.Spec PyProof.Rows L2 PD Od
theorem sl_str {r : List Bool} (h : r.length ≤ 1000) (i k : Nat) (hk : i + k ≤ r.length) : slD (.str (rowS r)) (some (i : Int)) (some ((i + k : Nat) : Int)) = some (.str (rowS ((r.drop i).take k))) := by
  show (if (rowS r).length ≤ sizeLine then _ else _) = _
  rw [rowS_len, if_pos (size_le h)]
  show some (D.str (⟨(((r.map chN).toArray.toList.drop (HT.sIx (rowS r).length 0 (some (i : Int)))).take (HT.sIx (rowS r).length (rowS r).length (some ((i + k : Nat) : Int)) - HT.sIx (rowS r).length 0 (some (i : Int)))).toArray⟩ : Str)) = some (D.str ⟨(((r.drop i).take k).map chN).toArray⟩)
  rw [rowS_len, HT.sIx_nat, HT.sIx_nat, Nat.min_eq_left (by omega), Nat.min_eq_left (by omega), Nat.add_sub_cancel_left, List.map_take, List.map_drop]
theorem str_nil : (Str.ofString "" : Str) = rowS [] := by decide +kernel
end C
namespace C
open PySem PySem.Spec PyProof.Rows L2 PD Od
abbrev EB (ws : List Int) (n : Nat) (f : List Nat → Rat) : Rat := E (wq ws) (List.range n) f
end C
namespace C
open PySem PySem.Spec PyProof.Rows L2 PD Od
section
variable {m : M}
theorem eM1S_eq (g : Str → D → Option D) (s : Str) (gb : Co Opd) : eM1S g (Co.ret (.str s)) gb = Co.bind gb fun o => Opd1 (g s) o := by
  unfold eM1S
  funext m
  rw [bind_ap]
  rfl
@[simp ↓] theorem kp_eM1S (g : Str → D → Option D) (s : Str) (gb : Co Opd) (Q : D → M → Prop) : WP (eM1S g (Co.ret (.str s)) gb) m Q ↔ WP gb m fun o m1 => optK (o.get m1) fun d => optK (g s d) fun r => Q r m1 := by
  show WQ (eM1S g (Co.ret (.str s)) gb) m Q ↔ WQ gb m fun o m1 => ∃ d, o.get m1 = some d ∧ ∃ r, g s d = some r ∧ Q r m1
  rw [eM1S_eq, wq_bind]
  simp only [wq_opd1]
theorem wq_iKeysV (i : Nat) (Q : List D → M → Prop) : WQ (iKeysV i) m Q ↔ ∃ d, m.env[i]? = some (.pl d) ∧ ∃ ds, keysOf d = some ds ∧ Q ds m := by
  constructor
  · rintro ⟨a, m', e, q⟩
    unfold iKeysV at e
    split at e
    · rename_i d hd
      split at e
      · rename_i ds hs; cases e; exact ⟨d, hd, _, hs, q⟩
      · cases e
    · cases e
  · rintro ⟨d, hd, ds, hs, q⟩
    refine ⟨ds, m, ?_, q⟩
    unfold iKeysV
    rw [hd]
    simp only [hs]
@[simp ↓] theorem kp_iKeysV (i : Nat) (Q : List D → M → Prop) : WP (iKeysV i) m Q ↔ slotK m.env[i]? fun d => optK (keysOf d) fun ds => Q ds m := wq_iKeysV i Q
theorem WP.frz {i : Nat} {d : D} {g : Co Flow'} {Q : Flow' → M → Prop} (h : m.env[i]? = some (.ow d)) (q : WP g ⟨m.env.set i (.pl d), m.obs⟩ Q) : WP (sFrz i g) m Q := by
  obtain ⟨a, m', e, q⟩ := q
  refine ⟨a, m', ?_, q⟩
  unfold sFrz
  rw [h]
  exact e
end
theorem join_eq (a : Str) (l : List Str) : Txt.join a l = PySem.Str.join a l := by
  exact PySem.StrLaws.glued_eq_join a l
theorem join_one (l : List Bool) : Txt.join (Str.ofString "") (l.map fun b => rowS [b]) = rowS l := by
  rw [join_eq]
  exact go l
where
  go : ∀ l : List Bool, PySem.Str.join (Str.ofString "") (l.map fun b => rowS [b]) = rowS l
  | [] => rfl
  | [b] => rfl
  | a :: b :: l => by
    have ih := go (b :: l)
    rw [List.map_cons] at ih ⊢
    rw [List.map_cons]
    show rowS [a] ++ Str.ofString "" ++ PySem.Str.join (Str.ofString "") (rowS [b] :: l.map fun b => rowS [b]) = _
    rw [ih, str_nil, rowS_app, rowS_app]
    rfl
theorem joinD_one {α : Type} (f : α → Bool) (l : List α) (h : l.length ≤ 1000) : joinD (Str.ofString "") (.lst (l.map fun x => D.str (rowS [f x]))) = some (.str (rowS (l.map f))) := by
  show (toStrs _).bind _ = _
  have e : (l.map fun x => D.str (rowS [f x])) = ((l.map f).map fun b => rowS [b]).map D.str := by rw [List.map_map, List.map_map]; rfl
  rw [e, toStrs_map, Option.bind_some, if_pos, join_one]
  have h0 : (Str.ofString "").length = 0 := by decide +kernel
  have hs : ∀ l : List Bool, ((l.map fun b => rowS [b]).map (·.length)).sum = l.length := fun l => by
    induction l with
    | nil => rfl
    | cons a l ih => rw [List.map_cons, List.map_cons, List.sum_cons, ih, rowS_len]; simp; omega
  rw [hs, h0, List.length_map]
  omega
def keyP (c : List (List Bool)) : List Key := c.map fun r => (Sum.inr (rowS r) : Key)
theorem keyP_inj {a b : List (List Bool)} (h : keyP a = keyP b) : a = b := by
  unfold keyP at h
  exact (List.map_inj_right (fun x y e => rowS_inj (Sum.inr.inj e))).mp h
theorem keyT_pic (c : List (List Bool)) : keyT (picD c) = some (keyP c) := by
  show keysD (c.map fun r => D.str (rowS r)) = some (c.map fun r => (Sum.inr (rowS r) : Key))
  induction c with
  | nil => rfl
  | cons r c ih =>
    rw [List.map_cons, List.map_cons]
    unfold keysD
    rw [ih]
    rfl
theorem tK_pic (c : List (List Bool)) : tK (keyP c) = picD c := by
  unfold tK keyP picD
  rw [List.map_map]
  rfl
end C
namespace C
open PySem PySem.Spec PyProof.Rows L2 PD Od
theorem A1 (w : Nat → Rat) (s : Rat) (l : Nat) : A w s [l] = w l / (w l + s) := by
  rw [A_step (by simp)]
  simp [qs, A_nil]
  grind
theorem A2 (w : Nat → Rat) (s : Rat) {l k : Nat} (h : l ≠ k) : A w s [l, k] = w l / (w l + w k + s) * (w k / (w k + s)) + w k / (w l + w k + s) * (w l / (w l + s)) := by
  rw [A_step (by simp)]
  have e1 : [l, k].erase l = [k] := by simp
  have e2 : [l, k].erase k = [l] := by simp [h]
  show qs [w l / (w l + (w k + 0) + s) * A w s ([l, k].erase l), w k / (w l + (w k + 0) + s) * A w s ([l, k].erase k)] = _
  rw [e1, e2, A1, A1]
  simp [qs]
  grind
end C
namespace C
open PySem PySem.Spec PyProof.Rows L2 PD Od
def rp (q : Rat) : Nat → Rat
  | 0 => 1
  | n + 1 => rp q n * q
end C
namespace C
open PySem PySem.Spec PyProof.Rows L2 PD Od
section
variable {m : M}
theorem wq_eStar (f : Co D) (fs : Co (List D)) (Q : List D → M → Prop) : WQ (eStar f fs) m Q ↔ WQ f m fun d m1 => WQ fs m1 fun ds m2 => ∃ xs, seqOf d = some xs ∧ Q (xs ++ ds) m2 := by
  unfold eStar
  simp only [wq_bind]
  constructor
  · intro h
    refine WQ.mono h fun d m1 h => WQ.mono h fun ds m2 h => ?_
    obtain ⟨a, m3, e, q⟩ := h
    split at e
    · rename_i xs hx; cases e; exact ⟨xs, hx, q⟩
    · cases e
  · intro h
    refine WQ.mono h fun d m1 h => WQ.mono h fun ds m2 h => ?_
    obtain ⟨xs, hx, q⟩ := h
    exact ⟨_, _, by simp only [hx], q⟩
@[simp ↓] theorem kp_eStar (f : Co D) (fs : Co (List D)) (Q : List D → M → Prop) : WP (eStar f fs) m Q ↔ WP f m fun d m1 => WP fs m1 fun ds m2 => optK (seqOf d) fun xs => Q (xs ++ ds) m2 := wq_eStar f fs Q
theorem wq_eDisp1T (fk fv : Co D) (Q : D → M → Prop) : WQ (eDisp1T fk fv) m Q ↔ WQ fk m fun k m1 => WQ fv m1 fun v m2 => ∃ kk, keyT k = some kk ∧ Q (.dt [(kk, v)]) m2 := by
  unfold eDisp1T
  simp only [wq_bind]
  constructor
  · intro h
    refine WQ.mono h fun d m1 h => WQ.mono h fun ds m2 h => ?_
    obtain ⟨a, m3, e, q⟩ := h
    split at e
    · rename_i xs hx; cases e; exact ⟨xs, hx, q⟩
    · cases e
  · intro h
    refine WQ.mono h fun d m1 h => WQ.mono h fun ds m2 h => ?_
    obtain ⟨xs, hx, q⟩ := h
    exact ⟨_, _, by simp only [hx], q⟩
@[simp ↓] theorem kp_eDisp1T (fk fv : Co D) (Q : D → M → Prop) : WP (eDisp1T fk fv) m Q ↔ WP fk m fun k m1 => WP fv m1 fun v m2 => optK (keyT k) fun kk => Q (.dt [(kk, v)]) m2 := wq_eDisp1T fk fv Q
theorem wq_sForKeys (i : Nat) (t : Bool) (is : List Nat) (b : Co Flow') (Q : Flow' → M → Prop) : WQ (sForKeys i t is b) m Q ↔ ∃ d, m.env[i]? = some (.pl d) ∧ ∃ ds, keysOf d = some ds ∧ WQ (forL t is b ds) m Q := by
  constructor
  · rintro ⟨a, m', e, q⟩
    unfold sForKeys at e
    split at e
    · rename_i d hd
      split at e
      · rename_i ds hs; exact ⟨d, hd, ds, hs, a, m', e, q⟩
      · cases e
    · cases e
  · rintro ⟨d, hd, ds, hs, a, m', e, q⟩
    refine ⟨a, m', ?_, q⟩
    unfold sForKeys
    rw [hd]
    simp only [hs]
    exact e
@[simp ↓] theorem kp_sForKeys (i : Nat) (t : Bool) (is : List Nat) (b : Co Flow') (Q : Flow' → M → Prop) : WP (sForKeys i t is b) m Q ↔ slotK m.env[i]? fun d => optK (keysOf d) fun ds => WP (forL t is b ds) m Q := wq_sForKeys i t is b Q
theorem wq_sForVals (i : Nat) (t : Bool) (is : List Nat) (b : Co Flow') (Q : Flow' → M → Prop) : WQ (sForVals i t is b) m Q ↔ ∃ d, m.env[i]? = some (.pl d) ∧ ∃ ds, valsOf d = some ds ∧ WQ (forL t is b ds) m Q := by
  constructor
  · rintro ⟨a, m', e, q⟩
    unfold sForVals at e
    split at e
    · rename_i d hd
      split at e
      · rename_i ds hs; exact ⟨d, hd, ds, hs, a, m', e, q⟩
      · cases e
    · cases e
  · rintro ⟨d, hd, ds, hs, a, m', e, q⟩
    refine ⟨a, m', ?_, q⟩
    unfold sForVals
    rw [hd]
    simp only [hs]
    exact e
@[simp ↓] theorem kp_sForVals (i : Nat) (t : Bool) (is : List Nat) (b : Co Flow') (Q : Flow' → M → Prop) : WP (sForVals i t is b) m Q ↔ slotK m.env[i]? fun d => optK (valsOf d) fun ds => WP (forL t is b ds) m Q := wq_sForVals i t is b Q
theorem wq_sForPairs (i : Nat) (t : Bool) (is : List Nat) (b : Co Flow') (Q : Flow' → M → Prop) : WQ (sForPairs i t is b) m Q ↔ ∃ d, m.env[i]? = some (.pl d) ∧ ∃ ds, pairsOf d = some ds ∧ WQ (forL t is b ds) m Q := by
  constructor
  · rintro ⟨a, m', e, q⟩
    unfold sForPairs at e
    split at e
    · rename_i d hd
      split at e
      · rename_i ds hs; exact ⟨d, hd, ds, hs, a, m', e, q⟩
      · cases e
    · cases e
  · rintro ⟨d, hd, ds, hs, a, m', e, q⟩
    refine ⟨a, m', ?_, q⟩
    unfold sForPairs
    rw [hd]
    simp only [hs]
    exact e
@[simp ↓] theorem kp_sForPairs (i : Nat) (t : Bool) (is : List Nat) (b : Co Flow') (Q : Flow' → M → Prop) : WP (sForPairs i t is b) m Q ↔ slotK m.env[i]? fun d => optK (pairsOf d) fun ds => WP (forL t is b ds) m Q := wq_sForPairs i t is b Q
end
end C
namespace C
open PySem PySem.Spec PyProof.Rows L2 PD Od
abbrev KV := List (List Nat × Int)
def tKey (k : List Nat) : List Key := k.map fun (n : Nat) => .inl (n : Int)
def kvD (l : KV) : D := .dt (l.map fun (kv : List Nat × Int) => (tKey kv.1, D.int kv.2))
def tupN (k : List Nat) : D := .tup (natD k)
theorem tKey_inj {a b : List Nat} (h : tKey a = tKey b) : a = b := by
  unfold tKey at h
  refine List.map_inj_right (f := fun n : Nat => (Sum.inl (n : Int) : Key)) (fun x y e => ?_) |>.mp h
  have : (x : Int) = y := Sum.inl.inj e
  omega
theorem keysD_nat : ∀ k : List Nat, keysD (natD k) = some (tKey k)
  | [] => rfl
  | a :: k => by
    show keysD (D.int a :: natD k) = _
    unfold keysD
    rw [keysD_nat k]
    rfl
theorem keyT_nat (k : List Nat) : keyT (tupN k) = some (tKey k) := keysD_nat k
def gK (l : KV) (k : List Nat) : Int := ((l.find? fun kv => decide (kv.1 = k)).map (·.2)).getD 0
def pK (l : KV) (k : List Nat) (v : Int) : KV := if (l.any fun kv => decide (kv.1 = k)) = true then l.map (fun kv => if kv.1 = k then (kv.1, v) else kv) else l ++ [(k, v)]
theorem dec_tKey (a b : List Nat) : decide (tKey a = tKey b) = decide (a = b) := by
  by_cases h : a = b
  · subst h; simp
  · rw [decide_eq_false h, decide_eq_false fun e => h (tKey_inj e)]
theorem valD_kv (l : KV) (k : List Nat) : valD (l.map fun (kv : List Nat × Int) => (tKey kv.1, D.int kv.2)) (tKey k) = (l.find? fun kv => decide (kv.1 = k)).map fun kv => D.int kv.2 := by
  unfold valD
  rw [List.find?_map]
  have e : ((fun kv : List Key × D => decide (kv.1 = tKey k)) ∘ fun kv : List Nat × Int => (tKey kv.1, D.int kv.2)) = fun kv => decide (kv.1 = k) := by
    funext kv
    exact dec_tKey kv.1 k
  rw [e]
  cases l.find? fun kv => decide (kv.1 = k) <;> rfl
theorem getK_kv (l : KV) (k : List Nat) : getK (some (kvD l)) (tupN k) (.int 0) = some (.int (gK l k)) := by
  unfold getK
  have h : dgetD (kvD l) (tupN k) = some ((l.find? fun kv => decide (kv.1 = k)).map fun kv => D.int kv.2) := by
    show (keyT (tupN k)).map _ = _
    rw [keyT_nat]
    exact congrArg some (valD_kv l k)
  simp only [h]
  unfold gK
  cases l.find? fun kv => decide (kv.1 = k) <;> rfl
theorem putD_kv (l : KV) (k : List Nat) (v : Int) : putD (l.map fun (kv : List Nat × Int) => (tKey kv.1, D.int kv.2)) (tKey k) (.int v) = (pK l k v).map fun kv => (tKey kv.1, D.int kv.2) := by
  unfold putD pK
  rw [List.any_map]
  have e : ((fun kv : List Key × D => decide (kv.1 = tKey k)) ∘ fun kv : List Nat × Int => (tKey kv.1, D.int kv.2)) = fun kv => decide (kv.1 = k) := by
    funext kv
    exact dec_tKey kv.1 k
  rw [e]
  split
  · rw [List.map_map, List.map_map]
    refine List.map_congr_left fun kv _ => ?_
    simp only [Function.comp_apply]
    by_cases h : kv.1 = k
    · rw [if_pos h, if_pos (by rw [h])]
    · rw [if_neg h, if_neg fun z => h (tKey_inj z)]
  · rw [List.map_append]; rfl
theorem put_kv {l : KV} (k : List Nat) (v : Int) (hz : l.length < 1000000) : putDD (tupN k) (.int v) (kvD l) = some (kvD (pK l k v)) := by
  show (match keyT (tupN k) with | some kk => if (l.map fun (kv : List Nat × Int) => (tKey kv.1, D.int kv.2)).length < sizeLine then some (D.dt (putD (l.map fun (kv : List Nat × Int) => (tKey kv.1, D.int kv.2)) kk (.int v))) else none | none => none) = _
  rw [keyT_nat]
  simp only []
  rw [List.length_map, if_pos (lt_size _ (by omega)), putD_kv]
  rfl
def KVn (l : KV) : Prop := (l.map (·.1)).Nodup
theorem len_sub {α : Type} [BEq α] [LawfulBEq α] : ∀ {l u : List α}, l.Nodup → (∀ x ∈ l, x ∈ u) → l.length ≤ u.length
  | [], u, _, _ => Nat.zero_le _
  | a :: l, u, hn, h => by
    obtain ⟨h1, h2⟩ := List.nodup_cons.mp hn
    have ha := h a (List.mem_cons_self ..)
    have := len_sub (l := l) (u := u.erase a) h2 fun x hx => (List.mem_erase_of_ne (fun (e : x = a) => h1 (by rw [← e]; exact hx))).mpr (h x (List.mem_cons_of_mem _ hx))
    rw [List.length_erase_of_mem ha] at this
    have := List.length_pos_of_mem ha
    rw [List.length_cons]; omega
end C
namespace C
open PySem PySem.Spec PyProof.Rows L2 PD Od
def rsT (R : Nat) (k : List Nat) : List Nat := (List.range R).filter fun r => !k.contains r
def csT (R C : Nat) (k : List Nat) : List Nat := ((List.range C).map (R + ·)).filter fun c => !k.contains c
end C
namespace C
open PySem PySem.Spec PyProof.Rows L2 PD Od
theorem natD_app (a b : List Nat) : natD a ++ natD b = natD (a ++ b) := by unfold natD; rw [List.map_append]
structure PS (R C : Nat) (f : List Nat → Rat) : Prop where
  p : ∀ {a b : List Nat}, a.Perm b → f a = f b
  s : ∀ {a : List Nat}, (rsT R a = [] ∨ csT R C a = []) → f a = 1
section
variable {R C : Nat} {L : List (List Nat)} {ws : List Int}
theorem snoc_nd {k : List Nat} {x : Nat} (h : k.Nodup) (hx : x ∉ k) : (k ++ [x]).Nodup := by
  rw [List.nodup_append]
  exact ⟨h, by simp, fun a ha b hb e => by rw [List.mem_singleton] at hb; subst hb; subst e; exact hx ha⟩
end
end C
namespace C
open PySem PySem.Spec PyProof.Rows L2 PD Od
section
variable {m : M}
def sintK (s : Option PD.Slot) (k : Int → Prop) (t : Tie k k := ⟨⟩) : Prop := ∃ u, s = some (.pl (.int u)) ∧ k u
@[simp] theorem sintK_int (u : Int) (k : Int → Prop) : sintK (some (.pl (.int u))) k ↔ k u := ⟨fun ⟨_, e, q⟩ => by cases e; exact q, fun q => ⟨u, rfl, q⟩⟩
theorem wq_sAug (op : Int → Int → Int) (i : Nat) (f : Co D) (Q : Flow' → M → Prop) : WQ (sAug op i f) m Q ↔ ∃ u, m.env[i]? = some (.pl (.int u)) ∧ WQ f m fun d m' => ∃ v, d = .int v ∧ Q .nx ⟨m'.env.set i (.pl (.int (op u v))), m'.obs⟩ := by
  constructor
  · rintro ⟨a, m', e, q⟩
    unfold sAug at e
    split at e
    · rename_i u hu
      obtain ⟨d, m1, e1, e⟩ := Co.bind_ok e
      cases d <;> first
        | (cases e; done)
        | (cases e; exact ⟨u, hu, _, _, e1, _, rfl, q⟩)
    · cases e
  · rintro ⟨u, hu, d, m1, e1, v, rfl, q⟩
    refine ⟨_, _, ?_, q⟩
    unfold sAug
    rw [hu]
    simp only []
    rw [bind_ap, e1]
@[simp ↓] theorem kp_sAug (op : Int → Int → Int) (i : Nat) (f : Co D) (Q : Flow' → M → Prop) : WP (sAug op i f) m Q ↔ sintK m.env[i]? fun u => WP f m fun d m' => intK d fun v => stK ⟨m'.env.set i (.pl (.int (op u v))), m'.obs⟩ fun m2 => Q .nx m2 := wq_sAug op i f Q
end
end C
namespace C
open PySem PySem.Spec PyProof.Rows L2 PD Od
section
variable {R C : Nat} {L : List (List Nat)} {ws : List Int}
theorem PS.one (R C : Nat) : PS R C fun _ => 1 := ⟨fun _ => rfl, fun _ => rfl⟩
end
end C
namespace C
open PySem PySem.Spec PyProof.Rows L2 PD Od
theorem neD_bl (a b : Bool) : neD (.bl a) (.bl b) = some (.bl (a != b)) := by cases a <;> cases b <;> rfl
end C
namespace C
open PySem PySem.Spec PyProof.Rows L2 PD Od
section
variable {R C : Nat} {p : List (List Bool)}
theorem F__law_strokes_t {q : List (List Bool)} (h : Pic R C q) (hR : 1 ≤ R ∧ R ≤ 12) (hC : 1 ≤ C ∧ C ≤ 12) {ls : List Nat} (hl : ∀ l ∈ ls, l < R + C) (obs : List (List D)) :
    F__law_strokes [picD q, .tup (natD ls)] obs = some (picD (ls.foldl (fun q l => strokeP q C l) q), obs) := by
  obtain ⟨y2, hloop⟩ := strokes_loop hR hC (.pl (.tup (natD ls))) obs ls q .un h hl
  refine runF_rt rfl (e := [.pl (picD (ls.foldl (fun q l => strokeP q C l) q)), .pl (.tup (natD ls)), y2]) ?_
  refine seq_nx (for_of (m1 := ⟨[.pl (picD q), .pl (.tup (natD ls)), .un], obs⟩) (ds := natD ls) (by simp) hloop) ?_
  simp
end
theorem FP_pickS {ns : List Int} {a b c : Int} {Q : D → List (List D) → Prop} (r : RowOk a b) (h : ∀ (v : Bool) (a' b' c' : Int), RowOk a' b' → Q (.str (rowS [v])) [rowD ns a' b' c']) :
    FP F__law_pick [.obj 0, .str (Str.ofString "#.")] [rowD ns a b c] Q := by
  have e : (Str.ofString "#." : Str) = rowS [true, false] := by decide +kernel
  rw [e]
  refine run_wp rfl ?_
  unfold b__law_pick
  have hl := lenU_row (r := [true, false]) (by decide)
  simp [hl]
  refine FP_taken r (by omega) (by omega) fun v a b c r1 hv => ?_
  have hv2 : v < [true, false].length := by simp; omega
  have hi := ix_row (r := [true, false]) (j := v) hv2 (by decide)
  simp [hi]
  exact h _ a b c r1
theorem FP_picture {ns : List Int} {a b c : Int} {R C : Nat} {Q : D → List (List D) → Prop} (r : RowOk a b) (hR : R ≤ 12) (hC : C ≤ 12) (h : ∀ (p : List (List Bool)) (a' b' c' : Int), RowOk a' b' → Pic R C p → Q (picD p) [rowD ns a' b' c']) :
    FP F__law_picture [.obj 0, .int R, .int C] [rowD ns a b c] Q := by
  refine run_wp rfl ?_
  unfold b__law_picture
  have q1 : rg1 [.int (R : Int)] = some (natD (List.range R)) := by rw [rg1_nat (by omega), rgD_nat]
  have q2 : rg1 [.int (C : Int)] = some (natD (List.range C)) := by rw [rg1_nat (by omega), rgD_nat]
  simp [wp_eLc, q1]
  refine ⟨by rfl, size_le (by rw [natD_len, List.length_range]; omega), ?_⟩
  obtain ⟨I, hI⟩ : ∃ I : List Nat → List D → List (List D) → Prop, I = fun done ys obs => ∃ (p : List (List Bool)) (a b c : Int), ys = (p.map fun r => D.str (rowS r)) ∧ obs = [rowD ns a b c] ∧ RowOk a b ∧ p.length = done.length ∧ ∀ x ∈ p, x.length = C := ⟨_, rfl⟩
  refine WP.mono (wp_lcL (fun (n : Nat) => D.int n) _ (List.range R) I ?_ ?_) ?_
  · rw [hI]; exact ⟨[], a, b, c, rfl, rfl, r, rfl, fun x hx => nomatch hx⟩
  · intro done x rest ys obs e hi
    rw [hI] at hi
    obtain ⟨p, a, b, c, rfl, rfl, r, hl, hw⟩ := hi
    refine ⟨_, rfl, ?_⟩
    simp [wp_eLc, q2]
    refine ⟨by rfl, size_le (by rw [natD_len, List.length_range]; omega), ?_⟩
    obtain ⟨J, hJ⟩ : ∃ J : List Nat → List D → List (List D) → Prop, J = fun dn ys obs => ∃ (s : List Bool) (a b c : Int), ys = (s.map fun b => D.str (rowS [b])) ∧ obs = [rowD ns a b c] ∧ RowOk a b ∧ s.length = dn.length := ⟨_, rfl⟩
    refine WP.mono (wp_lcL (fun (n : Nat) => D.int n) _ (List.range C) J ?_ ?_) ?_
    · rw [hJ]; exact ⟨[], a, b, c, rfl, rfl, r, rfl⟩
    · intro dn y rs ys obs e hi
      rw [hJ] at hi
      obtain ⟨s, a, b, c, rfl, rfl, r, hsl⟩ := hi
      refine ⟨_, rfl, ?_⟩
      simp
      refine FP_pickS r fun v a b c r1 => ?_
      simp
      rw [hJ]
      exact ⟨rfl, s ++ [v], a, b, c, by simp, rfl, r1, by simp [hsl]⟩
    · intro ys m' hm
      obtain ⟨e1, hi⟩ := hm
      rw [hJ] at hi
      obtain ⟨s, a, b, c, rfl, e2, r, hsl⟩ := hi
      obtain ⟨env, obs⟩ := m'
      simp at e1 e2
      subst e1 e2
      have hj := joinD_one (fun b => b) s (by rw [hsl, List.length_range]; omega)
      rw [List.map_id'] at hj
      simp [hj]
      rw [hI]
      refine ⟨rfl, rfl, p ++ [s], a, b, c, by simp, rfl, r, by simp [hl], fun x hx => ?_⟩
      rcases List.mem_append.mp hx with h1 | h1
      · exact hw x h1
      · rw [List.mem_singleton.mp h1, hsl, List.length_range]
  · intro ys m' hm
    obtain ⟨e1, hi⟩ := hm
    rw [hI] at hi
    obtain ⟨p, a, b, c, rfl, e2, r, hl, hw⟩ := hi
    obtain ⟨env, obs⟩ := m'
    simp at e1 e2
    subst e1 e2
    have tp : tupleD [.lst (p.map fun r => D.str (rowS r))] = some (picD p) := rfl
    simp [tp]
    exact h p a b c r ⟨by rw [hl, List.length_range], hw⟩
end C
namespace C
open PySem PySem.Spec PyProof.Rows L2 PD Od
section
variable {R C : Nat} {ws : List Int} {p : List (List Bool)}
theorem sub_kv {l : KV} (hn : KVn l) {x : List Nat × Int} (hx : x ∈ l) : subD' (kvD l) (tupN x.1) = some (.int x.2) := by
  have h : dgetD (kvD l) (tupN x.1) = some ((l.find? fun kv => decide (kv.1 = x.1)).map fun kv => D.int kv.2) := by
    show (keyT (tupN x.1)).map _ = _
    rw [keyT_nat]
    exact congrArg some (valD_kv l x.1)
  have hf : (l.find? fun kv => decide (kv.1 = x.1)) = some x := by
    clear h
    induction l with
    | nil => cases hx
    | cons y l ih =>
      obtain ⟨h1, h2⟩ := List.nodup_cons.mp hn
      rcases List.mem_cons.mp hx with rfl | hx
      · rw [List.find?_cons_of_pos (by simp)]
      · rw [List.find?_cons_of_neg, ih h2 hx]
        have : y.1 ≠ x.1 := fun e => h1 (by show y.1 ∈ l.map (·.1); rw [e]; exact List.mem_map.mpr ⟨x, hx, rfl⟩)
        simp [this]
  rw [hf] at h
  show orD dixD ixD (fun x _ => isDict x) (kvD l) (tupN x.1) = _
  unfold orD
  rw [if_pos (show isDict (kvD l) = true from rfl)]
  unfold dixD
  rw [h]; rfl
end
end C
namespace C
open PySem PySem.Spec PyProof.Rows L2 PD Od
def left (n : Nat) (t : List Nat) : List Nat := (List.range n).filter fun x => !t.contains x
end C
namespace C
open PySem PySem.Spec PyProof.Rows L2 PD Od
theorem wq_eTupX {m : M} (fs : Co (List D)) (Q : D → M → Prop) : WQ (eTupX fs) m Q ↔ WQ fs m fun ds m' => ds.length ≤ sizeLine ∧ Q (.xt ds) m' := by
  unfold eTupX
  rw [wq_bind]
  refine ⟨fun h => h.mono fun ds m1 q => ?_, fun h => h.mono fun ds m1 q => ?_⟩
  · obtain ⟨a, m2, e, q⟩ := q
    try dsimp only at e
    split at e
    · cases e; exact ⟨by assumption, q⟩
    · cases e
  · exact ⟨_, m1, by simp only [q.1, if_true], q.2⟩
@[simp ↓] theorem kp_eTupX {m : M} (fs : Co (List D)) (Q : D → M → Prop) : WP (eTupX fs) m Q ↔ WP fs m fun ds m' => ds.length ≤ sizeLine ∧ Q (.xt ds) m' := wq_eTupX fs Q
@[simp ↓] theorem kp_eIdx {m : M} (f : Co D) (g : Co Opd) (Q : D → M → Prop) : WP (eIdx f g) m Q ↔ WP f m fun d1 m1 => WP g m1 fun o2 m2 => optK (o2.get m2) fun d2 => optK (idxX d1 d2) fun d => Q d m2 := by
  show WQ (eIdx f g) m Q ↔ WQ f m fun d1 m1 => WQ g m1 fun o2 m2 => ∃ d2, o2.get m2 = some d2 ∧ ∃ d, idxX d1 d2 = some d ∧ Q d m2
  unfold eIdx
  rw [wq_bind]
  simp only [wq_bind, wq_opd1]
@[simp] theorem get_xt (m : M) (ds : List D) : Opd.get m (.val (.xt ds)) = some (.xt ds) := rfl
end C
namespace C
open PySem PySem.Spec PyProof.Rows L2 PD Od
def strK (d : D) (k : Str → Prop) (t : Tie k k := ⟨⟩) : Prop := ∃ s, d = .str s ∧ k s
@[simp] theorem strK_str (s : Str) (k : Str → Prop) : strK (.str s) k ↔ k s := ⟨fun ⟨_, e, q⟩ => by cases e; exact q, fun q => ⟨s, rfl, q⟩⟩
end C
namespace C
open PySem PySem.Spec PyProof.Rows L2 PD Od
theorem FP_mixedL {ns : List Int} {a b c : Int} (l : List Nat) {Q : D → List (List D) → Prop} (r : RowOk a b) (hn : l.length ≤ 100) (h : ∀ (o : List Nat) (a' b' c' : Int), RowOk a' b' → l.Perm o → Q (.lst (natD o)) [rowD ns a' b' c']) :
    FP F__law_mixed [.obj 0, .lst (natD l)] [rowD ns a b c] Q := by
  obtain ⟨ys, a', b', c', hmix, r4, hperm⟩ := F__law_mixed_q ns r (c := c) (natD l) (by rw [natD_len]; omega)
  obtain ⟨o, rfl, hpm⟩ := perm_natD hperm
  exact FP.mk hmix (h o a' b' c' r4 hpm)
end C
namespace C
open PySem PySem.Spec PyProof.Rows L2 PD Od
section
variable {m : M}
theorem FP_cut {F : Fd} {ds : List D} {obs : List (List D)} {Q : D → List (List D) → Prop} (h : FP F ds obs fun r o => r.noOb = true ∧ (o.take obs.length).all D.noObs = true ∧ Q r (o.take obs.length)) : FP (cutF F) ds obs Q := by
  obtain ⟨r, o, e, h1, h2, q⟩ := h
  refine ⟨r, o.take obs.length, ?_, q⟩
  unfold cutF
  rw [e]
  dsimp only
  rw [h1, h2]
  rfl
theorem wq_eNewOb (f : Co D) (Q : D → M → Prop) : WQ (eNewOb f) m Q ↔ WQ f m fun d m1 => ∃ ds, d = .lst ds ∧ Q (.obj m1.obs.length) ⟨m1.env, m1.obs ++ [ds]⟩ := by
  unfold eNewOb
  rw [wq_bind]
  refine ⟨fun h => WQ.mono h fun d m1 q => ?_, fun h => WQ.mono h fun d m1 q => ?_⟩
  · obtain ⟨a, m2, e, q⟩ := q
    cases d <;> first
      | (cases e; done)
      | (cases e; exact ⟨_, rfl, q⟩)
  · obtain ⟨ds, rfl, q⟩ := q
    exact ⟨_, _, rfl, q⟩
@[simp ↓] theorem kp_eNewOb (f : Co D) (Q : D → M → Prop) : WP (eNewOb f) m Q ↔ WP f m fun d m1 => lstK d fun ds => stK ⟨m1.env, m1.obs ++ [ds]⟩ fun m2 => Q (.obj m1.obs.length) m2 := wq_eNewOb f Q
theorem wq_updO_obj (n : Nat) (h : List D → Option (List D)) (Q : Unit → M → Prop) : WQ (updO (.val (.obj n)) h) m Q ↔ ∃ ds, m.obs[n]? = some ds ∧ ∃ ds', h ds = some ds' ∧ Q () ⟨m.env, m.obs.set n ds'⟩ := by
  constructor
  · rintro ⟨a, m1, e, q⟩
    unfold updO at e
    simp only at e
    split at e
    · rename_i ds h1
      split at e
      · rename_i ds' h2
        cases e; exact ⟨_, h1, _, h2, q⟩
      · cases e
    · cases e
  · rintro ⟨ds, h1, ds', h2, q⟩
    refine ⟨_, _, ?_, q⟩
    unfold updO
    simp only [h1, h2]
@[simp ↓] theorem kp_updO_obj (n : Nat) (h : List D → Option (List D)) (Q : Unit → M → Prop) : WP (updO (.val (.obj n)) h) m Q ↔ optK m.obs[n]? fun ds => optK (h ds) fun ds' => stK ⟨m.env, m.obs.set n ds'⟩ fun m2 => Q () m2 := wq_updO_obj n h Q
theorem wp_laug {op : Int → Int → Int} {i : Nat} {fi fe : Co D} {Q : Flow' → M → Prop} {ds : List D} {j : Nat} {u w : Int} (h1 : m.env[i]? = some (.ow (.lst ds))) (h2 : fi m = .ok (.int (j : Int)) m) (hj : j < 1000) (h3 : ds[j]? = some (.int u)) (h4 : fe m = .ok (.int w) m)
    (q : Q .nx ⟨m.env.set i (.ow (.lst (ds.set j (.int (op u w))))), m.obs⟩) : WP (sLAug op (vAny i) fi fe) m Q := by
  refine WP.of ?_ q
  have hlt : j < ds.length := (List.getElem?_eq_some_iff.mp h3).1
  have hs : (vAny i) m = .ok (.slot i) m := by unfold vAny; rw [h1]
  unfold sLAug
  rw [bind_ap, hs]
  dsimp only
  rw [bind_ap, h2]
  dsimp only
  rw [if_pos ⟨by omega, by omega⟩]
  have hg : Opd.get m (.slot i) = some (.lst ds) := by unfold Opd.get; simp only [h1]
  rw [hg]
  dsimp only
  rw [Int.toNat_natCast, h3]
  dsimp only
  rw [bind_ap, h4]
  dsimp only
  rw [bind_ap]
  have hu : updO (.slot i) (fun ds => if j < ds.length then some (ds.set j (.int (op u w))) else none) m = .ok () ⟨m.env.set i (.ow (.lst (ds.set j (.int (op u w))))), m.obs⟩ := by
    unfold updO
    simp only [h1, if_pos hlt]
  rw [hu]
  rfl
end
def lnD (a : List Nat) : D := .dk (a.map fun (n : Nat) => ((Sum.inl (n : Int) : Key), D.bl true))
theorem inl_dec (a b : Nat) : decide ((Sum.inl (a : Int) : Key) = Sum.inl (b : Int)) = decide (a = b) := by
  by_cases h : a = b
  · subst h; simp
  · rw [decide_eq_false h, decide_eq_false]
    intro z
    have : (a : Int) = (b : Int) := Sum.inl.inj z
    omega
theorem valD_ln (a : List Nat) (x : Nat) : valD (a.map fun (n : Nat) => ((Sum.inl (n : Int) : Key), D.bl true)) (Sum.inl (x : Int)) = if a.contains x = true then some (.bl true) else none := by
  induction a with
  | nil => rfl
  | cons b a ih =>
    unfold valD at ih ⊢
    rw [List.map_cons, List.find?_cons]
    simp only [inl_dec]
    by_cases h : b = x
    · subst h; simp
    · rw [decide_eq_false h]
      refine Eq.trans ih ?_
      have : (b :: a).contains x = a.contains x := by
        rw [List.contains_cons]
        have : (x == b) = false := beq_eq_false_iff_ne.mpr fun e => h e.symm
        rw [this, Bool.false_or]
      rw [this]
theorem dget_ln (a : List Nat) (x : Nat) : dgetD (lnD a) (.int (x : Int)) = some (if a.contains x = true then some (.bl true) else none) := by
  show (keyD (.int (x : Int))).map _ = _
  show some (valD _ (Sum.inl (x : Int))) = _
  rw [valD_ln]
theorem notIn_ln (a : List Nat) (x : Nat) : notInU (.int (x : Int)) (lnD a) = some (.bl (!a.contains x)) := by
  show dninD (.int (x : Int)) (lnD a) = _
  unfold dninD
  rw [dget_ln]
  cases a.contains x <;> rfl
theorem in_ln (a : List Nat) (x : Nat) : inU (.int (x : Int)) (lnD a) = some (.bl (a.contains x)) := by
  show dinD (.int (x : Int)) (lnD a) = _
  unfold dinD
  rw [dget_ln]
  cases a.contains x <;> rfl
theorem any_ln (a : List Nat) (x : Nat) : ((a.map fun (n : Nat) => ((Sum.inl (n : Int) : Key), D.bl true)).any fun kv => decide (kv.1 = Sum.inl (x : Int))) = a.contains x := by
  rw [List.any_map, List.contains_eq_any_beq]
  congr 1
  funext n
  show decide ((Sum.inl (n : Int) : Key) = Sum.inl (x : Int)) = (x == n)
  rw [inl_dec, beq_dec]
  by_cases h : n = x
  · subst h; rfl
  · rw [decide_eq_false h, decide_eq_false fun e => h e.symm]
theorem put_ln {a : List Nat} {x : Nat} (h : a.contains x = false) (hz : a.length < 1000) : putDD (.int (x : Int)) (.bl true) (lnD a) = some (lnD (a ++ [x])) := by
  show (if (a.map fun (n : Nat) => ((Sum.inl (n : Int) : Key), D.bl true)).length < sizeLine then some (D.dk (putD (a.map fun (n : Nat) => ((Sum.inl (n : Int) : Key), D.bl true)) (Sum.inl (x : Int)) (.bl true))) else none) = _
  rw [if_pos (by rw [List.length_map]; exact lt_size _ (by omega))]
  unfold putD
  rw [any_ln, h]
  simp only [Bool.false_eq_true, if_false]
  unfold lnD
  rw [List.map_append]
  rfl
end C
namespace C
open PySem PySem.Spec PyProof.Rows L2 PD Od
structure Enc {α : Type} [DecidableEq α] (f : α → D) (g : α → PyData) (d : Nat) : Prop where
  p : ∀ x, (f x).toP = some (g x)
  l : ∀ x, (g x).canLay0 = true
  d : ∀ x, (g x).depth ≤ d
  e : ∀ x y, PyData.eqv (g x) (g y) = decide (x = y)
section
variable {α β : Type} [DecidableEq α] [DecidableEq β] {f f' : α → D} {g : α → PyData} {f2 : β → D} {g2 : β → PyData} {d d' d2 : Nat}
theorem Enc.int : Enc (fun i : Int => D.int i) (fun i => PyData.int i) 0 := ⟨fun _ => rfl, fun _ => rfl, fun _ => Nat.le_refl _, fun x y => by show (x == y) = _; rw [beq_dec]⟩
theorem Enc.nat : Enc (fun i : Nat => D.int (i : Int)) (fun i => PyData.int (i : Int)) 0 := ⟨fun _ => rfl, fun _ => rfl, fun _ => Nat.le_refl _, fun x y => by
  show ((x : Int) == (y : Int)) = _
  rw [beq_dec]
  by_cases h : x = y
  · subst h; simp
  · rw [decide_eq_false h, decide_eq_false (by omega)]⟩
theorem Enc.ps (h : Enc f g d) : ∀ xs : List α, D.toPs (xs.map f) = some (xs.map g)
  | [] => rfl
  | x :: xs => by
    rw [List.map_cons, List.map_cons]
    show ((f x).toP).bind _ = _
    rw [h.p]
    show (D.toPs (xs.map f)).map _ = _
    rw [h.ps xs]
    rfl
theorem Enc.ls (h : Enc f g d) : ∀ xs : List α, PyData.canLayAll0 (xs.map g) = true
  | [] => rfl
  | x :: xs => by rw [List.map_cons]; show (PyData.canLay0 (g x) && _) = true; rw [h.l, h.ls xs]; rfl
theorem Enc.ds (h : Enc f g d) : ∀ xs : List α, PyData.depthAll (xs.map g) ≤ d
  | [] => Nat.zero_le _
  | x :: xs => by rw [List.map_cons]; show max (PyData.depth (g x)) _ ≤ d; exact Nat.max_le.mpr ⟨h.d x, h.ds xs⟩
theorem Enc.es (h : Enc f g d) : ∀ xs ys : List α, PyData.eqvAll (xs.map g) (ys.map g) = decide (xs = ys)
  | [], [] => rfl
  | [], y :: ys => by rw [decide_eq_false (fun z => nomatch z)]; rfl
  | x :: xs, [] => by rw [decide_eq_false (fun z => nomatch z)]; rfl
  | x :: xs, y :: ys => by
    rw [List.map_cons, List.map_cons]
    show (PyData.eqv (g x) (g y) && _) = _
    rw [h.e, h.es xs ys]
    by_cases h1 : x = y
    · by_cases h2 : xs = ys
      · subst h1 h2; simp
      · rw [decide_eq_true h1, decide_eq_false h2, decide_eq_false (fun z => h2 (List.cons.inj z).2)]; rfl
    · rw [decide_eq_false h1, decide_eq_false (fun z => h1 (List.cons.inj z).1)]; rfl
theorem Enc.lst (h : Enc f g d) : Enc (fun xs : List α => D.lst (xs.map f)) (fun xs => PyData.list (xs.map g)) (d + 1) :=
  ⟨fun xs => by show (D.toPs _).map _ = _; rw [h.ps]; rfl, fun xs => h.ls xs, fun xs => Nat.succ_le_succ (h.ds xs), fun xs ys => h.es xs ys⟩
theorem Enc.tup (h : Enc f g d) : Enc (fun xs : List α => D.tup (xs.map f)) (fun xs => PyData.tuple (xs.map g)) (d + 1) :=
  ⟨fun xs => by show (D.toPs _).map _ = _; rw [h.ps]; rfl, fun xs => h.ls xs, fun xs => Nat.succ_le_succ (h.ds xs), fun xs ys => h.es xs ys⟩
theorem Enc.xt (h : Enc f g d) : Enc (fun xs : List α => D.xt (xs.map f)) (fun xs => PyData.tuple (xs.map g)) (d + 1) :=
  ⟨fun xs => by show (D.toPs _).map _ = _; rw [h.ps]; rfl, fun xs => h.ls xs, fun xs => Nat.succ_le_succ (h.ds xs), fun xs ys => h.es xs ys⟩
theorem Enc.pair (h : Enc f g d) (h2 : Enc f2 g2 d2) : Enc (fun p : α × β => D.tup [f p.1, f2 p.2]) (fun p => PyData.tuple [g p.1, g2 p.2]) (max d d2 + 1) :=
  ⟨fun p => by
    show (D.toPs [f p.1, f2 p.2]).map _ = _
    show (((f p.1).toP).bind fun a => (((f2 p.2).toP).bind fun b => (some []).map fun ps => b :: ps).map fun ps => a :: ps).map _ = _
    rw [h.p, h2.p]; rfl,
   fun p => by show (PyData.canLay0 (g p.1) && (PyData.canLay0 (g2 p.2) && true)) = true; rw [h.l, h2.l]; rfl,
   fun p => by
    show max (PyData.depth (g p.1)) (max (PyData.depth (g2 p.2)) 0) + 1 ≤ _
    have := h.d p.1
    have := h2.d p.2
    omega,
   fun p q => by
    show (PyData.eqv (g p.1) (g q.1) && (PyData.eqv (g2 p.2) (g2 q.2) && true)) = _
    rw [h.e, h2.e]
    obtain ⟨a, b⟩ := p
    obtain ⟨c, e⟩ := q
    by_cases h1 : a = c <;> by_cases h3 : b = e <;> simp [h1, h3]⟩
theorem Enc.eqD2 (h : Enc f g d) (h' : Enc f' g d') (hz : d ≤ 64) (hz' : d' ≤ 64) (x y : α) : eqD (f x) (f' y) = some (.bl (decide (x = y))) := by
  unfold eqD
  rw [eqB_of (h.p x) (h'.p y) (h.l x) (h.l y) (Nat.le_trans (h.d x) hz) (Nat.le_trans (h.d y) hz), h.e]
  rfl
theorem Enc.neD2 (h : Enc f g d) (h' : Enc f' g d') (hz : d ≤ 64) (hz' : d' ≤ 64) (x y : α) : neD (f x) (f' y) = some (.bl (!decide (x = y))) := by
  unfold neD
  rw [eqB_of (h.p x) (h'.p y) (h.l x) (h.l y) (Nat.le_trans (h.d x) hz) (Nat.le_trans (h.d y) hz), h.e]
  rfl
end
theorem eqD_tupN (a b : List Nat) : eqD (tupN a) (tupN b) = some (.bl (decide (a = b))) := Enc.nat.tup.eqD2 Enc.nat.tup (by decide) (by decide) a b
theorem wp_dput {i : Nat} {fi fe : Co D} {Q : Flow' → M → Prop} {m : M} {d k dd d' : D} (h1 : m.env[i]? = some (.ow dd)) (h2 : fe m = .ok d m) (h3 : fi m = .ok k m) (h4 : putDD k d dd = some d') (q : Q .nx ⟨m.env.set i (.ow d'), m.obs⟩) : WP (sPut (vAny i) fi fe) m Q := by
  refine kp_dput _ _ _ _ (WP.of h2 ?_)
  rw [h1, anyK_ow]
  refine WP.of h3 ?_
  rw [h1, putK_ow, h4, optK_some, stK_ap]
  exact ⟨⟨_, rfl⟩, q⟩
end C
namespace C
open PySem PySem.Spec PyProof.Rows L2 PD
def insN (x : Nat) : List Nat → List Nat
  | [] => [x]
  | y :: ys => if x ≤ y then x :: y :: ys else y :: insN x ys
def sortN : List Nat → List Nat
  | [] => []
  | x :: xs => insN x (sortN xs)
theorem insN_perm (x : Nat) : ∀ ys : List Nat, (insN x ys).Perm (x :: ys)
  | [] => .refl _
  | y :: ys => by
    unfold insN
    split
    · exact .refl _
    · exact ((insN_perm x ys).cons y).trans (.swap x y ys)
theorem sortN_perm : ∀ xs : List Nat, (sortN xs).Perm xs
  | [] => .refl _
  | x :: xs => (insN_perm x (sortN xs)).trans ((sortN_perm xs).cons x)
theorem insN_sorted {x : Nat} : ∀ {ys : List Nat}, ys.Pairwise (· ≤ ·) → (insN x ys).Pairwise (· ≤ ·)
  | [], _ => by simp [insN]
  | y :: ys, h => by
    unfold insN
    obtain ⟨h1, h2⟩ := List.pairwise_cons.mp h
    split
    · rename_i hx
      exact List.pairwise_cons.mpr ⟨fun a ha => (List.mem_cons.mp ha).elim (fun e => e ▸ hx) fun ha => Nat.le_trans hx (h1 a ha), h⟩
    · rename_i hx
      refine List.pairwise_cons.mpr ⟨fun a ha => ?_, insN_sorted h2⟩
      rcases List.mem_cons.mp ((insN_perm x ys).subset ha) with rfl | ha
      · omega
      · exact h1 a ha
theorem sortN_sorted : ∀ xs : List Nat, (sortN xs).Pairwise (· ≤ ·)
  | [] => .nil
  | x :: xs => insN_sorted (sortN_sorted xs)
theorem sorted_uniq : ∀ {a b : List Nat}, a.Perm b → a.Pairwise (· ≤ ·) → b.Pairwise (· ≤ ·) → a = b
  | [], b, p, _, _ => (List.nil_perm.mp p).symm
  | x :: a, [], p, _, _ => by have := p.length_eq; simp at this
  | x :: a, y :: b, p, ha, hb => by
    obtain ⟨h1, h2⟩ := List.pairwise_cons.mp ha
    obtain ⟨h3, h4⟩ := List.pairwise_cons.mp hb
    have e : x = y := by
      have hx : x ∈ y :: b := p.subset (List.mem_cons_self ..)
      have hy : y ∈ x :: a := p.symm.subset (List.mem_cons_self ..)
      rcases List.mem_cons.mp hx with e | hx
      · exact e
      · rcases List.mem_cons.mp hy with e | hy
        · exact e.symm
        · exact Nat.le_antisymm (h1 y hy) (h3 x hx)
    subst e
    rw [sorted_uniq (List.perm_cons x |>.mp p) h2 h4]
theorem sortN_eq {a b : List Nat} (p : a.Perm b) : sortN a = sortN b := sorted_uniq ((sortN_perm a).trans (p.trans (sortN_perm b).symm)) (sortN_sorted a) (sortN_sorted b)
theorem sortN_rev (a : List Nat) : sortN (sortN a).reverse = sortN a := sortN_eq ((List.reverse_perm _).trans (sortN_perm a))
theorem sortN_len (a : List Nat) : (sortN a).length = a.length := (sortN_perm a).length_eq
theorem insN_cast (x : Nat) : ∀ ys : List Nat, (insN x ys).map (fun (n : Nat) => (n : Int)) = insI (x : Int) (ys.map fun (n : Nat) => (n : Int))
  | [] => rfl
  | y :: ys => by
    unfold insN
    rw [List.map_cons]
    unfold insI
    by_cases h : x ≤ y
    · rw [if_pos h, if_pos (by omega)]; rfl
    · rw [if_neg h, if_neg (by omega), List.map_cons, insN_cast x ys]
theorem sortN_cast : ∀ xs : List Nat, (sortN xs).map (fun (n : Nat) => (n : Int)) = sortI (xs.map fun (n : Nat) => (n : Int))
  | [] => rfl
  | x :: xs => by
    rw [List.map_cons]
    show (insN x (sortN xs)).map _ = insI x (sortI _)
    rw [insN_cast, sortN_cast xs]
theorem sortedID_N (o : List Nat) (h : o.length < 64) : sortedID [.lst (natD o)] = some (.lst (natD (sortN o))) := by
  rw [natD_ints, natD_ints (sortN o), sortN_cast]
  show (toInts _).bind _ = _
  rw [toInts_map, Option.bind_some, if_pos (by rw [List.length_map]; exact h)]
def rowsN (R : Nat) (l : List Nat) : Nat := (l.filter (· < R)).length
def colsN (R : Nat) (l : List Nat) : Nat := (l.filter (fun x => !decide (x < R))).length
theorem rowsN_app (R : Nat) (a b : List Nat) : rowsN R (a ++ b) = rowsN R a + rowsN R b := by unfold rowsN; rw [List.filter_append, List.length_append]
theorem colsN_app (R : Nat) (a b : List Nat) : colsN R (a ++ b) = colsN R a + colsN R b := by unfold colsN; rw [List.filter_append, List.length_append]
theorem rowsN_perm (R : Nat) {a b : List Nat} (p : a.Perm b) : rowsN R a = rowsN R b := (p.filter _).length_eq
theorem colsN_perm (R : Nat) {a b : List Nat} (p : a.Perm b) : colsN R a = colsN R b := (p.filter _).length_eq
theorem rows_cols (R : Nat) : ∀ a : List Nat, rowsN R a + colsN R a = a.length
  | [] => rfl
  | x :: a => by
    have ih := rows_cols R a
    have e : x :: a = [x] ++ a := rfl
    rw [e, rowsN_app, colsN_app, List.length_append]
    by_cases h : x < R
    · have h1 : rowsN R [x] = 1 := by simp [rowsN, h]
      have h2 : colsN R [x] = 0 := by simp [colsN, h]
      rw [h1, h2]; simp; omega
    · have h1 : rowsN R [x] = 0 := by simp [rowsN, h]
      have h2 : colsN R [x] = 1 := by simp [colsN, h]
      rw [h1, h2]; simp; omega
theorem rowsN_all {R : Nat} {a : List Nat} (h : ∀ x ∈ a, x < R) : rowsN R a = a.length ∧ colsN R a = 0 := by
  have : rowsN R a = a.length := by unfold rowsN; rw [List.filter_eq_self.mpr fun x hx => by simpa using h x hx]
  have := rows_cols R a
  omega
theorem colsN_all {R : Nat} {a : List Nat} (h : ∀ x ∈ a, ¬ x < R) : colsN R a = a.length ∧ rowsN R a = 0 := by
  have : colsN R a = a.length := by unfold colsN; rw [List.filter_eq_self.mpr fun x hx => by simpa using h x hx]
  have := rows_cols R a
  omega
def okG (R C : Nat) (G : List (List Nat)) (l : Nat) : Bool := !G.flatten.contains l && (decide (rowsN R G.flatten < R) && decide (colsN R G.flatten < C))
def headN (g : List Nat) : Nat := g.headD 0
def addG (R : Nat) : List (List Nat) → Nat → List (List Nat)
  | g :: G, l => if decide (headN g < R) = decide (l < R) then (g ++ [l]) :: G else [l] :: g :: G
  | [], l => [[l]]
theorem addG_nil (R l : Nat) : addG R [] l = [[l]] := rfl
theorem addG_cons (R : Nat) (g : List Nat) (G : List (List Nat)) (l : Nat) : addG R (g :: G) l = if decide (headN g < R) = decide (l < R) then (g ++ [l]) :: G else [l] :: g :: G := rfl
def stepG (R C : Nat) (G : List (List Nat)) (l : Nat) : List (List Nat) := if okG R C G l = true then addG R G l else G
def scanG (R C : Nat) (ls : List Nat) : List (List Nat) := ls.foldl (stepG R C) []
def flatS (G : List (List Nat)) : List Nat := (G.map sortN).flatten
def norm (R C : Nat) (ls : List Nat) : List Nat := flatS (scanG R C ls.reverse)
def VG (R C : Nat) : List (List Nat) → Prop
  | [] => True
  | g :: G => VG R C G ∧ g ≠ [] ∧ (∀ x ∈ g, decide (x < R) = decide (headN g < R)) ∧ (∀ h ∈ G.head?, decide (headN h < R) ≠ decide (headN g < R)) ∧ (g ++ G.flatten).Nodup ∧
    (headN g < R → rowsN R G.flatten + g.length ≤ R ∧ colsN R G.flatten < C) ∧ (¬ headN g < R → colsN R G.flatten + g.length ≤ C ∧ rowsN R G.flatten < R) ∧ ∀ x ∈ g, x < R + C
theorem addG_flat (R : Nat) (G : List (List Nat)) (l : Nat) : (addG R G l).flatten.Perm (l :: G.flatten) := by
  cases G with
  | nil => exact .refl _
  | cons g G =>
    rw [addG_cons]
    split
    · rw [List.flatten_cons, List.flatten_cons, List.append_assoc]
      exact (List.perm_middle (a := l) (l₁ := g) (l₂ := G.flatten))
    · rw [List.flatten_cons]; exact .refl _
theorem VG.nodup {R C : Nat} : ∀ {G : List (List Nat)}, VG R C G → G.flatten.Nodup
  | [], _ => .nil
  | g :: G, h => by rw [List.flatten_cons]; exact h.2.2.2.2.1
theorem VG.lt {R C : Nat} : ∀ {G : List (List Nat)}, VG R C G → ∀ x ∈ G.flatten, x < R + C
  | [], _, x, hx => by cases hx
  | g :: G, h, x, hx => by
    rw [List.flatten_cons] at hx
    rcases List.mem_append.mp hx with hx | hx
    · exact h.2.2.2.2.2.2.2 x hx
    · exact VG.lt h.1 x hx
theorem VG.ne {R C : Nat} : ∀ {G : List (List Nat)}, VG R C G → ∀ g ∈ G, g ≠ []
  | [], _, g, hg => by cases hg
  | a :: G, h, g, hg => by
    rcases List.mem_cons.mp hg with rfl | hg
    · exact h.2.1
    · exact VG.ne h.1 g hg
theorem VG.same {R C : Nat} : ∀ {G : List (List Nat)}, VG R C G → ∀ g ∈ G, ∀ z ∈ g, decide (z < R) = decide (headN g < R)
  | [], _, g, hg, z, hz => by cases hg
  | a :: G, h, g, hg, z, hz => by
    rcases List.mem_cons.mp hg with rfl | hg
    · exact h.2.2.1 z hz
    · exact VG.same h.1 g hg z hz
theorem headN_app {g : List Nat} (h : g ≠ []) (l : List Nat) : headN (g ++ l) = headN g := by
  cases g with
  | nil => exact absurd rfl h
  | cons a g => rfl
theorem VG.step {R C : Nat} {G : List (List Nat)} (h : VG R C G) {l : Nat} (hl : l < R + C) : VG R C (stepG R C G l) := by
  unfold stepG
  split
  · rename_i ok
    unfold okG at ok
    simp only [Bool.and_eq_true, Bool.not_eq_true', decide_eq_true_eq] at ok
    obtain ⟨o1, o2, o3⟩ := ok
    have o1 : l ∉ G.flatten := fun z => by
      have : G.flatten.contains l = true := List.contains_iff_mem.mpr z
      rw [o1] at this; cases this
    cases G with
    | nil =>
      refine ⟨trivial, by simp, ?_, by simp, by simp, ?_, ?_, ?_⟩
      · intro x hx; rw [List.mem_singleton] at hx; subst hx; rfl
      · intro _; exact ⟨by simp [rowsN] at o2 ⊢; omega, by simpa [colsN] using o3⟩
      · intro _; exact ⟨by simp [colsN] at o3 ⊢; omega, by simpa [rowsN] using o2⟩
      · intro x hx; rw [List.mem_singleton] at hx; subst hx; exact hl
    | cons g G =>
      obtain ⟨v, g0, gs, gh, gn, gr, gc, gb⟩ := h
      rw [List.flatten_cons] at o1 o2 o3
      rw [rowsN_app] at o2
      rw [colsN_app] at o3
      rw [addG_cons]
      split
      · rename_i same
        have hh := headN_app g0 [l]
        have hp : (g ++ [l] ++ G.flatten).Perm (l :: (g ++ G.flatten)) := by
          rw [List.append_assoc]
          exact List.perm_middle
        refine ⟨v, by simp, ?_, ?_, hp.nodup_iff.mpr (List.nodup_cons.mpr ⟨o1, gn⟩), ?_, ?_, ?_⟩
        · intro x hx
          rw [hh]
          rcases List.mem_append.mp hx with hx | hx
          · exact gs x hx
          · rw [List.mem_singleton] at hx; subst hx; exact same.symm
        · rw [hh]; exact gh
        · rw [hh]
          intro hr
          obtain ⟨r1, r2⟩ := gr hr
          have := (rowsN_all (R := R) (a := g) fun x hx => by have := gs x hx; rw [decide_eq_true hr] at this; exact of_decide_eq_true this).1
          rw [List.length_append, List.length_singleton]
          exact ⟨by omega, r2⟩
        · rw [hh]
          intro hr
          obtain ⟨r1, r2⟩ := gc hr
          have := (colsN_all (R := R) (a := g) fun x hx => by have := gs x hx; rw [decide_eq_false hr] at this; exact of_decide_eq_false this).1
          rw [List.length_append, List.length_singleton]
          exact ⟨by omega, r2⟩
        · intro x hx
          rcases List.mem_append.mp hx with hx | hx
          · exact gb x hx
          · rw [List.mem_singleton] at hx; subst hx; exact hl
      · rename_i diff
        refine ⟨⟨v, g0, gs, gh, gn, gr, gc, gb⟩, by simp, ?_, ?_, (by rw [List.flatten_cons]; exact List.nodup_cons.mpr ⟨o1, gn⟩), ?_, ?_, ?_⟩
        · intro x hx; rw [List.mem_singleton] at hx; subst hx; rfl
        · intro h hh
          rw [List.head?_cons] at hh
          cases hh
          exact diff
        · intro _
          rw [List.flatten_cons, rowsN_app, colsN_app, List.length_singleton]
          exact ⟨by omega, o3⟩
        · intro _
          rw [List.flatten_cons, rowsN_app, colsN_app, List.length_singleton]
          exact ⟨by omega, o2⟩
        · intro x hx; rw [List.mem_singleton] at hx; subst hx; exact hl
  · exact h
theorem VG.scan {R C : Nat} {ls : List Nat} (hl : ∀ x ∈ ls, x < R + C) : ∀ {G : List (List Nat)}, VG R C G → VG R C (ls.foldl (stepG R C) G) := by
  induction ls with
  | nil => exact fun h => h
  | cons l ls ih => exact fun h => ih (fun x hx => hl x (List.mem_cons_of_mem _ hx)) (h.step (hl l (List.mem_cons_self ..)))
theorem scanG_VG {R C : Nat} {ls : List Nat} (hl : ∀ x ∈ ls, x < R + C) : VG R C (scanG R C ls.reverse) := VG.scan (fun x hx => hl x (List.mem_reverse.mp hx)) trivial
theorem flatS_perm (G : List (List Nat)) : (flatS G).Perm G.flatten := by
  unfold flatS
  induction G with
  | nil => exact .refl _
  | cons g G ih => rw [List.map_cons, List.flatten_cons, List.flatten_cons]; exact (sortN_perm g).append ih
theorem headN_mem {g : List Nat} (h : g ≠ []) : headN g ∈ g := by
  cases g with
  | nil => exact absurd rfl h
  | cons a g => exact List.mem_cons_self ..
theorem scan_more {R C : Nat} {G : List (List Nat)} : ∀ {t a : List Nat}, a ≠ [] → VG R C ((a ++ t) :: G) → t.foldl (stepG R C) (a :: G) = (a ++ t) :: G
  | [], a, _, _ => by rw [List.append_nil]; rfl
  | x :: t, a, ha, h => by
    obtain ⟨v, g0, gs, gh, gn, gr, gc, gb⟩ := h
    have hh := headN_app ha (x :: t)
    rw [hh] at gs gh gr gc
    have hs : stepG R C (a :: G) x = (a ++ [x]) :: G := by
      have hx := gs x (by simp)
      have nx : x ∉ a ++ G.flatten := by
        intro z
        rw [List.append_assoc, List.nodup_append] at gn
        obtain ⟨_, n2, n3⟩ := gn
        rcases List.mem_append.mp z with z | z
        · exact n3 x z x (by simp) rfl
        · rw [List.cons_append, List.nodup_cons] at n2
          exact n2.1 (List.mem_append_right _ z)
      unfold stepG
      rw [if_pos]
      · rw [addG_cons, if_pos hx.symm]
      · unfold okG
        rw [List.flatten_cons, rowsN_app, colsN_app]
        have nc : (a ++ G.flatten).contains x = false := by
          cases q : (a ++ G.flatten).contains x with
          | false => rfl
          | true => exact absurd (List.contains_iff_mem.mp q) nx
        rw [nc]
        simp only [Bool.not_false, Bool.true_and, Bool.and_eq_true, decide_eq_true_eq]
        rw [List.length_append, List.length_cons] at gr gc
        by_cases hr : headN a < R
        · obtain ⟨r1, r2⟩ := gr hr
          have := rowsN_all (R := R) (a := a) fun y hy => by have := gs y (by simp [hy]); rw [decide_eq_true hr] at this; exact of_decide_eq_true this
          omega
        · obtain ⟨r1, r2⟩ := gc hr
          have := colsN_all (R := R) (a := a) fun y hy => by have := gs y (by simp [hy]); rw [decide_eq_false hr] at this; exact of_decide_eq_false this
          omega
    rw [List.foldl_cons, hs]
    have e : a ++ x :: t = (a ++ [x]) ++ t := by rw [List.append_assoc]; rfl
    rw [e]
    refine scan_more (by simp) ?_
    rw [← e]
    refine ⟨v, g0, ?_, ?_, gn, ?_, ?_, gb⟩
    · rw [hh]; exact gs
    · rw [hh]; exact gh
    · rw [hh]; exact gr
    · rw [hh]; exact gc
theorem scan_group {R C : Nat} {G : List (List Nat)} {g : List Nat} (h : VG R C (g :: G)) : g.foldl (stepG R C) G = g :: G := by
  cases g with
  | nil => exact absurd rfl h.2.1
  | cons x t =>
    have h0 := h
    obtain ⟨v, g0, gs, gh, gn, gr, gc, gb⟩ := h
    have hh : headN (x :: t) = x := rfl
    rw [hh] at gs gh gr gc
    rw [List.length_cons] at gr gc
    have hs : stepG R C G x = [x] :: G := by
      unfold stepG
      rw [if_pos]
      · cases G with
        | nil => rfl
        | cons b G =>
          rw [addG_cons, if_neg (gh b rfl)]
      · unfold okG
        have nx : x ∉ G.flatten := by
          rw [List.cons_append, List.nodup_cons] at gn
          exact fun z => gn.1 (List.mem_append_right _ z)
        have nc : G.flatten.contains x = false := by
          cases q : G.flatten.contains x with
          | false => rfl
          | true => exact absurd (List.contains_iff_mem.mp q) nx
        rw [nc]
        simp only [Bool.not_false, Bool.true_and, Bool.and_eq_true, decide_eq_true_eq]
        by_cases hr : x < R
        · have := gr hr; omega
        · have := gc hr; omega
    rw [List.foldl_cons, hs]
    exact scan_more (a := [x]) (by simp) h0
theorem VG.map {R C : Nat} (f : List Nat → List Nat) (hf : ∀ g, (f g).Perm g) : ∀ {G : List (List Nat)}, VG R C G → VG R C (G.map f)
  | [], _ => trivial
  | g :: G, h => by
    obtain ⟨v, g0, gs, gh, gn, gr, gc, gb⟩ := h
    have fl : ∀ G : List (List Nat), (G.map f).flatten.Perm G.flatten := fun G => by
      induction G with
      | nil => exact .refl _
      | cons g G ih => rw [List.map_cons, List.flatten_cons, List.flatten_cons]; exact (hf g).append ih
    have ne : ∀ g : List Nat, g ≠ [] → f g ≠ [] := fun g h z => h (by have := (hf g).length_eq; rw [z] at this; exact List.eq_nil_of_length_eq_zero this.symm)
    have hd : decide (headN (f g) < R) = decide (headN g < R) := gs _ ((hf g).subset (headN_mem (ne g g0)))
    have hd2 : headN (f g) < R ↔ headN g < R := by rw [← decide_eq_true_iff (p := headN (f g) < R), hd, decide_eq_true_iff]
    rw [List.map_cons]
    refine ⟨v.map f hf, ne g g0, fun x hx => ?_, fun b hb => ?_, ((hf g).append (fl G)).nodup_iff.mpr gn, fun hr => ?_, fun hr => ?_, fun x hx => gb x ((hf g).subset hx)⟩
    · rw [hd]; exact gs x ((hf g).subset hx)
    · rw [hd]
      cases G with
      | nil => cases hb
      | cons c G =>
        rw [List.map_cons, List.head?_cons] at hb
        cases hb
        have hc : decide (headN (f c) < R) = decide (headN c < R) := v.2.2.1 _ ((hf c).subset (headN_mem (ne c v.2.1)))
        rw [hc]
        exact gh c rfl
    · rw [rowsN_perm R (fl G), colsN_perm R (fl G), (hf g).length_eq]; exact gr (hd2.mp hr)
    · rw [rowsN_perm R (fl G), colsN_perm R (fl G), (hf g).length_eq]; exact gc fun z => hr (hd2.mpr z)
theorem scan_flat {R C : Nat} : ∀ {G : List (List Nat)}, VG R C G → scanG R C (G.reverse.flatten) = G
  | [], _ => rfl
  | g :: G, h => by
    have ih := scan_flat h.1
    unfold scanG at ih ⊢
    rw [List.reverse_cons, List.flatten_append, List.foldl_append, ih]
    show ([g].flatten).foldl _ _ = _
    rw [List.flatten_singleton]
    exact scan_group h
theorem norm_VG {R C : Nat} {G : List (List Nat)} (h : VG R C G) : norm R C (flatS G) = flatS G := by
  have hv := h.map (fun g => (sortN g).reverse) fun g => (List.reverse_perm _).trans (sortN_perm g)
  have e : (flatS G).reverse = (G.map fun g => (sortN g).reverse).reverse.flatten := by
    unfold flatS
    rw [List.reverse_flatten, List.map_map]
    rfl
  unfold norm
  rw [e, scan_flat hv]
  unfold flatS
  rw [List.map_map]
  congr 1
  exact List.map_congr_left fun g _ => sortN_rev g
theorem norm_norm {R C : Nat} {ls : List Nat} (hl : ∀ x ∈ ls, x < R + C) : norm R C (norm R C ls) = norm R C ls := norm_VG (scanG_VG hl)
theorem norm_lt {R C : Nat} {ls : List Nat} (hl : ∀ x ∈ ls, x < R + C) : ∀ x ∈ norm R C ls, x < R + C := fun x hx => (scanG_VG hl).lt x ((flatS_perm _).subset hx)
theorem norm_nodup {R C : Nat} {ls : List Nat} (hl : ∀ x ∈ ls, x < R + C) : (norm R C ls).Nodup := (flatS_perm _).nodup_iff.mpr (scanG_VG hl).nodup
end C
namespace C
open PySem PySem.Spec PyProof.Rows L2 PD Od
def objs (n k : Nat) : List D := (List.range k).map fun i => D.obj (n + i)
theorem objs_succ (n k : Nat) : objs n (k + 1) = objs n k ++ [.obj (n + k)] := by unfold objs; rw [List.range_succ, List.map_append]; rfl
theorem objs_len (n k : Nat) : (objs n k).length = k := by unfold objs; simp
theorem sub_last (l : List D) (d : D) : subD' (.lst (l ++ [d])) (.int (-1)) = some d := by
  show ixD (.lst (l ++ [d])) (.int (-1)) = _
  show L2.atI (l ++ [d]) (-1) = _
  unfold L2.atI ixN
  rw [List.length_append, List.length_singleton]
  simp
  rw [if_pos (by omega), Option.bind_some]
  have : (-1 + ((l.length : Int) + 1)).toNat = l.length := by omega
  rw [this]
  simp
theorem get_last (obs L : List (List D)) (y : List D) : (obs ++ (L ++ [y]))[obs.length + L.length]? = some y := by
  rw [List.getElem?_append_right (by omega), List.getElem?_append_right (by omega)]
  simp
theorem set_last (obs L : List (List D)) (y z : List D) : (obs ++ (L ++ [y])).set (obs.length + L.length) z = obs ++ (L ++ [z]) := by
  rw [List.set_append_right _ _ (by omega), List.set_append_right _ _ (by omega)]
  simp
theorem negD1 : negD (.int 1) = some (.int (-1)) := rfl
section
variable {R C n : Nat} {s0 s1 s2 s4 s5 s7 s8 s9 : Slot} {obs : List (List D)} {Q : Flow' → M → Prop}
theorem wp_tail {G : List (List Nat)} (hg : ∀ g ∈ G, g ≠ []) (hz : ∀ g ∈ G, g.length < 1000) (hG : G.length < 1000) (x : Nat)
    (q : Q .nx ⟨[.pl (.int (R : Int)), s1, s2, .ow (.lst (objs obs.length (addG R G x).length)), s4, s5, .pl (.int (x : Int)), s7, s8, s9], obs ++ (addG R G x).reverse.map natD⟩) :
    WP (sIf (tAnd' (tB' (eOp neNilD (vAny 3) (vB (eLst (Co.ret []))))) (tB' (eOp eqD (vB (eOp ltI (vB (eOp subD' (vB (eOp subD' (vAny 3) (vB (un1 negD (Co.ret (.int 1)))))) (vB (Co.ret (.int 0))))) (vB (vPl 0)))) (vB (eOp ltI (vB (vPl 6)) (vB (vPl 0)))))))
      (sExpr (eAppend (vB (eOp subD' (vAny 3) (vB (un1 negD (Co.ret (.int 1)))))) (vPl 6)))
      (sExpr (eAppend (vAny 3) (eNewOb (eLst (eCons (vPl 6) (Co.ret []))))))) ⟨[.pl (.int (R : Int)), s1, s2, .ow (.lst (objs obs.length G.length)), s4, s5, .pl (.int (x : Int)), s7, s8, s9], obs ++ G.reverse.map natD⟩ Q := by
  have lz := objs_len obs.length G.length
  cases G with
  | nil =>
    have e1 : neNilD (.lst (objs obs.length ([] : List (List Nat)).length)) (.lst []) = some (.bl false) := rfl
    have e2 : (objs obs.length ([] : List (List Nat)).length).length < sizeLine := by rw [lz]; exact lt_size _ (by omega)
    have e3 : objs obs.length 0 ++ [.obj obs.length] = objs obs.length 1 := by rw [objs_succ]; rfl
    rw [addG_nil] at q
    have e3 : objs obs.length ([] : List (List Nat)).length ++ [.obj obs.length] = objs obs.length ([[x]] : List (List Nat)).length := e3
    generalize hp : objs obs.length ([] : List (List Nat)).length = P at *
    simp [e1]
    simp [e2, e3]
    exact q
  | cons g G =>
    have hg0 := hg g (List.mem_cons_self ..)
    have hgz := hz g (List.mem_cons_self ..)
    obtain ⟨y, t, rfl⟩ : ∃ y t, g = y :: t := by
      cases g with
      | nil => exact absurd rfl hg0
      | cons y t => exact ⟨y, t, rfl⟩
    have hob : obs ++ ((y :: t) :: G).reverse.map natD = obs ++ (G.reverse.map natD ++ [natD (y :: t)]) := by rw [List.reverse_cons, List.map_append]; rfl
    have hn : (G.reverse.map natD).length = G.length := by simp
    have hP : objs obs.length ((y :: t) :: G).length = objs obs.length G.length ++ [D.obj (obs.length + G.length)] := objs_succ ..
    have e1 : neNilD (.lst (objs obs.length ((y :: t) :: G).length)) (.lst []) = some (.bl true) := by
      rw [hP]
      show some (D.bl (!(objs obs.length G.length ++ [D.obj (obs.length + G.length)]).isEmpty)) = _
      simp
    have e2 : subD' (.lst (objs obs.length ((y :: t) :: G).length)) (.int (-1)) = some (.obj (obs.length + G.length)) := by rw [hP]; exact sub_last ..
    have e3 := get_last obs (G.reverse.map natD) (natD (y :: t))
    have e4 := set_last obs (G.reverse.map natD) (natD (y :: t)) (natD (y :: t) ++ [.int (x : Int)])
    rw [hn] at e3 e4
    have e5 : (objs obs.length ((y :: t) :: G).length).length < sizeLine := by rw [lz]; exact lt_size _ (by omega)
    have e6 : (natD (y :: t)).length < sizeLine := by unfold natD; rw [List.length_map]; exact lt_size _ (by omega)
    have e7 : subD' (.lst (natD (y :: t))) (.int 0) = some (.int (y : Int)) := by unfold natD; rw [List.map_cons]; exact sub_lst0 _ _
    have e8 : eqD (.bl (decide ((y : Int) < (R : Int)))) (.bl (decide ((x : Int) < (R : Int)))) = some (.bl (decide (decide (y < R) = decide (x < R)))) := by
      have h1 : decide ((y : Int) < (R : Int)) = decide (y < R) := by by_cases h : y < R <;> simp [h]
      have h2 : decide ((x : Int) < (R : Int)) = decide (x < R) := by by_cases h : x < R <;> simp [h]
      rw [h1, h2]
      cases decide (y < R) <;> cases decide (x < R) <;> rfl
    rw [hob]
    rw [addG_cons] at q
    generalize hPP : objs obs.length ((y :: t) :: G).length = P at *
    by_cases hs : decide (y < R) = decide (x < R)
    · have q2 : Q .nx ⟨[.pl (.int (R : Int)), s1, s2, .ow (.lst P), s4, s5, .pl (.int (x : Int)), s7, s8, s9], obs ++ (G.reverse.map natD ++ [natD (y :: t) ++ [.int (x : Int)]])⟩ := by
        rw [if_pos (show decide (headN (y :: t) < R) = decide (x < R) from hs)] at q
        rw [List.reverse_cons, List.map_append] at q
        have : ((((y :: t) ++ [x]) :: G).length) = ((y :: t) :: G).length := rfl
        rw [this, hPP] at q
        have e9 : [(y :: t) ++ [x]].map natD = [natD (y :: t) ++ [.int (x : Int)]] := by
          rw [List.map_cons, List.map_nil]
          unfold natD
          rw [List.map_append]; rfl
        rw [e9] at q
        exact q
      rw [decide_eq_true hs] at e8
      have hs2 : (y < R ↔ x < R) := decide_eq_decide.mp hs
      generalize G.reverse.map natD = L at *
      generalize natD (y :: t) = N at *
      generalize obs ++ (L ++ [N]) = O at *
      simp [e1, negD1, e2, e3, e7, e8, hs2]
      simp [e6, e4]
      exact q2
    · have q2 : Q .nx ⟨[.pl (.int (R : Int)), s1, s2, .ow (.lst (P ++ [.obj (obs.length + (G.length + 1))])), s4, s5, .pl (.int (x : Int)), s7, s8, s9], (obs ++ (G.reverse.map natD ++ [natD (y :: t)])) ++ [[.int (x : Int)]]⟩ := by
        rw [if_neg (show ¬ decide (headN (y :: t) < R) = decide (x < R) from hs)] at q
        have h1 : objs obs.length ([x] :: (y :: t) :: G).length = P ++ [.obj (obs.length + (G.length + 1))] := by
          show objs obs.length (((y :: t) :: G).length + 1) = _
          rw [objs_succ, hPP]; rfl
        have h2 : obs ++ ([x] :: (y :: t) :: G).reverse.map natD = (obs ++ (G.reverse.map natD ++ [natD (y :: t)])) ++ [[.int (x : Int)]] := by
          rw [List.reverse_cons, List.map_append, ← List.append_assoc, hob]; rfl
        rw [h1, h2] at q
        exact q
      rw [decide_eq_false hs] at e8
      have hol : (obs ++ (G.reverse.map natD ++ [natD (y :: t)])).length = obs.length + (G.length + 1) := by simp
      have hs2 : ¬ (y < R ↔ x < R) := fun z => hs (decide_eq_decide.mpr z)
      generalize G.reverse.map natD = L at *
      generalize natD (y :: t) = N at *
      generalize obs ++ (L ++ [N]) = O at *
      simp [e1, negD1, e2, e3, e7, e8, hs2]
      simp [e5, hol]
      exact q2
end
end C
namespace C
open PySem PySem.Spec PyProof.Rows L2 PD Od
theorem addG_rev (R : Nat) (G : List (List Nat)) (x : Nat) : (addG R G x).reverse.flatten = G.reverse.flatten ++ [x] := by
  cases G with
  | nil => rfl
  | cons g G =>
    rw [addG_cons]
    split
    · rw [List.reverse_cons, List.reverse_cons, List.flatten_append, List.flatten_append, List.append_assoc]
      congr 1
      simp
    · rw [List.reverse_cons, List.flatten_append]; simp
theorem rev_flat (G : List (List Nat)) : G.reverse.flatten.Perm G.flatten := (List.reverse_perm G).flatten
theorem okG_acc (R C : Nat) (G : List (List Nat)) (x : Nat) : okG R C G x = (!G.reverse.flatten.contains x && (decide (rowsN R G.reverse.flatten < R) && decide (colsN R G.reverse.flatten < C))) := by
  unfold okG
  have p := rev_flat G
  have hc : G.reverse.flatten.contains x = G.flatten.contains x := by
    rw [Bool.eq_iff_iff, List.contains_iff_mem, List.contains_iff_mem]
    exact p.mem_iff
  rw [rowsN_perm R p, colsN_perm R p, hc]
theorem len_board {l : List Nat} {n : Nat} (hn : l.Nodup) (h : ∀ x ∈ l, x < n) : l.length ≤ n := by
  have := C.len_sub (u := List.range n) hn fun x hx => List.mem_range.mpr (h x hx)
  rwa [List.length_range] at this
theorem VG.len {R C : Nat} {G : List (List Nat)} (h : VG R C G) : G.flatten.length ≤ R + C := len_board h.nodup h.lt
theorem flat_ge {G : List (List Nat)} (h : ∀ g ∈ G, g ≠ []) : G.length ≤ G.flatten.length ∧ ∀ g ∈ G, g.length ≤ G.flatten.length := by
  induction G with
  | nil => exact ⟨Nat.le_refl _, fun g hg => nomatch hg⟩
  | cons a G ih =>
    obtain ⟨h1, h2⟩ := ih fun g hg => h g (List.mem_cons_of_mem _ hg)
    have ha := List.length_pos_iff.mpr (h a (List.mem_cons_self ..))
    rw [List.flatten_cons, List.length_append, List.length_cons]
    refine ⟨by omega, fun g hg => ?_⟩
    rcases List.mem_cons.mp hg with rfl | hg
    · omega
    · have := h2 g hg; omega
theorem noObs_nat (l : List Nat) : D.noObs (natD l) = true := by
  unfold natD
  induction l with
  | nil => rfl
  | cons a l ih => rw [List.map_cons]; unfold D.noObs; rw [ih]; rfl
theorem noOb_tupN (l : List Nat) : D.noOb (tupN l) = true := by unfold tupN D.noOb; exact noObs_nat l
theorem rev_nat (l : List Nat) : revUD (.lst (natD l)) = some (.lst (natD l.reverse)) := by unfold natD; rw [List.map_reverse]; rfl
theorem lt_cast (a b : Nat) : decide ((a : Int) < (b : Int)) = decide (a < b) := by by_cases h : a < b <;> simp [h]
theorem rowsN_one {R x : Nat} : rowsN R [x] = if x < R then 1 else 0 := by unfold rowsN; by_cases h : x < R <;> simp [h]
theorem colsN_one {R x : Nat} : colsN R [x] = if x < R then 0 else 1 := by unfold colsN; by_cases h : x < R <;> simp [h]
theorem obs_get {obs : List (List D)} {L : List (List D)} {k : Nat} (h : k < L.length) : (obs ++ L)[obs.length + k]? = L[k]? := by
  rw [List.getElem?_append_right (by omega)]
  congr 1
  omega
theorem add_nat {a b : List Nat} (h : a.length + b.length ≤ 1000) : addD (.lst (natD a)) (.lst (natD b)) = some (.lst (natD (a ++ b))) := by
  show (if (natD a).length + (natD b).length ≤ sizeLine then some (D.lst (natD a ++ natD b)) else none) = _
  rw [natD_app, if_pos]
  rw [natD_len, natD_len]
  exact size_le (by omega)
theorem wp_found {s0 s1 s2 s3 s4 s5 s6 s7 : Slot} {obs O : List (List D)} {Q : Flow' → M → Prop} : ∀ {G pre : List (List Nat)} {found : List Nat} {s9 : Slot}, O = obs ++ (pre ++ G).reverse.map natD → (∀ g ∈ G, g.length < 64) → found.length + G.flatten.length ≤ 1000 → noOw [9] [s0, s1, s2, s3, s4, s5, s6, s7, .un, s9] = true →
    (∀ s9, Q .nx ⟨[s0, s1, s2, s3, s4, s5, s6, s7, .pl (.lst (natD (found ++ flatS G))), s9], O⟩) →
    WP (forL false [9] (sSet 8 (eOp addD (vB (vPl 8)) (vB (asL (eCall sortedID (bCons (vB (vPl 9)) (Co.ret []))))))) (objs obs.length G.length).reverse) ⟨[s0, s1, s2, s3, s4, s5, s6, s7, .pl (.lst (natD found)), s9], O⟩ Q
  | [], pre, found, s9, hO, hz, hl, h9, q => by
    refine wp_forL_nil ?_
    have := q s9
    rw [show found ++ flatS [] = found from List.append_nil _] at this
    exact this
  | g :: G, pre, found, s9, hO, hz, hl, h9, q => by
    have e : (objs obs.length (g :: G).length).reverse = D.obj (obs.length + G.length) :: (objs obs.length G.length).reverse := by
      rw [List.length_cons, objs_succ, List.reverse_append]; rfl
    rw [e]
    have hget : O[obs.length + G.length]? = some (natD g) := by
      rw [hO, obs_get (by simp), List.reverse_append, List.reverse_cons, List.map_append, List.map_append, List.append_assoc, List.getElem?_append_right (by simp)]
      simp
    have hs := sortedID_N g (hz g (List.mem_cons_self ..))
    rw [List.flatten_cons, List.length_append] at hl
    have ha := add_nat (a := found) (b := sortN g) (by rw [sortN_len]; omega)
    refine wp_forL_cons (env := [s0, s1, s2, s3, s4, s5, s6, s7, .pl (.lst (natD found)), .pl (.obj (obs.length + G.length))]) ?_ ?_
    · unfold noOw at h9
      cases s9 <;> first | rfl | (simp at h9)
    generalize natD g = N at *
    generalize natD (sortN g) = N2 at *
    generalize natD found = N3 at *
    simp [hget, hs, ha]
    have hO2 : O = obs ++ ((pre ++ [g]) ++ G).reverse.map natD := by rw [List.append_assoc]; exact hO
    refine wp_found (pre := pre ++ [g]) hO2 (fun a h => hz a (List.mem_cons_of_mem _ h)) (by rw [List.length_append, sortN_len]; omega) ?_ fun s9 => ?_
    · unfold noOw at h9 ⊢
      simp at h9 ⊢
    · have := q s9
      rw [show found ++ flatS (g :: G) = (found ++ sortN g) ++ flatS G from (List.append_assoc ..).symm] at this
      exact this
theorem F_normal_of_g {R C : Nat} {ls : List Nat} (hl : ∀ x ∈ ls, x < R + C) (hR : R ≤ 12) (hC : C ≤ 12) (obs : List (List D)) (ho : obs.all D.noObs = true) :
    F_normal_of [.int (R : Int), .int (C : Int), .lst (natD ls)] obs = some (tupN (norm R C ls), obs) := by
  refine FP.eq ?_
  show FP (cutF (runF 10 3 b_normal_of false)) _ _ _
  refine FP_cut (run_wp rfl ?_)
  unfold b_normal_of
  simp [rev_nat]
  obtain ⟨I, hI⟩ : ∃ I : List Nat → M → Prop, I = fun done m => ∃ x6 x7, m = ⟨[.pl (.int (R : Int)), .pl (.int (C : Int)), .pl (.lst (natD ls)), .ow (.lst (objs obs.length (scanG R C done).length)), .ow (lnD (scanG R C done).reverse.flatten),
      .ow (.lst [.int (rowsN R (scanG R C done).reverse.flatten : Nat), .int (colsN R (scanG R C done).reverse.flatten : Nat)]), x6, x7, .un, .un], obs ++ (scanG R C done).reverse.map natD⟩ := ⟨_, rfl⟩
  have hit : itD (.lst (natD ls.reverse)) = some (ls.reverse.map fun (n : Nat) => D.int (n : Int)) := rfl
  refine wp_for (fun (n : Nat) => D.int (n : Int)) ls.reverse I ?_ ?_ ?_
  · rw [hI]
    refine ⟨.un, .un, ?_⟩
    rw [show scanG R C [] = [] from rfl]
    simp [objs, lnD, rowsN, colsN]
  · intro done x rest m e hm
    rw [hI] at hm
    obtain ⟨x6, x7, rfl⟩ := hm
    have hd : ∀ y ∈ done ++ x :: rest, y < R + C := fun y hy => hl y (List.mem_reverse.mp (by rw [e]; exact hy))
    have hV : VG R C (scanG R C done) := VG.scan (fun y hy => hd y (List.mem_append_left _ hy)) trivial
    have hx := hd x (by simp)
    have hsn : scanG R C (done ++ [x]) = stepG R C (scanG R C done) x := by unfold scanG; rw [List.foldl_append]; rfl
    have hok := okG_acc R C (scanG R C done) x
    have hne := hV.ne
    have hln := hV.len
    have hge := flat_ge hne
    have hal : (scanG R C done).reverse.flatten.length = (scanG R C done).flatten.length := (rev_flat _).length_eq
    have hrev := addG_rev R (scanG R C done) x
    generalize hG : scanG R C done = G at *
    refine ⟨_, rfl, ?_⟩
    have f1 := notIn_ln G.reverse.flatten x
    have f2 := lt_cast (rowsN R G.reverse.flatten) R
    have f3 := lt_cast (colsN R G.reverse.flatten) C
    generalize hA : G.reverse.flatten = A at *
    cases hb : okG R C G x with
    | false =>
      have hst : stepG R C G x = G := by unfold stepG; rw [hb]; rfl
      rw [hb] at hok
      have hIn : I (done ++ [x]) ⟨[.pl (.int (R : Int)), .pl (.int (C : Int)), .pl (.lst (natD ls)), .ow (.lst (objs obs.length G.length)), .ow (lnD A), .ow (.lst [.int (rowsN R A : Nat), .int (colsN R A : Nat)]), .pl (.int (x : Int)), x7, .un, .un], obs ++ G.reverse.map natD⟩ := by
        rw [hI]
        refine ⟨.pl (.int (x : Int)), x7, ?_⟩
        rw [hsn, hst, hA]
      generalize G.reverse.map natD = OB at *
      generalize objs obs.length G.length = P at *
      generalize lnD A = T at *
      cases c1 : A.contains x with
      | true =>
        rw [c1] at f1
        simp [f1]
        exact hIn
      | false =>
        rw [c1] at f1 hok
        by_cases c2 : rowsN R A < R
        · by_cases c3 : colsN R A < C
          · rw [decide_eq_true c2, decide_eq_true c3] at hok; cases hok
          · simp [f1, c2, c3]
            exact hIn
        · simp [f1, c2]
          exact hIn
    | true =>
      have hst : stepG R C G x = addG R G x := by unfold stepG; rw [hb]; rfl
      rw [hb] at hok
      obtain ⟨c1, c2, c3⟩ : A.contains x = false ∧ rowsN R A < R ∧ colsN R A < C := by
        have := hok.symm
        simp only [Bool.and_eq_true, Bool.not_eq_true', decide_eq_true_eq] at this
        exact this
      rw [c1] at f1
      have f4 := put_ln c1 (by omega)
      have hr1 : rowsN R (A ++ [x]) = rowsN R A + if x < R then 1 else 0 := by rw [rowsN_app, rowsN_one]
      have hc1 : colsN R (A ++ [x]) = colsN R A + if x < R then 0 else 1 := by rw [colsN_app, colsN_one]
      have hIn : ∀ x7, I (done ++ [x]) ⟨[.pl (.int (R : Int)), .pl (.int (C : Int)), .pl (.lst (natD ls)), .ow (.lst (objs obs.length (addG R G x).length)), .ow (lnD (A ++ [x])), .ow (.lst [.int (rowsN R (A ++ [x]) : Nat), .int (colsN R (A ++ [x]) : Nat)]), .pl (.int (x : Int)), x7, .un, .un], obs ++ (addG R G x).reverse.map natD⟩ := by
        intro x7
        rw [hI]
        refine ⟨.pl (.int (x : Int)), x7, ?_⟩
        rw [hsn, hst, hrev]
      generalize hT : lnD A = T at *
      generalize hT2 : lnD (A ++ [x]) = T2 at *
      have gt : ∀ m : M, Opd.get m (.val T) = some T := fun m => by rw [← hT]; rfl
      generalize hOB : obs ++ G.reverse.map natD = OB at *
      simp [f1, c2, c3]
      refine kp_dput _ _ _ _ ?_
      simp [f4]
      by_cases hxR : x < R
      · simp [hxR]
        refine wp_laug (ds := [.int (rowsN R A : Nat), .int (colsN R A : Nat)]) (j := 0) (u := (rowsN R A : Nat)) (w := 1) rfl rfl (by decide) rfl rfl ?_
        rw [FlK_nx, ← hOB]
        show WP _ ⟨[.pl (.int (R : Int)), .pl (.int (C : Int)), .pl (.lst (natD ls)), .ow (.lst (objs obs.length G.length)), .ow T2, .ow _, .pl (.int (x : Int)), .pl (.int _), .un, .un], obs ++ G.reverse.map natD⟩ _
        refine wp_tail hne (fun g hg => by have := hge.2 g hg; omega) (by omega) x ?_
        simp
        have := hIn (.pl (.int 0))
        rw [hr1, hc1, if_pos hxR, if_pos hxR] at this
        simpa using this
      · simp [hxR]
        refine wp_laug (ds := [.int (rowsN R A : Nat), .int (colsN R A : Nat)]) (j := 1) (u := (colsN R A : Nat)) (w := 1) rfl rfl (by decide) rfl rfl ?_
        rw [FlK_nx, ← hOB]
        show WP _ ⟨[.pl (.int (R : Int)), .pl (.int (C : Int)), .pl (.lst (natD ls)), .ow (.lst (objs obs.length G.length)), .ow T2, .ow _, .pl (.int (x : Int)), .pl (.int _), .un, .un], obs ++ G.reverse.map natD⟩ _
        refine wp_tail hne (fun g hg => by have := hge.2 g hg; omega) (by omega) x ?_
        simp
        have := hIn (.pl (.int 1))
        rw [hr1, hc1, if_neg hxR, if_neg hxR] at this
        simpa using this
  · intro m hm
    rw [hI] at hm
    obtain ⟨x6, x7, rfl⟩ := hm
    clear hI
    have hV : VG R C (scanG R C ls.reverse) := scanG_VG hl
    have hne := hV.ne
    have hln := hV.len
    have hge := flat_ge hne
    have hnm : norm R C ls = flatS (scanG R C ls.reverse) := rfl
    rw [hnm]
    generalize scanG R C ls.reverse = G at *
    have hrv : revUD (.lst (objs obs.length G.length)) = some (.lst (objs obs.length G.length).reverse) := rfl
    have hit2 : itD (.lst (objs obs.length G.length).reverse) = some (objs obs.length G.length).reverse := rfl
    generalize hP : objs obs.length G.length = P at *
    generalize lnD G.reverse.flatten = T at *
    have htk : (obs ++ G.reverse.map natD).take obs.length = obs := by simp
    generalize hO : obs ++ G.reverse.map natD = O at *
    simp [hrv]
    rw [← hP]
    refine wp_found (pre := []) (found := []) hO.symm (fun g hg => by have := hge.2 g hg; omega) (by rw [List.length_nil]; omega) rfl fun s9 => ?_
    rw [List.nil_append]
    have ht : tupleD [.lst (natD (flatS G))] = some (tupN (flatS G)) := rfl
    have hno := noOb_tupN (flatS G)
    generalize natD (flatS G) = N at *
    simp [ht, hno, htk]
    simpa using ho
end C
namespace C
open PySem PySem.Spec PyProof.Rows L2 PD Od
theorem ge_cast (a b : Nat) : decide ((b : Int) ≤ (a : Int)) = !decide (a < b) := by by_cases h : a < b <;> simp [h] <;> omega
theorem len_nat (l : List Nat) : lenU [.lst (natD l)] = some (.int (l.length : Nat)) := by
  show some (D.int ((natD l).length : Nat)) = _
  rw [natD_len]
end C
namespace C
open PySem PySem.Spec PyProof.Rows L2 PD Od
@[simp] theorem get_ln (m : M) (a : List Nat) : Opd.get m (.val (lnD a)) = some (lnD a) := rfl
def fullL' (R C : Nat) (ls : List Nat) : Bool := ((List.range R).all fun x => ls.contains x) || ((List.range C).all fun x => ls.contains (R + x))
def sup (R C : Nat) (ls : List Nat) : List Nat := (List.range (R + C)).filter fun x => fullL' R C ls || ls.contains x
def ascL (n : Nat) (ls : List Nat) : List Nat := (List.range n).filter fun x => ls.contains x
theorem mem_ascL {n : Nat} {ls : List Nat} {x : Nat} : x ∈ ascL n ls ↔ x < n ∧ x ∈ ls := by unfold ascL; simp [List.mem_filter]
theorem mem_sup {R C : Nat} {ls : List Nat} {x : Nat} : x ∈ sup R C ls ↔ x < R + C ∧ (fullL' R C ls = true ∨ x ∈ ls) := by unfold sup; simp [List.mem_filter]
theorem full_iff {R C : Nat} {ls : List Nat} : fullL' R C ls = true ↔ (∀ x < R, x ∈ ls) ∨ ∀ x < C, R + x ∈ ls := by
  unfold fullL'
  rw [Bool.or_eq_true, List.all_eq_true, List.all_eq_true]
  simp
theorem range_sorted (n : Nat) : (List.range n).Pairwise (· < ·) := List.pairwise_lt_range
theorem ascL_lt (n : Nat) (ls : List Nat) : (ascL n ls).Pairwise (· < ·) := (range_sorted n).sublist List.filter_sublist
theorem sup_full {R C : Nat} {ls : List Nat} (h : fullL' R C ls = true) : sup R C ls = List.range (R + C) := by unfold sup; rw [List.filter_eq_self.mpr fun x _ => by rw [h]; rfl]
theorem sup_asc {R C : Nat} {ls : List Nat} (h : fullL' R C ls = false) : sup R C ls = ascL (R + C) ls := by unfold sup ascL; exact List.filter_congr fun x _ => by rw [h, Bool.false_or]
theorem full_of {R C : Nat} {a b : List Nat} (h : ∀ x ∈ a, x < R + C → x ∈ b) (ha : fullL' R C a = true) : fullL' R C b = true := by
  rw [full_iff] at *
  rcases ha with ha | ha
  · exact .inl fun x hx => h x (ha x hx) (by omega)
  · exact .inr fun x hx => h _ (ha x hx) (by omega)
theorem sup_congr {R C : Nat} {a b : List Nat} (h : ∀ x < R + C, (fullL' R C a = true ∨ x ∈ a) ↔ (fullL' R C b = true ∨ x ∈ b)) : sup R C a = sup R C b := by
  unfold sup
  refine List.filter_congr fun x hx => ?_
  rw [Bool.eq_iff_iff]
  simpa using h x (List.mem_range.mp hx)
theorem full_app_sup {R C : Nat} {a b : List Nat} : fullL' R C (a ++ sup R C b) = fullL' R C (a ++ b) := by
  rw [Bool.eq_iff_iff]
  constructor
  · intro h
    cases q : fullL' R C b with
    | true => exact full_of (fun x hx _ => List.mem_append_right _ hx) q
    | false =>
      rw [sup_asc q] at h
      exact full_of (fun x hx _ => (List.mem_append.mp hx).elim (List.mem_append_left _) fun hx => List.mem_append_right _ (mem_ascL.mp hx).2) h
  · intro h
    exact full_of (fun x hx hl => (List.mem_append.mp hx).elim (List.mem_append_left _) fun hx => List.mem_append_right _ (mem_sup.mpr ⟨hl, .inr hx⟩)) h
theorem sup_app_sup (R C : Nat) (a b : List Nat) : sup R C (a ++ sup R C b) = sup R C (a ++ b) := by
  refine sup_congr fun x hx => ?_
  rw [full_app_sup]
  cases q : fullL' R C (a ++ b) with
  | true => simp
  | false =>
    have qb : fullL' R C b = false := by
      cases z : fullL' R C b with
      | false => rfl
      | true => rw [full_of (fun x hx _ => List.mem_append_right a hx) z] at q; cases q
    rw [sup_asc qb, List.mem_append, List.mem_append, mem_ascL]
    simp [hx]
theorem sup_perm {R C : Nat} {a b : List Nat} (h : ∀ x, x ∈ a ↔ x ∈ b) : sup R C a = sup R C b := by
  have : fullL' R C a = fullL' R C b := by
    rw [Bool.eq_iff_iff]
    exact ⟨full_of fun x hx _ => (h x).mp hx, full_of fun x hx _ => (h x).mpr hx⟩
  exact sup_congr fun x _ => by rw [this, h x]
theorem rows_asc {R C : Nat} (ls : List Nat) : rowsN R (ascL (R + C) ls) = ((List.range R).filter fun x => ls.contains x).length ∧ colsN R (ascL (R + C) ls) = ((List.range C).filter fun x => ls.contains (R + x)).length := by
  have e : List.range (R + C) = List.range R ++ (List.range C).map (R + ·) := List.range_add
  unfold ascL
  rw [e, List.filter_append, rowsN_app, colsN_app]
  have h1 := rowsN_all (R := R) (a := (List.range R).filter fun x => ls.contains x) fun x hx => List.mem_range.mp (List.mem_filter.mp hx).1
  have h2 := colsN_all (R := R) (a := ((List.range C).map (R + ·)).filter fun x => ls.contains x) fun x hx => by
    obtain ⟨y, _, rfl⟩ := List.mem_map.mp (List.mem_filter.mp hx).1
    omega
  rw [h1.1, h1.2, h2.1, h2.2, List.filter_map, List.length_map]
  simp only [Nat.add_zero, Nat.zero_add, true_and]
  rfl
theorem filter_all {α : Type} (l : List α) (p : α → Bool) : (l.filter p).length = l.length ↔ l.all p = true := by
  rw [List.length_filter_eq_length_iff, List.all_eq_true]
theorem full_counts {R C : Nat} (ls : List Nat) : fullL' R C ls = (decide (rowsN R (ascL (R + C) ls) = R) || decide (colsN R (ascL (R + C) ls) = C)) := by
  obtain ⟨h1, h2⟩ := rows_asc (R := R) (C := C) ls
  rw [h1, h2]
  unfold fullL'
  have f1 := filter_all (List.range R) fun x => ls.contains x
  have f2 := filter_all (List.range C) fun x => ls.contains (R + x)
  rw [List.length_range] at f1 f2
  congr 1
  · rw [Bool.eq_iff_iff, decide_eq_true_iff, f1]
  · rw [Bool.eq_iff_iff, decide_eq_true_iff, f2]
theorem ascL_len (n : Nat) (ls : List Nat) : (ascL n ls).length ≤ n := by
  have := List.length_filter_le (fun x => ls.contains x) (List.range n)
  rwa [List.length_range] at this
def addK (a : List Nat) (x : Nat) : List Nat := if a.contains x = true then a else a ++ [x]
def nubL (ls : List Nat) : List Nat := ls.foldl addK []
theorem putD_ln (a : List Nat) (x : Nat) : putD (a.map fun (n : Nat) => ((Sum.inl (n : Int) : Key), D.bl true)) (Sum.inl (x : Int)) (.bl true) = (addK a x).map fun (n : Nat) => ((Sum.inl (n : Int) : Key), D.bl true) := by
  unfold putD addK
  rw [any_ln]
  cases h : a.contains x with
  | true =>
    simp only [if_true]
    rw [List.map_map]
    refine List.map_congr_left fun y _ => ?_
    simp only [Function.comp_apply]
    split <;> rfl
  | false =>
    simp only [Bool.false_eq_true, if_false]
    rw [List.map_append]; rfl
theorem addK_nd {a : List Nat} (h : a.Nodup) (x : Nat) : (addK a x).Nodup := by
  unfold addK
  split
  · exact h
  · rename_i hx
    exact snoc_nd h fun z => hx (List.contains_iff_mem.mpr z)
theorem addK_mem {a : List Nat} {x y : Nat} : y ∈ addK a x ↔ y ∈ a ∨ y = x := by
  unfold addK
  split
  · rename_i hx
    exact ⟨.inl, fun h => h.elim id fun e => e ▸ List.contains_iff_mem.mp hx⟩
  · rw [List.mem_append, List.mem_singleton]
theorem fold_addK : ∀ (ls a : List Nat), a.Nodup → (ls.foldl addK a).Nodup ∧ ∀ y, y ∈ ls.foldl addK a ↔ y ∈ a ∨ y ∈ ls
  | [], a, h => ⟨h, fun y => by simp⟩
  | x :: ls, a, h => by
    obtain ⟨h1, h2⟩ := fold_addK ls (addK a x) (addK_nd h x)
    refine ⟨h1, fun y => ?_⟩
    rw [List.foldl_cons, h2, addK_mem, List.mem_cons, or_assoc]
theorem dcL_ln {i : Nat} {env : List PD.Slot} {obs : List (List D)} (hi : env[i]? = some .un) : ∀ (ls a : List Nat), dcL false [i] [i] (Co.ret true) (vPl i) (Co.ret (.bl true)) (natD ls) (a.map fun (n : Nat) => ((Sum.inl (n : Int) : Key), D.bl true)) ⟨env, obs⟩ =
    .ok ((ls.foldl addK a).map fun (n : Nat) => ((Sum.inl (n : Int) : Key), D.bl true)) ⟨env, obs⟩
  | [], a => rfl
  | x :: ls, a => by
    have hl : i < env.length := (List.getElem?_eq_some_iff.mp hi).1
    have hs : setTg false [i] (.int (x : Int)) env = some (env.set i (.pl (.int (x : Int)))) := by
      show setEnv env [i] [(false, .int (x : Int))] = _
      unfold setEnv
      rw [if_pos hl]
      rfl
    have hv : vPl i ⟨env.set i (.pl (.int (x : Int))), obs⟩ = .ok (.int (x : Int)) ⟨env.set i (.pl (.int (x : Int))), obs⟩ := by
      unfold vPl
      rw [List.getElem?_set_self hl]
    have hw : wipeE (env.set i (.pl (.int (x : Int)))) [i] = env := by
      show ((env.set i (.pl (.int (x : Int)))).set i .un) = env
      rw [List.set_set]
      apply List.ext_getElem?
      intro j
      by_cases hj : i = j
      · subst hj; rw [List.getElem?_set_self hl, hi]
      · rw [List.getElem?_set_ne hj]
    have hn : noOw [i] (env.set i (.pl (.int (x : Int)))) = true := by
      unfold noOw
      simp [List.getElem?_set_self hl]
    show dcL false [i] [i] (Co.ret true) (vPl i) (Co.ret (.bl true)) (.int (x : Int) :: natD ls) _ _ = _
    unfold dcL
    have ht : (Co.ret true : Co Bool) ⟨env.set i (.pl (.int (x : Int))), obs⟩ = .ok true ⟨env.set i (.pl (.int (x : Int))), obs⟩ := rfl
    have hb : (Co.ret (.bl true) : Co D) ⟨env.set i (.pl (.int (x : Int))), obs⟩ = .ok (.bl true) ⟨env.set i (.pl (.int (x : Int))), obs⟩ := rfl
    have hk : keyD (.int (x : Int)) = some (Sum.inl (x : Int)) := rfl
    simp only [hs, ht, hv, hb, hk, hn, if_true, hw, putD_ln]
    exact dcL_ln hi ls (addK a x)
theorem nubL_nd (ls : List Nat) : (nubL ls).Nodup := (fold_addK ls [] .nil).1
theorem mem_nubL {ls : List Nat} {y : Nat} : y ∈ nubL ls ↔ y ∈ ls := by unfold nubL; rw [(fold_addK ls [] .nil).2]; simp
theorem wp_dcln {i : Nat} {fi : Co (List D)} {env : List PD.Slot} {obs : List (List D)} {ls : List Nat} {Q : D → M → Prop} (hi : env[i]? = some .un) (hf : fi ⟨env, obs⟩ = .ok (natD ls) ⟨env, obs⟩) (hz : ls.length ≤ 1000) (q : Q (lnD (nubL ls)) ⟨env, obs⟩) :
    WP (eDc fi false [i] [i] (Co.ret true) (vPl i) (Co.ret (.bl true))) ⟨env, obs⟩ Q := by
  refine WP.of ?_ q
  have hl : i < env.length := (List.getElem?_eq_some_iff.mp hi).1
  have hn : noOw [i] env = true := by unfold noOw; simp [hi]
  have hw : wipeE env [i] = env := by
    show env.set i .un = env
    apply List.ext_getElem?
    intro j
    by_cases hj : i = j
    · subst hj; rw [List.getElem?_set_self hl, hi]
    · rw [List.getElem?_set_ne hj]
  have hu : unwipe env env [i] = env := by
    show env.set i (env[i]?.getD .un) = env
    rw [hi]
    exact hw
  unfold eDc
  rw [bind_ap, hf]
  dsimp only
  rw [if_pos ⟨hn, by rw [natD_len]; exact lt_size _ (by omega)⟩, hw, show dcL false [i] [i] (Co.ret true) (vPl i) (Co.ret (.bl true)) (natD ls) [] ⟨env, obs⟩ = _ from dcL_ln hi ls []]
  dsimp only
  rw [hu]
  rfl
theorem sortN_nub {n : Nat} {ls : List Nat} (h : ∀ x ∈ ls, x < n) {a : List Nat} (hn : a.Nodup) (hm : ∀ y, y ∈ a ↔ y ∈ ls) : sortN a = ascL n ls := by
  refine sorted_uniq ?_ (sortN_sorted a) ((ascL_lt n ls).imp fun h => Nat.le_of_lt h)
  refine (sortN_perm a).trans ((List.perm_ext_iff_of_nodup hn ((ascL_lt n ls).imp fun h => Nat.ne_of_lt h)).mpr fun y => ?_)
  rw [hm, mem_ascL]
  exact ⟨fun z => ⟨h y z, z⟩, fun z => z.2⟩
theorem keyInts_ln : ∀ a : List Nat, keyInts (a.map fun (n : Nat) => ((Sum.inl (n : Int) : Key), D.bl true)) = some (a.map fun (n : Nat) => (n : Int))
  | [] => rfl
  | x :: a => by rw [List.map_cons]; unfold keyInts; rw [keyInts_ln a]; rfl
theorem sortedID_ln {n : Nat} {ls : List Nat} (h : ∀ x ∈ ls, x < n) (hn : n < 64) : sortedID [lnD (nubL ls)] = some (.lst (natD (ascL n ls))) := by
  have hz : (nubL ls).length < 64 := by have := len_board (nubL_nd ls) fun x hx => h x (mem_nubL.mp hx); omega
  show (keyInts _).bind _ = _
  rw [keyInts_ln, Option.bind_some, if_pos (by rw [List.length_map]; exact hz), ← sortN_cast, sortN_nub h (nubL_nd ls) fun y => mem_nubL, natD_ints]
theorem len_ones {α : Type} (l : List α) : lenU [.lst (l.map fun _ => D.int 1)] = some (.int (l.length : Nat)) := by
  show some (D.int ((l.map fun _ => D.int 1).length : Nat)) = _
  rw [List.length_map]
theorem trg_nat {n : Nat} (h : n ≤ 1000) : RgOk 0 (n : Int) ∧ D.tup (rgD 0 (n : Int)) = tupN (List.range n) := ⟨RgOk.of_le (by omega) (by omega) (by omega) (by omega), by unfold tupN; rw [← rgD_nat]⟩
theorem sup_val {R C : Nat} (ls : List Nat) : sup R C ls = if (decide (rowsN R (ascL (R + C) ls) = R) || decide (colsN R (ascL (R + C) ls) = C)) = true then List.range (R + C) else ascL (R + C) ls := by
  rw [← full_counts]
  cases h : fullL' R C ls with
  | true => rw [if_pos rfl, sup_full h]
  | false => rw [if_neg (by decide), sup_asc h]
section
variable {R C : Nat} {ls : List Nat}
theorem F_support_of_g (hl : ∀ x ∈ ls, x < R + C) (hR : R ≤ 12) (hC : C ≤ 12) (hz : ls.length ≤ 1000) {d : D} (hd : itD d = some (natD ls)) (obs : List (List D)) :
    F_support_of [.int (R : Int), .int (C : Int), d] obs = some (tupN (sup R C ls), obs) := by
  refine FP.eq (run_wp rfl ?_)
  unfold b_support_of
  have hs := sortedID_ln hl (by omega)
  have hln := ascL_len (R + C) ls
  rw [sup_val]
  generalize hA : ascL (R + C) ls = A at *
  have hrc := rows_cols R A
  obtain ⟨hrg, hrt⟩ := trg_nat (n := R + C) (by omega)
  have en : ((R : Int) + (C : Int)) = ((R + C : Nat) : Int) := by omega
  simp
  refine wp_dcln rfl (WP.eq (by simp [hd])) hz ?_
  simp [hs]
  refine wp_lct (fun (n : Nat) => D.int (n : Int)) (fun n => decide (n < R)) (fun _ => D.int 1) A (by simp [natD]) rfl (size_le (by omega)) (fun x hx => ⟨_, rfl, rfl, rfl, by simp [lt_cast], fun _ => by simp⟩) ?_
  have h1 : lenU [.lst ((A.filter fun n => decide (n < R)).map fun _ => D.int 1)] = some (.int (rowsN R A : Nat)) := len_ones _
  have h2 := len_nat A
  have h3 : ((A.length : Int) - (rowsN R A : Nat)) = (colsN R A : Nat) := by omega
  have ht : tupleD [.lst (natD A)] = some (tupN A) := rfl
  obtain ⟨RC, hRC⟩ : ∃ RC : Int, (R : Int) + (C : Int) = RC := ⟨_, rfl⟩
  rw [← en, hRC] at hrg hrt
  generalize hrr : List.range (R + C) = rr at *
  generalize hc0 : rowsN R A = c0 at *
  generalize hc1 : colsN R A = c1 at *
  generalize hTA : tupN A = TA at *
  generalize hTR : tupN rr = TR at *
  generalize natD A = N at *
  by_cases k1 : c0 = R
  · simp [h1, h2, k1, hRC, hrg, hrt, hTA, hTR]
  · by_cases k2 : c1 = C
    · have k3 : ¬ ((c0 : Int) = R) := by omega
      simp [h1, h2, h3, k1, k2, k3, hRC, hrg, hrt, hTA, hTR]
    · have k3 : ¬ ((c0 : Int) = R) := by omega
      have k4 : ¬ ((c1 : Int) = C) := by omega
      simp [h1, h2, h3, k1, k2, k3, k4, ht, hTA, hTR]
end
end C
namespace C
open PySem PySem.Spec PyProof.Rows L2 PD Od
def cz (k : List Nat) : List Int := k.map fun (n : Nat) => (n : Int)
theorem cz_inj {a b : List Nat} (h : cz a = cz b) : a = b := by
  unfold cz at h
  exact (List.map_inj_right (fun x y e => by omega)).mp h
def ltN (a b : List Nat) : Bool := HT.lexLt (cz a) (cz b)
theorem ltN_blt (a b : List Nat) : KO.blt (keyZ (cz a)) (keyZ (cz b)) = ltN a b := ltZ_lex _ _
def insK (x : List Nat) : List (List Nat) → List (List Nat)
  | [] => [x]
  | y :: ys => if ltN y x = true then y :: insK x ys else x :: y :: ys
def sortK : List (List Nat) → List (List Nat)
  | [] => []
  | x :: xs => insK x (sortK xs)
theorem insK_cast (x : List Nat) : ∀ ys : List (List Nat), (insK x ys).map cz = insZ (cz x) (ys.map cz)
  | [] => rfl
  | y :: ys => by
    rw [List.map_cons]
    unfold insK insZ
    rw [ltN_blt]
    split
    · rw [List.map_cons, insK_cast x ys]
    · rfl
theorem sortK_cast : ∀ ks : List (List Nat), (sortK ks).map cz = sortZ (ks.map cz)
  | [] => rfl
  | x :: ks => by
    rw [List.map_cons]
    show (insK x (sortK ks)).map cz = insZ (cz x) (sortZ _)
    rw [insK_cast, sortK_cast ks]
theorem insK_perm (x : List Nat) : ∀ ys : List (List Nat), (insK x ys).Perm (x :: ys)
  | [] => .refl _
  | y :: ys => by
    unfold insK
    split
    · exact ((insK_perm x ys).cons y).trans (.swap x y ys)
    · exact .refl _
theorem sortK_perm : ∀ ks : List (List Nat), (sortK ks).Perm ks
  | [] => .refl _
  | x :: ks => (insK_perm x (sortK ks)).trans ((sortK_perm ks).cons x)
def UpK (l : List (List Nat)) : Prop := l.Pairwise fun x y => ltN y x = false
theorem upK_iff (l : List (List Nat)) : UpZ (l.map cz) ↔ UpK l := by
  unfold UpZ UpK
  rw [List.pairwise_map]
  constructor
  · exact fun h => h.imp fun {a b} z => by rw [← ltN_blt]; exact z
  · exact fun h => h.imp fun {a b} z => by rw [ltN_blt]; exact z
theorem sortK_up (ks : List (List Nat)) : UpK (sortK ks) := by rw [← upK_iff, sortK_cast]; exact sortZ_up _
theorem map_cz_inj : ∀ {a b : List (List Nat)}, a.map cz = b.map cz → a = b := fun h => (List.map_inj_right (fun x y e => cz_inj e)).mp h
theorem upK_eq {a b : List (List Nat)} (p : a.Perm b) (ha : UpK a) (hb : UpK b) : a = b := map_cz_inj (upZ_eq (p.map cz) ((upK_iff a).mpr ha) ((upK_iff b).mpr hb))
theorem sortK_id {l : List (List Nat)} (h : UpK l) : sortK l = l := upK_eq (sortK_perm l) (sortK_up l) h
theorem sortK_eq {a b : List (List Nat)} (p : a.Perm b) : sortK a = sortK b := upK_eq ((sortK_perm a).trans (p.trans (sortK_perm b).symm)) (sortK_up a) (sortK_up b)
theorem ltN_of {a b : List Nat} (h : ltN b a = false) (ne : a ≠ b) : ltN a b = true := by
  cases q : ltN a b with
  | true => rfl
  | false =>
    rw [← ltN_blt] at h q
    exact absurd (cz_inj (keyZ_inj (KO.total _ _ h q))) (fun e => ne e.symm)
theorem upK_lt : ∀ {l : List (List Nat)}, UpK l → l.Nodup → l.Pairwise fun x y => ltN x y = true
  | [], _, _ => .nil
  | a :: l, h, n => by
    obtain ⟨h1, h2⟩ := List.pairwise_cons.mp h
    obtain ⟨n1, n2⟩ := List.nodup_cons.mp n
    exact List.pairwise_cons.mpr ⟨fun b hb => ltN_of (h1 b hb) fun e => n1 (e ▸ hb), upK_lt h2 n2⟩
abbrev Ms := List (List Nat × Nat)
def upM (x : List Nat × Nat) : List Nat × Int := (x.1, (x.2 : Int))
def mD (l : Ms) : D := kvD (l.map upM)
def gN (l : Ms) (k : List Nat) : Nat := ((l.find? fun kv => decide (kv.1 = k)).map (·.2)).getD 0
def pN (l : Ms) (k : List Nat) (v : Nat) : Ms := if (l.any fun kv => decide (kv.1 = k)) = true then l.map (fun kv => if kv.1 = k then (kv.1, v) else kv) else l ++ [(k, v)]
theorem gK_up (l : Ms) (k : List Nat) : gK (l.map upM) k = ((gN l k : Nat) : Int) := by
  unfold gK gN
  rw [List.find?_map]
  have e : ((fun kv : List Nat × Int => decide (kv.1 = k)) ∘ upM) = fun kv => decide (kv.1 = k) := rfl
  rw [e]
  cases l.find? fun kv => decide (kv.1 = k) <;> rfl
theorem pK_up (l : Ms) (k : List Nat) (v : Nat) : pK (l.map upM) k (v : Int) = (pN l k v).map upM := by
  unfold pK pN
  rw [List.any_map]
  have e : ((fun kv : List Nat × Int => decide (kv.1 = k)) ∘ upM) = fun kv => decide (kv.1 = k) := rfl
  rw [e]
  split
  · rw [List.map_map, List.map_map]
    refine List.map_congr_left fun kv _ => ?_
    simp only [Function.comp_apply]
    unfold upM
    split <;> rfl
  · rw [List.map_append]; rfl
theorem get_m (l : Ms) (k : List Nat) : getK (some (mD l)) (tupN k) (.int 0) = some (.int ((gN l k : Nat) : Int)) := by
  unfold mD; rw [getK_kv, gK_up]
theorem put_m {l : Ms} (k : List Nat) (v : Nat) (hz : l.length < 100000) : putDD (tupN k) (.int (v : Int)) (mD l) = some (mD (pN l k v)) := by
  unfold mD
  rw [put_kv k (v : Int) (by rw [List.length_map]; omega), pK_up]
def kM (l : Ms) : List (List Nat) := l.map (·.1)
def addM (l : Ms) (p : List Nat × Nat) : Ms := pN l p.1 (gN l p.1 + p.2)
def mkM (ps : Ms) : Ms := ps.foldl addM []
theorem any_kM (l : Ms) (k : List Nat) : (l.any fun kv => decide (kv.1 = k)) = true ↔ k ∈ kM l := by
  unfold kM
  rw [List.any_eq_true, List.mem_map]
  constructor
  · rintro ⟨x, hx, h⟩; exact ⟨x, hx, by simpa using h⟩
  · rintro ⟨x, hx, h⟩; exact ⟨x, hx, by simpa using h⟩
theorem pN_keys (l : Ms) (k : List Nat) (v : Nat) : kM (pN l k v) = if k ∈ kM l then kM l else kM l ++ [k] := by
  unfold pN
  by_cases h : k ∈ kM l
  · rw [if_pos ((any_kM l k).mpr h), if_pos h]
    unfold kM
    rw [List.map_map]
    refine List.map_congr_left fun kv _ => ?_
    simp only [Function.comp_apply]
    split <;> rfl
  · rw [if_neg fun z => h ((any_kM l k).mp z), if_neg h]
    unfold kM
    rw [List.map_append]; rfl
theorem addM_keys (l : Ms) (p : List Nat × Nat) : kM (addM l p) = if p.1 ∈ kM l then kM l else kM l ++ [p.1] := pN_keys ..
theorem addM_nd {l : Ms} (h : (kM l).Nodup) (p : List Nat × Nat) : (kM (addM l p)).Nodup := by
  rw [addM_keys]
  split
  · exact h
  · rename_i hk
    rw [List.nodup_append]
    exact ⟨h, by simp, fun a ha b hb e => by rw [List.mem_singleton] at hb; subst hb; subst e; exact hk ha⟩
theorem addM_mem {l : Ms} {p : List Nat × Nat} {k : List Nat} : k ∈ kM (addM l p) ↔ k ∈ kM l ∨ k = p.1 := by
  rw [addM_keys]
  split
  · rename_i h
    exact ⟨.inl, fun z => z.elim id fun e => e ▸ h⟩
  · rw [List.mem_append, List.mem_singleton]
theorem fold_keys : ∀ (ps l : Ms), (kM l).Nodup → (kM (ps.foldl addM l)).Nodup ∧ ∀ k, k ∈ kM (ps.foldl addM l) ↔ k ∈ kM l ∨ k ∈ kM ps
  | [], l, h => ⟨h, fun k => by simp [kM]⟩
  | p :: ps, l, h => by
    obtain ⟨h1, h2⟩ := fold_keys ps (addM l p) (addM_nd h p)
    refine ⟨h1, fun k => ?_⟩
    rw [List.foldl_cons, h2, addM_mem]
    show _ ↔ _ ∨ k ∈ p.1 :: kM ps
    rw [List.mem_cons, or_assoc]
theorem mkM_nd (ps : Ms) : (kM (mkM ps)).Nodup := (fold_keys ps [] .nil).1
theorem mkM_mem {ps : Ms} {k : List Nat} : k ∈ kM (mkM ps) ↔ k ∈ kM ps := by unfold mkM; rw [(fold_keys ps [] .nil).2]; simp [kM]
theorem pN_pos {l : Ms} {k : List Nat} {v : Nat} (h : ∀ x ∈ l, 0 < x.2) (hv : 0 < v) : ∀ x ∈ pN l k v, 0 < x.2 := fun x hx => by
  unfold pN at hx
  split at hx
  · obtain ⟨y, hy, rfl⟩ := List.mem_map.mp hx
    split
    · exact hv
    · exact h y hy
  · rcases List.mem_append.mp hx with hx | hx
    · exact h x hx
    · rw [List.mem_singleton] at hx; subst hx; exact hv
theorem fold_pos : ∀ (ps l : Ms), (∀ x ∈ l, 0 < x.2) → (∀ x ∈ ps, 0 < x.2) → ∀ x ∈ ps.foldl addM l, 0 < x.2
  | [], l, h, _ => h
  | p :: ps, l, h, hp => fold_pos ps (addM l p) (pN_pos h (by have := hp p (List.mem_cons_self ..); omega)) fun x hx => hp x (List.mem_cons_of_mem _ hx)
theorem mkM_pos {ps : Ms} (h : ∀ x ∈ ps, 0 < x.2) : ∀ x ∈ mkM ps, 0 < x.2 := fold_pos ps [] (fun x hx => nomatch hx) h
theorem mkM_len (ps : Ms) : (mkM ps).length ≤ ps.length := by
  have h : ∀ (ps l : Ms), (ps.foldl addM l).length ≤ l.length + ps.length := by
    intro ps
    induction ps with
    | nil => intro l; exact Nat.le_refl _
    | cons p ps ih =>
      intro l
      have h1 := ih (addM l p)
      have h2 : (addM l p).length ≤ l.length + 1 := by
        have h3 := congrArg List.length (addM_keys l p)
        unfold kM at h3
        rw [List.length_map] at h3
        rw [h3]
        split
        · rw [List.length_map]; omega
        · rw [List.length_append, List.length_map]; simp
      rw [List.foldl_cons, List.length_cons]
      omega
  have := h ps []
  simpa [mkM] using this
theorem gN_mem {l : Ms} (hn : (kM l).Nodup) {x : List Nat × Nat} (hx : x ∈ l) : gN l x.1 = x.2 := by
  induction l with
  | nil => cases hx
  | cons y l ih =>
    have hn : (y.1 :: kM l).Nodup := hn
    obtain ⟨h1, h2⟩ := List.nodup_cons.mp hn
    rcases List.mem_cons.mp hx with rfl | hx
    · unfold gN; rw [List.find?_cons_of_pos (by simp)]; rfl
    · have ne : y.1 ≠ x.1 := fun e => h1 (by rw [e]; exact List.mem_map.mpr ⟨x, hx, rfl⟩)
      unfold gN
      rw [List.find?_cons_of_neg (by simpa using ne)]
      exact ih h2 hx
theorem gN_pos {l : Ms} (hn : (kM l).Nodup) (hp : ∀ x ∈ l, 0 < x.2) {k : List Nat} (h : k ∈ kM l) : 0 < gN l k := by
  obtain ⟨x, hx, rfl⟩ := List.mem_map.mp h
  rw [gN_mem hn hx]
  exact hp x hx
def gcdL (ws : List Nat) : Nat := ws.foldl (fun s w => Nat.gcd w s) 0
theorem gcdF : ∀ (ws : List Nat) (s d : Nat), d ∣ ws.foldl (fun s w => Nat.gcd w s) s ↔ d ∣ s ∧ ∀ w ∈ ws, d ∣ w
  | [], s, d => by simp
  | w :: ws, s, d => by
    rw [List.foldl_cons, gcdF ws, Nat.dvd_gcd_iff]
    simp only [List.mem_cons, forall_eq_or_imp]
    constructor
    · rintro ⟨⟨h1, h2⟩, h3⟩; exact ⟨h2, h1, h3⟩
    · rintro ⟨h2, h1, h3⟩; exact ⟨⟨h1, h2⟩, h3⟩
theorem gcdL_iff {ws : List Nat} {d : Nat} : d ∣ gcdL ws ↔ ∀ w ∈ ws, d ∣ w := by
  unfold gcdL
  rw [gcdF]
  simp
theorem gcdL_eq {a b : List Nat} (h : ∀ x, x ∈ a ↔ x ∈ b) : gcdL a = gcdL b :=
  Nat.dvd_antisymm (gcdL_iff.mpr fun w hw => gcdL_iff.mp (Nat.dvd_refl _) w ((h w).mpr hw)) (gcdL_iff.mpr fun w hw => gcdL_iff.mp (Nat.dvd_refl _) w ((h w).mp hw))
theorem gcdL_dvd {ws : List Nat} {w : Nat} (h : w ∈ ws) : gcdL ws ∣ w := gcdL_iff.mp (Nat.dvd_refl _) w h
theorem gcdL_pos {ws : List Nat} (h : ws ≠ []) (hp : ∀ w ∈ ws, 0 < w) : 0 < gcdL ws := by
  obtain ⟨w, hw⟩ := List.exists_mem_of_ne_nil ws h
  exact Nat.pos_of_dvd_of_pos (gcdL_dvd hw) (hp w hw)
theorem gcdL_le {ws : List Nat} (hp : ∀ w ∈ ws, 0 < w) {w : Nat} (hw : w ∈ ws) : gcdL ws ≤ w := Nat.le_of_dvd (hp w hw) (gcdL_dvd hw)
theorem gcdL_div {ws : List Nat} (h : ws ≠ []) (hp : ∀ w ∈ ws, 0 < w) : gcdL (ws.map fun w => w / gcdL ws) = 1 := by
  have h0 := gcdL_pos h hp
  have h1 : gcdL (ws.map fun w => w / gcdL ws) * gcdL ws ∣ gcdL ws := by
    refine gcdL_iff.mpr fun w hw => ?_
    have h2 := gcdL_dvd (ws := ws.map fun w => w / gcdL ws) (List.mem_map.mpr ⟨w, hw, rfl⟩)
    have h3 := Nat.mul_dvd_mul_right h2 (gcdL ws)
    rwa [Nat.div_mul_cancel (gcdL_dvd hw)] at h3
  have h4 := Nat.le_of_dvd h0 h1
  have h5 : gcdL (ws.map fun w => w / gcdL ws) ≤ 1 := by
    refine Classical.byContradiction fun z => ?_
    have : 2 * gcdL ws ≤ gcdL (ws.map fun w => w / gcdL ws) * gcdL ws := Nat.mul_le_mul_right _ (by omega)
    omega
  have h6 : 0 < gcdL (ws.map fun w => w / gcdL ws) := by
    refine Nat.pos_of_ne_zero fun z => ?_
    rw [z, Nat.zero_mul] at h1
    have := Nat.eq_zero_of_zero_dvd h1
    omega
  omega
def wM (l : Ms) : List Nat := l.map (·.2)
def tidy (l : Ms) : Ms := (sortK (kM l)).map fun k => (k, gN l k / gcdL (wM l))
theorem tidy_keys (l : Ms) : kM (tidy l) = sortK (kM l) := by unfold kM tidy; rw [List.map_map]; exact List.map_id _
theorem tidy_nd {l : Ms} (h : (kM l).Nodup) : (kM (tidy l)).Nodup := by rw [tidy_keys]; exact (sortK_perm _).nodup_iff.mpr h
theorem tidy_len (l : Ms) : (tidy l).length = l.length := by unfold tidy; rw [List.length_map, (sortK_perm _).length_eq]; unfold kM; rw [List.length_map]
theorem tidy_gN {l : Ms} (h : (kM l).Nodup) {k : List Nat} (hk : k ∈ kM l) : gN (tidy l) k = gN l k / gcdL (wM l) :=
  gN_mem (x := (k, gN l k / gcdL (wM l))) (tidy_nd h) (List.mem_map.mpr ⟨k, (sortK_perm _).mem_iff.mpr hk, rfl⟩)
theorem wM_mem {l : Ms} (h : (kM l).Nodup) {w : Nat} : w ∈ wM l ↔ ∃ k ∈ kM l, gN l k = w := by
  unfold wM
  constructor
  · intro hw
    obtain ⟨x, hx, rfl⟩ := List.mem_map.mp hw
    exact ⟨x.1, List.mem_map.mpr ⟨x, hx, rfl⟩, gN_mem h hx⟩
  · rintro ⟨k, hk, rfl⟩
    obtain ⟨x, hx, rfl⟩ := List.mem_map.mp hk
    rw [gN_mem h hx]
    exact List.mem_map.mpr ⟨x, hx, rfl⟩
theorem wM_tidy {l : Ms} (h : (kM l).Nodup) {w : Nat} : w ∈ wM (tidy l) ↔ w ∈ (wM l).map fun w => w / gcdL (wM l) := by
  rw [wM_mem (tidy_nd h), List.mem_map, tidy_keys]
  constructor
  · rintro ⟨k, hk, rfl⟩
    have hk := (sortK_perm _).mem_iff.mp hk
    exact ⟨gN l k, (wM_mem h).mpr ⟨k, hk, rfl⟩, (tidy_gN h hk).symm⟩
  · rintro ⟨w, hw, rfl⟩
    obtain ⟨k, hk, rfl⟩ := (wM_mem h).mp hw
    exact ⟨k, (sortK_perm _).mem_iff.mpr hk, tidy_gN h hk⟩
theorem tidy_tidy {l : Ms} (h : (kM l).Nodup) (hp : ∀ x ∈ l, 0 < x.2) : tidy (tidy l) = tidy l := by
  by_cases h0 : l = []
  · subst h0; rfl
  have hw : wM l ≠ [] := fun z => h0 (List.map_eq_nil_iff.mp z)
  have hg : gcdL (wM (tidy l)) = 1 := by
    rw [gcdL_eq fun x => wM_tidy h]
    exact gcdL_div hw fun w hw => by
      obtain ⟨x, hx, rfl⟩ := List.mem_map.mp hw
      exact hp x hx
  have e : tidy (tidy l) = (sortK (kM (tidy l))).map fun k => (k, gN (tidy l) k / gcdL (wM (tidy l))) := rfl
  rw [e, hg, tidy_keys, sortK_id (sortK_up _)]
  show _ = (sortK (kM l)).map _
  refine List.map_congr_left fun k hk => ?_
  rw [Nat.div_one, tidy_gN h ((sortK_perm _).mem_iff.mp hk)]
theorem tidy_pos {l : Ms} (h : (kM l).Nodup) (hp : ∀ x ∈ l, 0 < x.2) : ∀ x ∈ tidy l, 0 < x.2 := fun x hx => by
  obtain ⟨k, hk, rfl⟩ := List.mem_map.mp hx
  have hk := (sortK_perm _).mem_iff.mp hk
  have h1 := gN_pos h hp hk
  have h2 := gcdL_le (ws := wM l) (fun w hw => by obtain ⟨x, hx, rfl⟩ := List.mem_map.mp hw; exact hp x hx) ((wM_mem h).mpr ⟨k, hk, rfl⟩)
  have h3 := gcdL_pos (ws := wM l) (fun z => by
    have : l = [] := List.map_eq_nil_iff.mp z
    subst this; cases hk) fun w hw => by obtain ⟨x, hx, rfl⟩ := List.mem_map.mp hw; exact hp x hx
  exact Nat.div_pos h2 h3
theorem tidy_le {l : Ms} (h : (kM l).Nodup) {B : Nat} (hB : ∀ x ∈ l, x.2 ≤ B) : ∀ x ∈ tidy l, x.2 ≤ B := fun x hx => by
  obtain ⟨k, hk, rfl⟩ := List.mem_map.mp hx
  have hk := (sortK_perm _).mem_iff.mp hk
  obtain ⟨y, hy, rfl⟩ := List.mem_map.mp hk
  show gN l y.1 / _ ≤ B
  rw [gN_mem h hy]
  exact Nat.le_trans (Nat.div_le_self ..) (hB y hy)
end C
namespace C
open PySem PySem.Spec PyProof.Rows L2 PD Od
def prM (x : List Nat × Nat) : D := .tup [tupN x.1, .int (x.2 : Int)]
def meaD (m : Ms) : D := .xt (m.map prM)
structure Okm (l : Ms) : Prop where
  n : (kM l).Nodup
  p : ∀ x ∈ l, 0 < x.2
  z : l.length ≤ 1000
  b : ∀ x ∈ l, x.2 ≤ 10 ^ 30
theorem Okm.g {l : Ms} (h : Okm l) {k : List Nat} (hk : k ∈ kM l) : gN l k ≤ 10 ^ 30 := by
  obtain ⟨x, hx, rfl⟩ := List.mem_map.mp hk
  rw [gN_mem h.n hx]
  exact h.b x hx
theorem Okm.gcd {l : Ms} (h : Okm l) (h0 : l ≠ []) : 0 < gcdL (wM l) ∧ gcdL (wM l) ≤ 10 ^ 30 := by
  have hp : ∀ w ∈ wM l, 0 < w := fun w hw => by obtain ⟨x, hx, rfl⟩ := List.mem_map.mp hw; exact h.p x hx
  have hw : wM l ≠ [] := fun z => h0 (List.map_eq_nil_iff.mp z)
  refine ⟨gcdL_pos hw hp, ?_⟩
  obtain ⟨w, hw2⟩ := List.exists_mem_of_ne_nil _ hw
  have := gcdL_le hp hw2
  obtain ⟨x, hx, rfl⟩ := List.mem_map.mp hw2
  have := h.b x hx
  omega
theorem valsOf_m (l : Ms) : valsOf (mD l) = some (l.map fun x => D.int (x.2 : Int)) := by
  unfold mD kvD valsOf
  simp only [List.map_map]
  rfl
theorem allKeysZ_m : ∀ l : Ms, allKeysZ (l.map fun x => (tKey x.1, D.int (x.2 : Int))) = some ((kM l).map cz)
  | [] => rfl
  | x :: l => by
    rw [List.map_cons]
    show (keyZs (tKey x.1)).bind _ = _
    have h : ∀ k : List Nat, keyZs (tKey k) = some (cz k) := fun k => by
      induction k with
      | nil => rfl
      | cons a k ih =>
        show (keyZs (tKey k)).map _ = _
        rw [ih]; rfl
    rw [h, Option.bind_some, allKeysZ_m l]
    rfl
theorem sorted_m (l : Ms) : sortedDZD [mD l] = some (.lst ((sortK (kM l)).map tupN)) := by
  unfold mD kvD
  rw [List.map_map]
  show (allKeysZ _).map _ = _
  have := allKeysZ_m l
  rw [show (l.map ((fun (kv : List Nat × Int) => (tKey kv.1, D.int kv.2)) ∘ upM)) = l.map fun x => (tKey x.1, D.int (x.2 : Int)) from rfl, this]
  show some (D.lst ((sortZ ((kM l).map cz)).map tupZ)) = _
  rw [← sortK_cast, List.map_map]
  congr 2
  refine List.map_congr_left fun k _ => ?_
  show tupZ (cz k) = tupN k
  unfold tupZ cz tupN
  rw [natD_ints]
theorem dget_m {l : Ms} (hn : (kM l).Nodup) {k : List Nat} (hk : k ∈ kM l) : subD' (mD l) (tupN k) = some (.int ((gN l k : Nat) : Int)) := by
  obtain ⟨x, hx, rfl⟩ := List.mem_map.mp hk
  have h := sub_kv (l := l.map upM) (x := upM x) (by unfold KVn; rw [List.map_map]; exact hn) (List.mem_map.mpr ⟨x, hx, rfl⟩)
  rw [gN_mem hn hx]
  exact h
theorem div_nat {a g : Nat} (h0 : 0 < g) (hg : g ≤ 10 ^ 30) : divD (.int (a : Int)) (.int (g : Int)) = some (.int ((a / g : Nat) : Int)) := by
  rw [divD_int, if_pos (divW h0 (Nat.lt_of_le_of_lt hg (by decide)))]
  rfl
@[simp] theorem get_mD (m : M) (l : Ms) : Opd.get m (.val (mD l)) = some (mD l) := rfl
@[simp] theorem get_mea (m : M) (l : Ms) : Opd.get m (.val (meaD l)) = some (meaD l) := rfl
@[simp] theorem get_tupN (m : M) (l : List Nat) : Opd.get m (.val (tupN l)) = some (tupN l) := rfl
theorem F_tidied_g {l : Ms} (h : Okm l) (obs : List (List D)) : F_tidied [mD l] obs = some (meaD (tidy l), obs) := by
  refine FP.eq (run_wp rfl ?_)
  unfold b_tidied
  simp [valsOf_m]
  obtain ⟨I, hI⟩ : ∃ I : Ms → M → Prop, I = fun done m => ∃ x2, m = ⟨[.pl (mD l), .pl (.int ((gcdL (wM done) : Nat) : Int)), x2, .un], obs⟩ := ⟨_, rfl⟩
  refine wp_for (fun (x : List Nat × Nat) => D.int (x.2 : Int)) l I ?_ ?_ ?_
  · rw [hI]; exact ⟨.un, rfl⟩
  · intro done x rest m e hm
    rw [hI] at hm
    obtain ⟨x2, rfl⟩ := hm
    refine ⟨[.pl (mD l), .pl (.int ((gcdL (wM done) : Nat) : Int)), .pl (.int (x.2 : Int)), .un], by cases x2 <;> rfl, ?_⟩
    have f := F_common_nat x.2 (gcdL (wM done)) obs
    have hg : gcdL (wM (done ++ [x])) = Nat.gcd x.2 (gcdL (wM done)) := by unfold wM gcdL; rw [List.map_append, List.foldl_append]; rfl
    simp [FP_of f]
    rw [hI]
    exact ⟨_, by rw [hg]⟩
  · intro m hm
    rw [hI] at hm
    obtain ⟨x2, rfl⟩ := hm
    clear hI
    simp [sorted_m]
    refine wp_lcm tupN (fun k => prM (k, gN l k / gcdL (wM l))) (sortK (kM l)) (by simp [sorted_m]) rfl (size_le (by rw [(sortK_perm _).length_eq]; unfold kM; rw [List.length_map]; have := h.z; omega)) (fun k hk => ⟨[.pl (mD l), .pl (.int ((gcdL (wM l) : Nat) : Int)), x2, .pl (tupN k)], rfl, rfl, rfl, ?_⟩) ?_
    · have hk := (sortK_perm _).mem_iff.mp hk
      have h1 := dget_m h.n hk
      have h2 := h.gcd fun z => by subst z; cases hk
      have h3 := div_nat (a := gN l k) h2.1 h2.2
      generalize hT : tupN k = T at *
      have gT : ∀ m : M, Opd.get m (.val T) = some T := fun m => by rw [← hT]; rfl
      simp [h1, h3, gT]
      unfold prM
      rw [← hT]
      simp
    · have ht : tupleXD [.lst ((sortK (kM l)).map fun k => prM (k, gN l k / gcdL (wM l)))] = some (meaD (tidy l)) := by
        unfold meaD tidy
        rw [List.map_map]
        rfl
      generalize (sortK (kM l)).map (fun k => prM (k, gN l k / gcdL (wM l))) = N at *
      simp [ht]
end C
namespace C
open PySem PySem.Spec PyProof.Rows L2 PD Od
theorem gN_pN (l : Ms) (k j : List Nat) (v : Nat) : gN (pN l k v) j = if j = k then v else gN l j := by
  unfold pN
  split
  · rename_i h
    induction l with
    | nil => simp at h
    | cons y l ih =>
      rw [List.map_cons]
      unfold gN
      by_cases e : y.1 = k
      · rw [if_pos e]
        by_cases hj : j = k
        · subst hj
          rw [List.find?_cons_of_pos (by simp [e]), if_pos rfl]; rfl
        · have ne : ¬ y.1 = j := fun z => hj (z.symm.trans e)
          rw [List.find?_cons_of_neg (by simpa using ne), List.find?_cons_of_neg (by simpa using ne), if_neg hj]
          clear ih h
          induction l with
          | nil => rfl
          | cons z l ih =>
            rw [List.map_cons]
            by_cases ez : z.1 = k
            · rw [if_pos ez]
              have nz : ¬ z.1 = j := fun q => hj (q.symm.trans ez)
              rw [List.find?_cons_of_neg (by simpa using nz), List.find?_cons_of_neg (by simpa using nz)]
              exact ih
            · rw [if_neg ez]
              by_cases q : z.1 = j
              · rw [List.find?_cons_of_pos (by simpa using q), List.find?_cons_of_pos (by simpa using q)]
              · rw [List.find?_cons_of_neg (by simpa using q), List.find?_cons_of_neg (by simpa using q)]
                exact ih
      · rw [if_neg e]
        have h' : (l.any fun kv => decide (kv.1 = k)) = true := by simpa [e] using h
        have ih := ih h'
        unfold gN at ih
        by_cases q : y.1 = j
        · have hj : ¬ j = k := fun z => e (q.trans z)
          rw [List.find?_cons_of_pos (by simpa using q), List.find?_cons_of_pos (by simpa using q), if_neg hj]
        · rw [List.find?_cons_of_neg (by simpa using q), List.find?_cons_of_neg (by simpa using q)]
          exact ih
  · rename_i h
    have hk : k ∉ kM l := fun z => h ((any_kM l k).mpr z)
    unfold gN
    rw [List.find?_append]
    by_cases hj : j = k
    · subst hj
      rw [if_pos rfl]
      have : l.find? (fun kv => decide (kv.1 = j)) = none := List.find?_eq_none.mpr fun x hx e => hk (List.mem_map.mpr ⟨x, hx, by simpa using e⟩)
      rw [this]
      simp
    · rw [if_neg hj]
      cases q : l.find? fun kv => decide (kv.1 = j) with
      | some y => rfl
      | none =>
        have : ¬ k = j := fun z => hj z.symm
        simp [this]
theorem gN_addM (l : Ms) (p : List Nat × Nat) (k : List Nat) : gN (addM l p) k = gN l k + if k = p.1 then p.2 else 0 := by
  unfold addM
  rw [gN_pN]
  by_cases h : k = p.1
  · rw [if_pos h, if_pos h, h]
  · rw [if_neg h, if_neg h]; omega
def sumK (ps : Ms) (k : List Nat) : Nat := ((ps.filter fun p => decide (p.1 = k)).map (·.2)).sum
theorem gN_fold : ∀ (ps l : Ms) (k : List Nat), gN (ps.foldl addM l) k = gN l k + sumK ps k
  | [], l, k => by simp [sumK]
  | p :: ps, l, k => by
    rw [List.foldl_cons, gN_fold ps, gN_addM]
    unfold sumK
    rw [List.filter_cons]
    by_cases h : p.1 = k
    · rw [if_pos h.symm, decide_eq_true h, if_pos rfl, List.map_cons, List.sum_cons]; omega
    · rw [if_neg fun z => h z.symm, decide_eq_false h, if_neg (by decide)]; omega
theorem gN_mk (ps : Ms) (k : List Nat) : gN (mkM ps) k = sumK ps k := by
  unfold mkM
  rw [gN_fold]
  simp [gN]
def sumW (ps : Ms) : Nat := (ps.map (·.2)).sum
theorem sumK_le : ∀ (ps : Ms) (k : List Nat), sumK ps k ≤ sumW ps
  | [], k => Nat.le_refl _
  | p :: ps, k => by
    have ih := sumK_le ps k
    unfold sumK sumW at *
    rw [List.filter_cons, List.map_cons, List.sum_cons]
    split
    · rw [List.map_cons, List.sum_cons]; omega
    · omega
theorem okm_mk {ps : Ms} (hp : ∀ x ∈ ps, 0 < x.2) (hz : ps.length ≤ 1000) (hs : sumW ps ≤ 10 ^ 30) : Okm (mkM ps) :=
  ⟨mkM_nd ps, mkM_pos hp, Nat.le_trans (mkM_len ps) hz, fun x hx => by
    have h1 := gN_mem (mkM_nd ps) hx
    rw [gN_mk] at h1
    have := sumK_le ps x.1
    omega⟩
theorem wM_keys {l : Ms} (h : (kM l).Nodup) : (kM l).map (gN l) = wM l := by
  unfold kM wM
  rw [List.map_map]
  exact List.map_congr_left fun x hx => gN_mem h hx
@[simp] theorem dicK_m (l : Ms) (P : Prop) : dicK (some (mD l)) P ↔ P := dicK_dt _ _
theorem sumW_app (a b : Ms) : sumW (a ++ b) = sumW a + sumW b := by unfold sumW; rw [List.map_append, List.sum_append]
theorem big30 : (10 : Nat) ^ 30 < 2 ^ 100000 := Nat.lt_of_lt_of_le (show 10 ^ 30 < 2 ^ 200 by decide) (Nat.pow_le_pow_right (by decide) (by decide))
def thr (p : List Nat × Nat) : D := .tup [.lst (natD p.1), .int (p.2 : Int)]
def nrm (R C : Nat) (ps : Ms) : Ms := ps.map fun p => (norm R C p.1, p.2)
def lawM (R C : Nat) (ps : Ms) : Ms := tidy (mkM (nrm R C ps))
theorem nrm_len (R C : Nat) (ps : Ms) : (nrm R C ps).length = ps.length := by unfold nrm; rw [List.length_map]
theorem nrm_sum (R C : Nat) (ps : Ms) : sumW (nrm R C ps) = sumW ps := by unfold nrm sumW; rw [List.map_map]; rfl
theorem nrm_pos {R C : Nat} {ps : Ms} (h : ∀ x ∈ ps, 0 < x.2) : ∀ x ∈ nrm R C ps, 0 < x.2 := fun x hx => by
  obtain ⟨y, hy, rfl⟩ := List.mem_map.mp hx
  exact h y hy
end C
namespace C
open PySem PySem.Spec PyProof.Rows L2 PD Od
theorem isi_lst (l : List D) : isiD [.lst l, .ty "list"] = some (.bl true) := rfl
section
variable {R C : Nat}
theorem F_are_strokes_g {ls : List Nat} (hl : ∀ x ∈ ls, x < R + C) (hz : ls.length ≤ 1000) (obs : List (List D)) : F_are_strokes [.int (R : Int), .int (C : Int), .lst (natD ls)] obs = some (.bl true, obs) := by
  refine FP.eq (run_wp rfl ?_)
  unfold b_are_strokes
  have h1 := isi_lst (natD ls)
  have h2 : itD (.lst (natD ls)) = some (natD ls) := rfl
  simp [h1]
  refine wp_lcm (fun (n : Nat) => D.int (n : Int)) (fun _ => .bl true) ls (by simp [h2]; rfl) rfl (size_le (by omega)) (fun x hx => ⟨[.pl (.int (R : Int)), .pl (.int (C : Int)), .pl (.lst (natD ls)), .pl (.int (x : Int))], rfl, rfl, rfl, ?_⟩) ?_
  · have hx := hl x hx
    have f := F_is_in_q (x : Int) 0 ((R : Int) + (C : Int) - 1) obs
    rw [decide_eq_true (by omega)] at f
    simp [FP_of f]
  · have := allD_mtrue (β := Nat) ls
    simp [this]
theorem F_need_strokes_g {ls : List Nat} (hl : ∀ x ∈ ls, x < R + C) (hz : ls.length ≤ 1000) (obs : List (List D)) : F_need_strokes [.int (R : Int), .int (C : Int), .lst (natD ls)] obs = some (.non, obs) := by
  refine FP.eq (run_wp rfl ?_)
  unfold b_need_strokes
  simp [FP_of (F_are_strokes_g hl hz obs)]
theorem F_is_effect_of_g {e : List Nat} (hl : ∀ x ∈ e, x < R + C) (he : norm R C e = e) (hR : R ≤ 12) (hC : C ≤ 12) (hz : e.length ≤ 1000) (obs : List (List D)) (ho : obs.all D.noObs = true) :
    F_is_effect_of [.int (R : Int), .int (C : Int), tupN e] obs = some (.bl true, obs) := by
  refine FP.eq (run_wp rfl ?_)
  unfold b_is_effect_of
  have h1 : isiD [tupN e, .ty "tuple"] = some (.bl true) := rfl
  have h2 : listU [tupN e] = some (.lst (natD e)) := rfl
  have f1 := F_are_strokes_g hl hz obs
  have f2 := F_normal_of_g hl hR hC obs ho
  rw [he] at f2
  have h3 := eqD_tupN e e
  rw [decide_eq_true rfl] at h3
  have gT := fun m : M => get_tupN m e
  generalize tupN e = T at *
  simp [h1, h2, FP_of f1, FP_of f2, h3, gT]
structure GM (R C : Nat) (m : Ms) : Prop where
  ne : m ≠ []
  len : m.length ≤ 500
  ok : Okm m
  eff : ∀ x ∈ m, (∀ y ∈ x.1, y < R + C) ∧ norm R C x.1 = x.1
  up : (kM m).Pairwise fun a b => ltN a b = true
  tid : tidy m = m
theorem gm_law {ps : Ms} (hl : ∀ p ∈ ps, ∀ x ∈ p.1, x < R + C) (hp : ∀ x ∈ ps, 0 < x.2) (h0 : ps ≠ []) (hz : ps.length ≤ 500) (hs : sumW ps ≤ 10 ^ 30) : GM R C (lawM R C ps) := by
  have hok := okm_mk (nrm_pos (R := R) (C := C) hp) (by rw [nrm_len]; omega) (by rw [nrm_sum]; exact hs)
  have hlen : (mkM (nrm R C ps)).length ≤ 500 := by have := mkM_len (nrm R C ps); rw [nrm_len] at this; omega
  have hne : mkM (nrm R C ps) ≠ [] := fun z => by
    obtain ⟨p, hp⟩ := List.exists_mem_of_ne_nil _ h0
    have : norm R C p.1 ∈ kM (mkM (nrm R C ps)) := mkM_mem.mpr (List.mem_map.mpr ⟨(norm R C p.1, p.2), List.mem_map.mpr ⟨p, hp, rfl⟩, rfl⟩)
    rw [z] at this
    cases this
  refine ⟨fun z => hne ?_, ?_, ⟨tidy_nd hok.n, tidy_pos hok.n hok.p, ?_, tidy_le hok.n hok.b⟩, fun x hx => ?_, ?_, tidy_tidy hok.n hok.p⟩
  · have := congrArg List.length z
    unfold lawM at this
    rw [tidy_len] at this
    exact List.eq_nil_of_length_eq_zero this
  · unfold lawM; rw [tidy_len]; exact hlen
  · unfold lawM; rw [tidy_len]; omega
  · have hk : x.1 ∈ kM (tidy (mkM (nrm R C ps))) := List.mem_map.mpr ⟨x, hx, rfl⟩
    rw [tidy_keys] at hk
    have hk := mkM_mem.mp ((sortK_perm _).mem_iff.mp hk)
    obtain ⟨y, hy, e⟩ := List.mem_map.mp hk
    obtain ⟨p, hp, rfl⟩ := List.mem_map.mp hy
    rw [← e]
    exact ⟨norm_lt (hl p hp), norm_norm (hl p hp)⟩
  · unfold lawM
    rw [tidy_keys]
    exact upK_lt (sortK_up _) ((sortK_perm _).nodup_iff.mpr hok.n)
theorem encM : Enc meaD (fun m : Ms => PyData.tuple (m.map fun x => PyData.tuple [PyData.tuple (x.1.map fun (i : Nat) => PyData.int (i : Int)), PyData.int (x.2 : Int)])) 3 := Enc.xt (Enc.pair Enc.nat.tup Enc.nat)
theorem eqD_mea (a b : Ms) : eqD (meaD a) (meaD b) = some (.bl (decide (a = b))) := encM.eqD2 encM (by decide) (by decide) a b
theorem neD_mea (a b : Ms) : neD (meaD a) (meaD b) = some (.bl (!decide (a = b))) := encM.neD2 encM (by decide) (by decide) a b
theorem ltZ_N (a b : List Nat) : ltZD (tupN a) (tupN b) = some (.bl (ltN a b)) := by
  show (toInts (natD a)).bind (fun x => (toInts (natD b)).map fun y => D.bl (HT.lexLt x y)) = _
  rw [natD_ints, natD_ints, toInts_map, toInts_map]
  rfl
theorem pairsX_m : ∀ m : Ms, pairsXD (m.map prM) = some (m.map fun x => (tKey x.1, D.int (x.2 : Int)))
  | [] => rfl
  | x :: m => by
    rw [List.map_cons]
    show (keyT (tupN x.1)).bind _ = _
    rw [keyT_nat, Option.bind_some, pairsX_m m]
    rfl
theorem merge_nd : ∀ (kds acc : List (List Key × D)), (acc.map (·.1) ++ kds.map (·.1)).Nodup → mergeDT acc kds = acc ++ kds
  | [], acc, _ => (List.append_nil _).symm
  | x :: kds, acc, h => by
    have hx : (acc.any fun kv => decide (kv.1 = x.1)) = false := by
      rw [Bool.eq_false_iff]
      intro z
      obtain ⟨y, hy, e⟩ := List.any_eq_true.mp z
      rw [List.map_cons, List.nodup_append] at h
      exact h.2.2 y.1 (List.mem_map.mpr ⟨y, hy, rfl⟩) x.1 (List.mem_cons_self ..) (of_decide_eq_true e)
    have hp : putD acc x.1 x.2 = acc ++ [x] := by unfold putD; rw [hx]; rfl
    show mergeDT (putD acc x.1 x.2) kds = _
    rw [hp, merge_nd kds (acc ++ [x]) (by rw [List.map_append, List.append_assoc]; exact h), List.append_assoc]
    rfl
theorem dictX_m {m : Ms} (hn : (kM m).Nodup) : dictXD [meaD m] = some (mD m) := by
  show (pairsXD (m.map prM)).map _ = _
  rw [pairsX_m, Option.map_some, merge_nd]
  · unfold mD kvD
    rw [List.map_map]
    rfl
  · rw [List.map_nil, List.nil_append, List.map_map]
    have : (m.map ((fun x => x.1) ∘ fun x => (tKey x.1, D.int (x.2 : Int)))) = (kM m).map tKey := by unfold kM; rw [List.map_map]; rfl
    rw [this]
    exact List.pairwise_map.mpr (hn.imp fun {a b} h e => h (tKey_inj e))
theorem pw_zip {l : List (List Nat)} (h : l.Pairwise fun a b => ltN a b = true) : ∀ p ∈ l.zip l.tail, ltN p.1 p.2 = true := by
  induction l with
  | nil => intro p hp; cases hp
  | cons a l ih =>
    obtain ⟨h1, h2⟩ := List.pairwise_cons.mp h
    cases l with
    | nil => intro p hp; cases hp
    | cons b l =>
      intro p hp
      rw [List.tail_cons, List.zip_cons_cons] at hp
      rcases List.mem_cons.mp hp with rfl | hp
      · exact h1 b (List.mem_cons_self ..)
      · exact ih h2 p hp
theorem slD_xt (xs : List D) (lo hi : Option Int) : slD (.xt xs) lo hi = if HT.sIx xs.length 0 lo = 0 ∧ HT.sIx xs.length xs.length hi = xs.length then some (.xt xs) else some (.tup ((xs.drop (HT.sIx xs.length 0 lo)).take (HT.sIx xs.length xs.length hi - HT.sIx xs.length 0 lo))) := rfl
theorem sl1 {m : Ms} (h0 : m ≠ []) : slD (meaD m) (some 1) none = some (.tup (m.tail.map prM)) := by
  obtain ⟨a, t, rfl⟩ : ∃ a t, m = a :: t := by
    cases m with
    | nil => exact absurd rfl h0
    | cons a t => exact ⟨a, t, rfl⟩
  show slD (.xt (prM a :: t.map prM)) (some 1) none = _
  rw [slD_xt]
  have h1 : HT.sIx (prM a :: t.map prM).length 0 (some 1) = 1 := by
    unfold HT.sIx; simp
  have h2 : HT.sIx (prM a :: t.map prM).length (prM a :: t.map prM).length none = (prM a :: t.map prM).length := rfl
  rw [h1, h2, if_neg (by omega)]
  have : List.take t.length (t.map prM) = t.map prM := List.take_of_length_le (by rw [List.length_map]; exact Nat.le_refl _)
  simp [this]
theorem F_is_measure_of_g {m : Ms} (g : GM R C m) (hR : R ≤ 12) (hC : C ≤ 12) (obs : List (List D)) (ho : obs.all D.noObs = true) :
    F_is_measure_of [.int (R : Int), .int (C : Int), meaD m] obs = some (.bl true, obs) := by
  refine FP.eq (run_wp rfl ?_)
  unfold b_is_measure_of
  have h1 : isiD [meaD m, .ty "tuple"] = some (.bl true) := rfl
  have h2 : lenU [meaD m] = some (.int (m.length : Nat)) := by show some (D.int ((m.map prM).length : Nat)) = _; rw [List.length_map]
  have h3 : itD (meaD m) = some (m.map prM) := rfl
  have hm1 : 1 ≤ m.length := List.length_pos_iff.mpr g.ne
  have h4 : (1 : Int) ≤ (m.length : Nat) := by omega
  have h5 : ((m.length : Nat) : Int) ≤ 500 := by have := g.len; omega
  have h6 := sl1 g.ne
  have h7 : zipD [meaD m, .tup (m.tail.map prM)] = some ((m.zip m.tail).map fun p => .tup [prM p.1, prM p.2]) := by
    show some (((m.map prM).zip (m.tail.map prM)).map _) = _
    rw [List.zip_map, List.map_map]
    rfl
  have h8 := dictX_m g.ok.n
  have f9 := F_tidied_g g.ok obs
  rw [g.tid] at f9
  have h10 := eqD_mea m m
  rw [decide_eq_true rfl] at h10
  have gM := fun mm : M => get_mea mm m
  have gD := fun mm : M => get_mD mm m
  generalize hMe : meaD m = Me at *
  generalize hMd : mD m = Md at *
  generalize hTl : m.tail.map prM = Tl at *
  simp [h1, h2, gM, h3, h4, h5]
  obtain ⟨I, hI⟩ : ∃ I : Ms → M → Prop, I = fun done mm => ∃ x3, mm = ⟨[.pl (.int (R : Int)), .pl (.int (C : Int)), .pl Me, x3, .un, .un], obs⟩ := ⟨_, rfl⟩
  refine wp_for prM m I ?_ ?_ ?_
  · rw [hI]; exact ⟨.un, rfl⟩
  · intro done x rest mm e hm
    rw [hI] at hm
    obtain ⟨x3, rfl⟩ := hm
    have hx : x ∈ m := by rw [e]; simp
    obtain ⟨e1, e2⟩ := g.eff x hx
    have hpos := g.ok.p x hx
    have ez : x.1.length ≤ 1000 := by
      have := norm_nodup e1
      rw [e2] at this
      have := len_board this e1
      omega
    have f1 := F_is_effect_of_g e1 e2 hR hC ez obs ho
    have f2 := F_is_int_q (x.2 : Int) obs
    have i1 : isiD [prM x, .ty "tuple"] = some (.bl true) := rfl
    have i2 : lenU [prM x] = some (.int 2) := rfl
    have i3 : subD' (prM x) (.int 0) = some (tupN x.1) := subD'_tup0 _ _
    have i4 : subD' (prM x) (.int 1) = some (.int (x.2 : Int)) := subD'_tup1 _ _ _
    have gP : ∀ mm : M, Opd.get mm (.val (prM x)) = some (prM x) := fun _ => rfl
    have i5 : ¬ (x.2 : Int) < 1 := by omega
    refine ⟨[.pl (.int (R : Int)), .pl (.int (C : Int)), .pl Me, .pl (prM x), .un, .un], by rfl, ?_⟩
    generalize prM x = P at *
    generalize tupN x.1 = T at *
    simp [i1, i2, i3, i4, gP, FP_of f1, FP_of f2, i5]
    rw [hI]
    exact ⟨_, rfl⟩
  · intro mm hm
    rw [hI] at hm
    obtain ⟨x3, rfl⟩ := hm
    clear hI
    have hzz : (m.zip m.tail).length ≤ 500 := by rw [List.length_zip]; have := g.len; omega
    have hall : ((m.zip m.tail).all fun p => ltN p.1.1 p.2.1) = true := by
      rw [List.all_eq_true]
      intro p hp
      have := pw_zip g.up (p.1.1, p.2.1) (by
        unfold kM
        rw [← List.map_tail, List.zip_map]
        exact List.mem_map.mpr ⟨p, hp, rfl⟩)
      exact this
    simp
    refine wp_lcm (fun (p : (List Nat × Nat) × (List Nat × Nat)) => .tup [prM p.1, prM p.2]) (fun p => .bl (ltN p.1.1 p.2.1)) (m.zip m.tail) (by simp [gM, h6, h7]) rfl (size_le (by omega)) (fun p hp => ⟨[.pl (.int (R : Int)), .pl (.int (C : Int)), .pl Me, x3, .pl (prM p.1), .pl (prM p.2)], rfl, rfl, rfl, ?_⟩) ?_
    · have j1 : subD' (prM p.1) (.int 0) = some (tupN p.1.1) := subD'_tup0 _ _
      have j2 : subD' (prM p.2) (.int 0) = some (tupN p.2.1) := subD'_tup0 _ _
      have j3 := ltZ_N p.1.1 p.2.1
      have gP : ∀ (x : List Nat × Nat) (mm : M), Opd.get mm (.val (prM x)) = some (prM x) := fun _ _ => rfl
      simp [j1, j2, j3, gP]
    · have ha := allD_map (fun p : (List Nat × Nat) × (List Nat × Nat) => ltN p.1.1 p.2.1) (m.zip m.tail)
      rw [hall] at ha
      simp [ha, gM, h8, gD, FP_of f9, h10]
theorem F_need_measure_g {m : Ms} (g : GM R C m) (h1 : 1 ≤ R) (h2 : 1 ≤ C) (hR : R ≤ 12) (hC : C ≤ 12) (obs : List (List D)) (ho : obs.all D.noObs = true) :
    F_need_measure [.int (R : Int), .int (C : Int), meaD m] obs = some (.non, obs) := by
  refine FP.eq (run_wp rfl ?_)
  unfold b_need_measure
  have f1 := F_need_board_q (r := (R : Int)) (c := (C : Int)) (by omega) (by omega) obs
  have f2 := F_is_measure_of_g g hR hC obs ho
  generalize meaD m = Me at *
  simp [FP_of f1, FP_of f2]
end
end C
namespace C
open PySem PySem.Spec PyProof.Rows L2 PD Od
theorem len_m (l : Ms) : lenU [mD l] = some (.int (l.length : Nat)) := by
  show some (D.int (((l.map upM).map fun (kv : List Nat × Int) => (tKey kv.1, D.int kv.2)).length : Nat)) = _
  rw [List.length_map, List.length_map]
theorem encT : Enc thr (fun p : List Nat × Nat => PyData.tuple [PyData.list (p.1.map fun (i : Nat) => PyData.int (i : Int)), PyData.int (p.2 : Int)]) 2 := Enc.pair Enc.nat.lst Enc.nat
theorem eqD_thrs (a b : Ms) : eqD (.lst (a.map thr)) (.lst (b.map thr)) = some (.bl (decide (a = b))) := encT.lst.eqD2 encT.lst (by decide) (by decide) a b
theorem mul_nat {a b : Nat} (ha : a ≤ 10 ^ 60) (hb : b ≤ 10 ^ 60) : mulD (.int (a : Int)) (.int (b : Int)) = some (.int ((a * b : Nat) : Int)) := by
  rw [mulD_int, if_pos (mulW (A := 400) (B := 400) (by rw [Int.natAbs_natCast]; exact Nat.lt_of_le_of_lt ha (by decide)) (by rw [Int.natAbs_natCast]; exact Nat.lt_of_le_of_lt hb (by decide)) (by decide))]
  congr 2
theorem mkM_app (a b : Ms) : mkM (a ++ b) = b.foldl addM (mkM a) := by unfold mkM; rw [List.foldl_append]
def prs (one other : Ms) : Ms := one.flatMap fun a => other.map fun b => (a.1 ++ b.1, a.2 * b.2)
theorem prs_len (one other : Ms) : (prs one other).length = one.length * other.length := by
  unfold prs
  induction one with
  | nil => simp
  | cons a one ih => rw [List.flatMap_cons, List.length_append, ih, List.length_map, List.length_cons, Nat.succ_mul]; omega
theorem prs_sum (one other : Ms) : sumW (prs one other) = sumW one * sumW other := by
  unfold prs
  induction one with
  | nil => simp [sumW]
  | cons a one ih =>
    rw [List.flatMap_cons, sumW_app, ih]
    have : ∀ l : Ms, sumW (l.map fun b => (a.1 ++ b.1, a.2 * b.2)) = a.2 * sumW l := fun l => by
      induction l with
      | nil => rfl
      | cons b l ih => 
        have e : ∀ (x : List Nat × Nat) (l : Ms), sumW (x :: l) = x.2 + sumW l := fun x l => by unfold sumW; rw [List.map_cons, List.sum_cons]
        rw [List.map_cons, e, e, ih, Nat.mul_add]
    rw [this]
    have e : sumW (a :: one) = a.2 + sumW one := by unfold sumW; rw [List.map_cons, List.sum_cons]
    rw [e, Nat.add_mul]
theorem prs_mem {one other : Ms} {x : List Nat × Nat} (h : x ∈ prs one other) : ∃ a ∈ one, ∃ b ∈ other, x = (a.1 ++ b.1, a.2 * b.2) := by
  unfold prs at h
  obtain ⟨a, ha, h⟩ := List.mem_flatMap.mp h
  obtain ⟨b, hb, rfl⟩ := List.mem_map.mp h
  exact ⟨a, ha, b, hb, rfl⟩
theorem prs_pos {one other : Ms} (h1 : ∀ x ∈ one, 0 < x.2) (h2 : ∀ x ∈ other, 0 < x.2) : ∀ x ∈ prs one other, 0 < x.2 := fun x hx => by
  obtain ⟨a, ha, b, hb, rfl⟩ := prs_mem hx
  exact Nat.mul_pos (h1 a ha) (h2 b hb)
theorem prs_lt {n : Nat} {one other : Ms} (h1 : ∀ x ∈ one, ∀ y ∈ x.1, y < n) (h2 : ∀ x ∈ other, ∀ y ∈ x.1, y < n) : ∀ x ∈ prs one other, ∀ y ∈ x.1, y < n := fun x hx y hy => by
  obtain ⟨a, ha, b, hb, rfl⟩ := prs_mem hx
  rcases List.mem_append.mp hy with hy | hy
  · exact h1 a ha y hy
  · exact h2 b hb y hy
def bhM (R C : Nat) (one other : Ms) : Ms := lawM R C (prs one other)
section
variable {R C : Nat}
theorem nrm_app (a b : Ms) : nrm R C (a ++ b) = nrm R C a ++ nrm R C b := by unfold nrm; rw [List.map_append]
theorem mkN_len (a : Ms) : (mkM (nrm R C a)).length ≤ a.length := by have := mkM_len (nrm R C a); rwa [nrm_len] at this
theorem F_measure_g {ps : Ms} (hl : ∀ p ∈ ps, ∀ x ∈ p.1, x < R + C) (h1 : 1 ≤ R) (h2 : 1 ≤ C) (hR : R ≤ 12) (hC : C ≤ 12) (h0 : ps ≠ []) (hp : ∀ x ∈ ps, 1 ≤ x.2 ∧ x.2 ≤ 1000000) (hz : ps.length ≤ 500) (hlz : ∀ p ∈ ps, p.1.length ≤ 1000) (hs : sumW ps ≤ 10 ^ 30) (obs : List (List D)) (ho : obs.all D.noObs = true) :
    F_measure [.int (R : Int), .int (C : Int), .lst (ps.map thr)] obs = some (meaD (lawM R C ps), obs) := by
  refine FP.eq (run_wp rfl ?_)
  unfold b_measure
  have f1 := F_need_board_q (r := (R : Int)) (c := (C : Int)) (by omega) (by omega) obs
  have i1 := isi_lst (ps.map thr)
  have i2 := eqD_thrs ps []
  rw [decide_eq_false h0, List.map_nil] at i2
  have i3 : itD (.lst (ps.map thr)) = some (ps.map thr) := rfl
  simp [FP_of f1, i1, i2, i3]
  obtain ⟨I, hI⟩ : ∃ I : Ms → M → Prop, I = fun done m => ∃ x4 x5, m = ⟨[.pl (.int (R : Int)), .pl (.int (C : Int)), .pl (.lst (ps.map thr)), .ow (mD (mkM (nrm R C done))), x4, x5], obs⟩ := ⟨_, rfl⟩
  have e0 : D.dt [] = mD (mkM (nrm R C [])) := rfl
  refine wp_for thr ps I ?_ ?_ ?_
  · rw [hI, e0]; exact ⟨.un, .un, rfl⟩
  · intro done p rest m e hm
    rw [hI] at hm
    obtain ⟨x4, x5, rfl⟩ := hm
    have hpm : p ∈ ps := by rw [e]; simp
    have hp1 := hp p hpm
    have f := F_normal_of_g (hl p hpm) hR hC obs ho
    have f2 := F_need_strokes_g (hl p hpm) (hlz p hpm) obs
    have f3 := F_is_in_q (p.2 : Int) 1 1000000 obs
    rw [decide_eq_true (by omega)] at f3
    have hlen : (mkM (nrm R C done)).length < 100000 := by
      have h1 := mkN_len (R := R) (C := C) done
      have h2 := congrArg List.length e
      simp at h2
      omega
    have g1 := get_m (mkM (nrm R C done)) (norm R C p.1)
    have g2 := put_m (l := mkM (nrm R C done)) (norm R C p.1) (gN (mkM (nrm R C done)) (norm R C p.1) + p.2) hlen
    have g3 : pN (mkM (nrm R C done)) (norm R C p.1) (gN (mkM (nrm R C done)) (norm R C p.1) + p.2) = mkM (nrm R C (done ++ [p])) := by
      rw [nrm_app, mkM_app]; rfl
    rw [g3] at g2
    have j1 : isiD [thr p, .ty "tuple"] = some (.bl true) := rfl
    have j2 : lenU [thr p] = some (.int 2) := rfl
    have j3 : subD' (thr p) (.int 0) = some (.lst (natD p.1)) := subD'_tup0 _ _
    have j4 : subD' (thr p) (.int 1) = some (.int (p.2 : Int)) := subD'_tup1 _ _ _
    have gP : ∀ mm : M, Opd.get mm (.val (thr p)) = some (thr p) := fun _ => rfl
    have gT : ∀ mm : M, Opd.get mm (.val (tupN (norm R C p.1))) = some (tupN (norm R C p.1)) := fun _ => rfl
    refine ⟨[.pl (.int (R : Int)), .pl (.int (C : Int)), .pl (.lst (ps.map thr)), .ow (mD (mkM (nrm R C done))), .pl (thr p), x5], by rfl, ?_⟩
    have hI2 : ∀ m, m = (⟨[.pl (.int (R : Int)), .pl (.int (C : Int)), .pl (.lst (ps.map thr)), .ow (mD (mkM (nrm R C (done ++ [p])))), .pl (thr p), .pl (tupN (norm R C p.1))], obs⟩ : M) → I (done ++ [p]) m := fun m hm => by rw [hI]; exact ⟨_, _, hm⟩
    generalize tupN (norm R C p.1) = T at *
    generalize thr p = P at *
    generalize mkM (nrm R C done) = L at *
    generalize mkM (nrm R C (done ++ [p])) = L2 at *
    simp [j1, j2, j3, j4, gP, FP_of f, FP_of f2, FP_of f3]
    refine wp_dput (d := .int ((gN L (norm R C p.1) + p.2 : Nat) : Int)) (k := T) (dd := mD L) rfl (WP.eq (by simp [g1, j4, gP])) rfl g2 ?_
    simp
    exact hI2 _ rfl
  · intro m hm
    rw [hI] at hm
    obtain ⟨x4, x5, rfl⟩ := hm
    clear hI
    have hok := okm_mk (nrm_pos (R := R) (C := C) (fun x hx => by have := hp x hx; omega)) (by rw [nrm_len]; omega) (by rw [nrm_sum]; exact hs)
    have hlen := mkN_len (R := R) (C := C) ps
    have hlm : lawM R C ps = tidy (mkM (nrm R C ps)) := rfl
    rw [hlm]
    generalize mkM (nrm R C ps) = L at *
    have f := F_tidied_g hok obs
    have hg : ¬ (500 : Int) < (L.length : Nat) := by omega
    simp [len_m, hg, FP_of f]
end
end C
namespace C
open PySem PySem.Spec PyProof.Rows L2 PD Od
theorem sum_cast (m : Ms) : (m.map fun x => (x.2 : Int)).sum = ((sumW m : Nat) : Int) := by
  unfold sumW
  induction m with
  | nil => rfl
  | cons x m ih => rw [List.map_cons, List.sum_cons, ih, List.map_cons, List.sum_cons]; omega
theorem sum_ws (m : Ms) : sumD [.lst (m.map fun x => D.int (x.2 : Int))] = some (.int ((sumW m : Nat) : Int)) := by rw [sumD_map, sum_cast]
theorem F_weight_of_g {m : Ms} (hz : m.length ≤ 1000) (obs : List (List D)) : F_weight_of [meaD m] obs = some (.int ((sumW m : Nat) : Int), obs) := by
  refine FP.eq (run_wp rfl ?_)
  unfold b_weight_of
  have i1 : itD (meaD m) = some (m.map prM) := rfl
  have g := fun mm : M => get_mea mm m
  generalize meaD m = Me at *
  simp
  refine wp_lcm prM (fun x => .int (x.2 : Int)) m (by simp [i1]) rfl (size_le (by omega)) (fun x hx => ⟨[.pl Me, .pl (tupN x.1), .pl (.int (x.2 : Int))], rfl, rfl, rfl, by simp⟩) ?_
  have := sum_ws m
  simp [this]
theorem F__law_whole_g {m : Ms} (hz : m.length ≤ 1000) (obs : List (List D)) : F__law_whole [meaD m] obs = some (.int ((sumW m : Nat) : Int), obs) := by
  refine FP.eq (run_wp rfl ?_)
  unfold b__law_whole
  have i1 : itD (meaD m) = some (m.map prM) := rfl
  have g := fun mm : M => get_mea mm m
  generalize meaD m = Me at *
  simp
  refine wp_lcm prM (fun x => .int (x.2 : Int)) m (by simp [i1]) rfl (size_le (by omega)) (fun x hx => ⟨[.pl Me, .pl (tupN x.1), .pl (.int (x.2 : Int))], rfl, rfl, rfl, by simp⟩) ?_
  have := sum_ws m
  simp [this]
section
variable {R C : Nat}
theorem GM.l1 {m : Ms} (g : GM R C m) : ∀ x ∈ m, x.1.length ≤ R + C := fun x hx => by
  obtain ⟨h1, h2⟩ := g.eff x hx
  have := norm_nodup h1
  rw [h2] at this
  exact len_board this h1
theorem sumW_pos {m : Ms} (h : m ≠ []) (hp : ∀ x ∈ m, 0 < x.2) : 0 < sumW m := by
  cases m with
  | nil => exact absurd rfl h
  | cons x m =>
    have := hp x (List.mem_cons_self ..)
    unfold sumW
    rw [List.map_cons, List.sum_cons]
    omega
theorem bh_gm {one other : Ms} (h1 : ∀ x ∈ one, ∀ y ∈ x.1, y < R + C) (h2 : ∀ x ∈ other, ∀ y ∈ x.1, y < R + C) (p1 : ∀ x ∈ one, 0 < x.2) (p2 : ∀ x ∈ other, 0 < x.2) (n1 : one ≠ []) (n2 : other ≠ []) (hz : one.length * other.length ≤ 500) (hs : sumW one * sumW other ≤ 10 ^ 30) : GM R C (bhM R C one other) :=
  gm_law (prs_lt h1 h2) (prs_pos p1 p2) (fun z => by
    have := congrArg List.length z
    rw [prs_len] at this
    have h3 := List.length_pos_iff.mpr n1
    have h4 := List.length_pos_iff.mpr n2
    have := Nat.mul_pos h3 h4
    simp at *
    omega) (by rw [prs_len]; exact hz) (by rw [prs_sum]; exact hs)
theorem sumW_pN {l : Ms} (hn : (kM l).Nodup) (p : List Nat × Nat) : sumW (addM l p) = sumW l + p.2 := by
  unfold addM
  induction l with
  | nil => simp [pN, gN, sumW]
  | cons y l ih =>
    have hn : (y.1 :: kM l).Nodup := hn
    obtain ⟨n1, n2⟩ := List.nodup_cons.mp hn
    have e : ∀ (x : List Nat × Nat) (l : Ms), sumW (x :: l) = x.2 + sumW l := fun x l => by unfold sumW; rw [List.map_cons, List.sum_cons]
    by_cases h : y.1 = p.1
    · have e1 : gN (y :: l) p.1 = y.2 := by unfold gN; rw [List.find?_cons_of_pos (by simp [h])]; rfl
      have e2 : pN (y :: l) p.1 (y.2 + p.2) = (y.1, y.2 + p.2) :: l := by
        unfold pN
        rw [if_pos (by simp [h]), List.map_cons, if_pos h]
        congr 1
        have : l.map (fun kv => if kv.1 = p.1 then (kv.1, y.2 + p.2) else kv) = l.map id := List.map_congr_left fun x hx => by
          have : ¬ x.1 = p.1 := fun z => n1 (by rw [h, ← z]; exact List.mem_map.mpr ⟨x, hx, rfl⟩)
          rw [if_neg this]; rfl
        rw [this, List.map_id]
      rw [e1, e2, e, e]
      show y.2 + p.2 + sumW l = _
      omega
    · have e1 : gN (y :: l) p.1 = gN l p.1 := by unfold gN; rw [List.find?_cons_of_neg (by simp [h])]
      have e2 : pN (y :: l) p.1 (gN l p.1 + p.2) = y :: pN l p.1 (gN l p.1 + p.2) := by
        unfold pN
        rw [List.any_cons, show decide (y.1 = p.1) = false by simp [h], Bool.false_or]
        split
        · rw [List.map_cons, if_neg h]
        · rfl
      rw [e1, e2, e, e, ih n2]
      omega
theorem sumW_mk (ps : Ms) : sumW (mkM ps) = sumW ps := by
  have h : ∀ (ps l : Ms), (kM l).Nodup → sumW (ps.foldl addM l) = sumW l + sumW ps := by
    intro ps
    induction ps with
    | nil => intro l _; simp [sumW]
    | cons p ps ih =>
      intro l hn
      rw [List.foldl_cons, ih _ (addM_nd hn p), sumW_pN hn p]
      have : sumW (p :: ps) = p.2 + sumW ps := by unfold sumW; rw [List.map_cons, List.sum_cons]
      omega
  have := h ps [] .nil
  simpa [mkM, sumW] using this
theorem sumW_tidy {l : Ms} (hn : (kM l).Nodup) : sumW (tidy l) ≤ sumW l := by
  have h1 : sumW (tidy l) ≤ ((sortK (kM l)).map (gN l)).sum := by
    unfold sumW tidy
    rw [List.map_map]
    generalize sortK (kM l) = ks
    induction ks with
    | nil => exact Nat.le_refl _
    | cons k ks ih =>
      rw [List.map_cons, List.map_cons, List.sum_cons, List.sum_cons]
      have : gN l k / gcdL (wM l) ≤ gN l k := Nat.div_le_self ..
      exact Nat.add_le_add this ih
  have h2 : ((sortK (kM l)).map (gN l)).sum = sumW l := by
    rw [((sortK_perm (kM l)).map (gN l)).sum_nat, wM_keys hn]
    rfl
  omega
theorem sumW_law (ps : Ms) : sumW (lawM R C ps) ≤ sumW ps := by
  have := sumW_tidy (mkM_nd (nrm R C ps))
  rw [sumW_mk, nrm_sum] at this
  exact this
theorem len_law (ps : Ms) : (lawM R C ps).length ≤ ps.length := by unfold lawM; rw [tidy_len]; exact mkN_len ps
def pwM (R C : Nat) (m : Ms) : Nat → Ms
  | 0 => [([], 1)]
  | k + 1 => bhM R C (pwM R C m k) m
theorem pw_len (m : Ms) : ∀ k, (pwM R C m k).length ≤ m.length ^ k
  | 0 => Nat.le_refl _
  | k + 1 => by
    have h1 := len_law (R := R) (C := C) (prs (pwM R C m k) m)
    rw [prs_len] at h1
    have h2 := Nat.mul_le_mul_right m.length (pw_len m k)
    show (lawM R C _).length ≤ _
    rw [Nat.pow_succ]
    omega
theorem pw_sum (m : Ms) : ∀ k, sumW (pwM R C m k) ≤ sumW m ^ k
  | 0 => Nat.le_refl _
  | k + 1 => by
    have h1 := sumW_law (R := R) (C := C) (prs (pwM R C m k) m)
    rw [prs_sum] at h1
    have h2 := Nat.mul_le_mul_right (sumW m) (pw_sum m k)
    show sumW (lawM R C _) ≤ _
    rw [Nat.pow_succ]
    omega
structure PW (R C : Nat) (m : Ms) (n : Nat) : Prop where
  g : GM R C m
  z : m.length ^ n ≤ 500
  s : sumW m ^ n ≤ 10 ^ 30
theorem pow_mono {a k n : Nat} (h : 0 < a) (hk : k ≤ n) : a ^ k ≤ a ^ n := Nat.pow_le_pow_right h hk
theorem PW.at {m : Ms} {n : Nat} (h : PW R C m n) {k : Nat} (hk : k < n) : (pwM R C m k).length * m.length ≤ 500 ∧ sumW (pwM R C m k) * sumW m ≤ 10 ^ 30 := by
  have l0 := List.length_pos_iff.mpr h.g.ne
  have s0 := sumW_pos h.g.ne h.g.ok.p
  have h1 := Nat.mul_le_mul_right m.length (pw_len (R := R) (C := C) m k)
  have h2 := Nat.mul_le_mul_right (sumW m) (pw_sum (R := R) (C := C) m k)
  rw [← Nat.pow_succ] at h1 h2
  have h1 : (pwM R C m k).length * m.length ≤ m.length ^ (k + 1) := h1
  have h2 : sumW (pwM R C m k) * sumW m ≤ sumW m ^ (k + 1) := h2
  have h3 := pow_mono l0 (show k + 1 ≤ n from hk)
  have h4 := pow_mono s0 (show k + 1 ≤ n from hk)
  have := h.z
  have := h.s
  exact ⟨by omega, by omega⟩
structure PG (R C : Nat) (m : Ms) : Prop where
  e : ∀ x ∈ m, ∀ y ∈ x.1, y < R + C
  p : ∀ x ∈ m, 0 < x.2 ∧ x.2 ≤ 10 ^ 30
  l : ∀ x ∈ m, x.1.length ≤ 400
  n : m ≠ []
theorem GM.pg {m : Ms} (g : GM R C m) (h : R + C ≤ 400) : PG R C m := ⟨fun x hx => (g.eff x hx).1, fun x hx => ⟨g.ok.p x hx, g.ok.b x hx⟩, fun x hx => by have := g.l1 x hx; omega, g.ne⟩
theorem PW.pg {m : Ms} {n : Nat} (h : PW R C m n) (hz : R + C ≤ 400) : ∀ k, k ≤ n → PG R C (pwM R C m k)
  | 0, _ => by
    have e : pwM R C m 0 = [([], 1)] := rfl
    rw [e]
    refine ⟨fun x hx y hy => ?_, fun x hx => ?_, fun x hx => ?_, by simp⟩
    · rw [List.mem_singleton] at hx; subst hx; cases hy
    · rw [List.mem_singleton] at hx; subst hx; exact ⟨by decide, by decide⟩
    · rw [List.mem_singleton] at hx; subst hx; exact Nat.zero_le _
  | k + 1, hk => by
    have p := h.pg hz k (by omega)
    have a := h.at (k := k) hk
    exact (bh_gm (R := R) (C := C) p.e (fun x hx => (h.g.eff x hx).1) (fun x hx => (p.p x hx).1) h.g.ok.p p.n h.g.ne a.1 a.2).pg hz
end
end C
namespace C
open PySem PySem.Spec PyProof.Rows L2 PD Od
theorem sumW_cons (x : List Nat × Nat) (l : Ms) : sumW (x :: l) = x.2 + sumW l := by unfold sumW; rw [List.map_cons, List.sum_cons]
theorem mem_sumW : ∀ {m : Ms} {x : List Nat × Nat}, x ∈ m → x.2 ≤ sumW m
  | y :: m, x, h => by
    rw [sumW_cons]
    rcases List.mem_cons.mp h with rfl | h
    · omega
    · have := mem_sumW h; omega
end C
namespace C
open PySem PySem.Spec PyProof.Rows L2 PD Od
def shr (a b : Nat) : Rat := (((a : Nat) : Int) : Rat) / (((b : Nat) : Int) : Rat)
theorem F_lowered_n {a b : Nat} (hb : 0 < b) (hz : b ≤ 10 ^ 30) (obs : List (List D)) : F_lowered [.int (a : Int), .int (b : Int)] obs = some (cf (shr a b), obs) :=
  F_lowered_q (by omega) (by rw [Int.natAbs_natCast]; exact Nat.lt_of_le_of_lt hz (by decide)) obs
theorem F__law_share_n {a b : Nat} (hb : 0 < b) (hz : b ≤ 10 ^ 30) (ha : a ≤ 10 ^ 30) (obs : List (List D)) : F__law_share [.int (a : Int), .int (b : Int)] obs = some (cf (shr a b), obs) :=
  F__law_share_q (by omega) (by rw [Int.natAbs_natCast]; exact Nat.lt_of_le_of_lt ha big30) (by rw [Int.natAbs_natCast]; exact Nat.lt_of_le_of_lt hz (by decide)) obs
section
variable {R C : Nat}
theorem F_effect_g (h1 : 1 ≤ R) (h2 : 1 ≤ C) (hR : R ≤ 12) (hC : C ≤ 12) {ls : List Nat} (hl : ∀ x ∈ ls, x < R + C) (hz : ls.length ≤ 1000) (obs : List (List D)) (ho : obs.all D.noObs = true) :
    F_effect [.int (R : Int), .int (C : Int), .lst (natD ls)] obs = some (tupN (norm R C ls), obs) := by
  refine FP.eq (run_wp rfl ?_)
  unfold b_effect
  have f1 := F_need_board_q (r := (R : Int)) (c := (C : Int)) (by omega) (by omega) obs
  have f2 := F_need_strokes_g hl hz obs
  have f3 := F_normal_of_g hl hR hC obs ho
  simp [FP_of f1, FP_of f2, FP_of f3]
def inS (R C : Nat) (S : List Nat) (x : List Nat × Nat) : Bool := (sup R C x.1).all fun l => decide (l ∈ S)
def wiM (R C : Nat) (m : Ms) (S : List Nat) : Nat := sumW (m.filter (inS R C S))
theorem wi_le (m : Ms) (S : List Nat) : wiM R C m S ≤ sumW m := by
  unfold wiM
  induction m with
  | nil => exact Nat.le_refl _
  | cons x m ih =>
    rw [List.filter_cons, sumW_cons]
    split
    · rw [sumW_cons]; omega
    · omega
theorem in_lnub (S : List Nat) (x : Nat) : inU (.int (x : Int)) (lnD (nubL S)) = some (.bl (decide (x ∈ S))) := by
  rw [in_ln]
  congr 2
  rw [Bool.eq_iff_iff, List.contains_iff_mem, decide_eq_true_iff, mem_nubL]
theorem sup_len (ls : List Nat) : (sup R C ls).length ≤ R + C := by
  have := List.length_filter_le (fun x => fullL' R C ls || ls.contains x) (List.range (R + C))
  rwa [List.length_range] at this
theorem F_within_of_g {m : Ms} (g : GM R C m) (hR : R ≤ 12) (hC : C ≤ 12) {S : List Nat} (hz : S.length ≤ 1000) {d : D} (hd : itD d = some (natD S)) (hs : sumW m ≤ 10 ^ 30) (obs : List (List D)) :
    F_within_of [.int (R : Int), .int (C : Int), meaD m, d] obs = some (cf (shr (wiM R C m S) (sumW m)), obs) := by
  refine FP.eq (run_wp rfl ?_)
  unfold b_within_of
  have i1 : itD (meaD m) = some (m.map prM) := rfl
  have f4 := F_weight_of_g (m := m) (by have := g.len; omega) obs
  have f5 := F_lowered_n (a := wiM R C m S) (sumW_pos g.ne g.ok.p) hs obs
  have s1 := sum_ws (m.filter (inS R C S))
  have gg := fun mm : M => get_mea mm m
  have hmz : m.length ≤ 1000 := by have := g.len; omega
  simp
  refine wp_dcln rfl (WP.eq (by simp [hd])) hz ?_
  generalize hMe : meaD m = Me at *
  simp
  refine wp_lct prM (inS R C S) (fun x => .int (x.2 : Int)) m (by simp [i1]) rfl (size_le hmz) (fun x hx => ⟨[.pl (.int (R : Int)), .pl (.int (C : Int)), .pl Me, .pl d, .pl (lnD (nubL S)), .un, .un, .pl (tupN x.1), .pl (.int (x.2 : Int))], rfl, rfl, rfl, ?_, fun _ => by simp⟩) ?_
  · have f := F_support_of_g (g.eff x hx).1 hR hC (by have := g.l1 x hx; omega) (d := tupN x.1) rfl obs
    have e1 : itD (tupN (sup R C x.1)) = some (natD (sup R C x.1)) := rfl
    have hl := sup_len (R := R) (C := C) x.1
    simp
    refine wp_lcm (fun (n : Nat) => D.int (n : Int)) (fun n => .bl (decide (n ∈ S))) (sup R C x.1) (by simp [FP_of f, e1]; rfl) rfl (size_le (by omega)) (fun y hy => ⟨[.pl (.int (R : Int)), .pl (.int (C : Int)), .pl Me, .pl d, .pl (lnD (nubL S)), .un, .pl (.int (y : Int)), .pl (tupN x.1), .pl (.int (x.2 : Int))], rfl, rfl, rfl, by simp [in_lnub]⟩) ?_
    have ha := allD_map (fun n => decide (n ∈ S)) (sup R C x.1)
    simp [ha]
    rfl
  · have hw : sumW (m.filter (inS R C S)) = wiM R C m S := rfl
    rw [hw] at s1
    generalize (m.filter (inS R C S)).map (fun x => D.int (x.2 : Int)) = LL at *
    simp [s1, FP_of f4, FP_of f5]
end
end C
namespace C
open PySem PySem.Spec PyProof.Rows L2 PD Od
def keyQ (q : Rat) : List Key := [.inl q.num, .inl (q.den : Int)]
def entQ (l : List (Rat × D)) : D := .dt (l.map fun x => (keyQ x.1, x.2))
def pairQ (x : Rat × D) : D := .tup [cf x.1, x.2]
def sortQ (l : List (Rat × D)) : List (Rat × D) := l.mergeSort fun a b => decide (b.1 ≤ a.1)
theorem keyQ_inj {a b : Rat} (h : keyQ a = keyQ b) : a = b := by
  unfold keyQ at h
  injection h with h1 h2
  injection h2 with h2 _
  injection h1 with h1
  injection h2 with h2
  exact Rat.ext h1 (by omega)
abbrev Mid (q : Rat) : Prop := Sz 200 q
def denP (l : List (Rat × D)) : Nat := (l.map fun x => x.1.den).prod
theorem denP_snoc (l : List (Rat × D)) (x : Rat × D) : denP (l ++ [x]) = denP l * x.1.den := by unfold denP; simp
theorem denP_pos (l : List (Rat × D)) : 0 < denP l := by
  unfold denP
  induction l with
  | nil => decide
  | cons x l ih => rw [List.map_cons, List.prod_cons]; exact Nat.mul_pos x.1.den_pos ih
theorem denP_lt {l : List (Rat × D)} (h : ∀ x ∈ l, Mid x.1) : denP l ≤ 2 ^ (200 * l.length) := by
  unfold denP
  induction l with
  | nil => decide
  | cons x l ih =>
    rw [List.map_cons, List.prod_cons, List.length_cons, Nat.mul_succ, Nat.pow_add, Nat.mul_comm]
    refine Nat.mul_le_mul (ih fun y hy => h y (List.mem_cons_of_mem _ hy)) ?_
    exact Nat.le_of_lt (h x List.mem_cons_self).d
theorem denP_dvd {l : List (Rat × D)} {x : Rat × D} (h : x ∈ l) : x.1.den ∣ denP l := by
  unfold denP
  induction l with
  | nil => cases h
  | cons y l ih =>
    rw [List.map_cons, List.prod_cons]
    rcases List.mem_cons.mp h with rfl | h
    · exact Nat.dvd_mul_right _ _
    · exact Nat.dvd_trans (ih h) (Nat.dvd_mul_left _ _)
theorem log2_le {n k : Nat} (h : n ≤ 2 ^ k) : n.log2 ≤ k := by
  by_cases h0 : n = 0
  · subst h0; simp
  · have : n < 2 ^ (k + 1) := Nat.lt_of_le_of_lt h (Nat.pow_lt_pow_right (by decide) (by omega))
    have := (Nat.log2_lt h0).mpr this
    omega
theorem keyF_le {P : Nat} (hP : 0 < P) {a b : Rat} (ha : a.den ∣ P) (hb : b.den ∣ P) : keyF (P : Int) (keyQ a) ≤ keyF (P : Int) (keyQ b) ↔ b ≤ a := by
  obtain ⟨u, rfl⟩ := ha
  obtain ⟨v, hv⟩ := hb
  have da := a.den_pos
  have db := b.den_pos
  show -a.num * (((a.den * u : Nat) : Int) / (a.den : Int)) ≤ -b.num * (((a.den * u : Nat) : Int) / (b.den : Int)) ↔ _
  rw [hv]
  have e2 : ((b.den * v : Nat) : Int) / (b.den : Int) = v := by
    rw [← Int.natCast_ediv, Nat.mul_div_cancel_left _ db]
  rw [e2, ← hv]
  have e1 : ((a.den * u : Nat) : Int) / (a.den : Int) = u := by
    rw [← Int.natCast_ediv, Nat.mul_div_cancel_left _ da]
  rw [e1, Rat.le_iff]
  have hvI : (a.den : Int) * u = b.den * v := by exact_mod_cast hv
  have hm : (0 : Int) < (a.den : Int) * b.den := Int.mul_pos (by omega) (by omega)
  have hpi : (0 : Int) < (a.den : Int) * u := by exact_mod_cast hP
  have k1 : (-a.num * u) * ((a.den : Int) * b.den) = -(a.num * b.den) * ((a.den : Int) * u) := by grind
  have k2 : (-b.num * v) * ((a.den : Int) * b.den) = -(b.num * a.den) * ((a.den : Int) * u) := by
    rw [hvI]; grind
  constructor
  · intro h
    have := Int.mul_le_mul_of_nonneg_right h (Int.le_of_lt hm)
    rw [k1, k2] at this
    have := Int.le_of_mul_le_mul_right this hpi
    omega
  · intro h
    have h2 : -(a.num * b.den) ≤ -(b.num * a.den) := by omega
    have := Int.mul_le_mul_of_nonneg_right h2 (Int.le_of_lt hpi)
    rw [← k1, ← k2] at this
    exact Int.le_of_mul_le_mul_right this hm
theorem keyOk_q {l : List (Rat × D)} (hm : ∀ x ∈ l, Mid x.1) (hz : l.length ≤ 1000) {x : Rat × D} (hx : x ∈ l) : keyOk ((denP l : Nat) : Int) (keyQ x.1) = true := by
  have h1 := hm x hx
  have d0 := x.1.den_pos
  have h2 : (((denP l : Nat) : Int) / (x.1.den : Int)).natAbs.log2 ≤ 200 * l.length := by
    rw [← Int.natCast_ediv, Int.natAbs_natCast]
    exact log2_le (Nat.le_trans (Nat.div_le_self _ _) (denP_lt hm))
  have h3 : (-x.1.num).natAbs.log2 ≤ 200 := by
    rw [Int.natAbs_neg]
    exact log2_le (Nat.le_of_lt h1.n)
  have h4 : x.1.den.log2 ≤ 200 := log2_le (Nat.le_of_lt h1.d)
  unfold keyOk keyQ
  simp only [Bool.and_eq_true, decide_eq_true_eq, Int.natAbs_natCast]
  refine ⟨⟨by omega, by omega⟩, by omega⟩
theorem ordI_q {l : List (Rat × D)} : (ordI ((denP l : Nat) : Int) (l.map fun x => (keyQ x.1, x.2))).map (itemI (l.map fun x => (keyQ x.1, x.2))) = (sortQ l).map pairQ := by
  have el : (List.range l.length).map (fun i => l.getD i (0, .non)) = l := by
    apply List.ext_getElem?
    intro i
    rw [List.getElem?_map]
    by_cases hi : i < l.length
    · rw [List.getElem?_range hi, List.getElem?_eq_getElem hi]
      simp [List.getD_eq_getElem?_getD, hi]
    · rw [List.getElem?_eq_none (by simpa using hi), List.getElem?_eq_none (by omega)]
      rfl
  have key : ((List.range l.length).mergeSort fun i j => decide (keyF ((denP l : Nat) : Int) ((((l.map fun x => (keyQ x.1, x.2))[i]?).elim [] (·.1))) ≤ keyF ((denP l : Nat) : Int) ((((l.map fun x => (keyQ x.1, x.2))[j]?).elim [] (·.1))))).map (fun i => l.getD i (0, .non)) = sortQ l := by
    unfold sortQ
    conv => rhs; rw [← el]
    refine List.map_mergeSort fun i hi j hj => ?_
    have hi := List.mem_range.mp hi
    have hj := List.mem_range.mp hj
    have e1 : ((l.map fun x => (keyQ x.1, x.2))[i]?).elim ([] : List Key) (·.1) = keyQ (l.getD i (0, .non)).1 := by
      rw [List.getElem?_map, List.getElem?_eq_getElem hi, List.getD_eq_getElem?_getD, List.getElem?_eq_getElem hi]; rfl
    have e2 : ((l.map fun x => (keyQ x.1, x.2))[j]?).elim ([] : List Key) (·.1) = keyQ (l.getD j (0, .non)).1 := by
      rw [List.getElem?_map, List.getElem?_eq_getElem hj, List.getD_eq_getElem?_getD, List.getElem?_eq_getElem hj]; rfl
    rw [e1, e2]
    have m1 : l.getD i (0, .non) ∈ l := by rw [List.getD_eq_getElem?_getD, List.getElem?_eq_getElem hi]; exact List.getElem_mem hi
    have m2 : l.getD j (0, .non) ∈ l := by rw [List.getD_eq_getElem?_getD, List.getElem?_eq_getElem hj]; exact List.getElem_mem hj
    exact decide_eq_decide.mpr (keyF_le (denP_pos l) (denP_dvd m1) (denP_dvd m2))
  rw [← key, List.map_map]
  unfold ordI
  rw [List.length_map]
  refine List.map_congr_left fun i hi => ?_
  have hi : i < l.length := List.mem_range.mp ((List.mergeSort_perm _ _).mem_iff.mp hi)
  show itemI _ i = pairQ (l.getD i (0, .non))
  unfold itemI pairQ
  rw [List.getElem?_map, List.getElem?_eq_getElem hi, List.getD_eq_getElem?_getD, List.getElem?_eq_getElem hi]
  rfl
theorem keysOf_entQ (l : List (Rat × D)) : keysOf (entQ l) = some (l.map fun x => cf x.1) := by
  unfold entQ
  show some ((l.map fun x => (keyQ x.1, x.2)).map fun kv => tK kv.1) = _
  rw [List.map_map]
  rfl
theorem F_ordered_g {l : List (Rat × D)} (hm : ∀ x ∈ l, Mid x.1) (hz : l.length ≤ 1000) (obs : List (List D)) : F_ordered [entQ l] obs = some (.xt ((sortQ l).map pairQ), obs) := by
  refine FP.eq (run_wp rfl ?_)
  unfold b_ordered
  simp [keysOf_entQ]
  obtain ⟨I, hI⟩ : ∃ I : List (Rat × D) → M → Prop, I = fun done m => ∃ x2, m = ⟨[.pl (entQ l), .pl (.int ((denP done : Nat) : Int)), x2], obs⟩ := ⟨_, rfl⟩
  refine wp_for (fun x : Rat × D => cf x.1) l I ?_ ?_ ?_
  · rw [hI]; exact ⟨.un, rfl⟩
  · intro done x rest m e hm'
    rw [hI] at hm'
    obtain ⟨x2, rfl⟩ := hm'
    refine ⟨[.pl (entQ l), .pl (.int ((denP done : Nat) : Int)), .pl (cf x.1)], by cases x2 <;> rfl, ?_⟩
    have hx : x ∈ l := by rw [e]; simp
    have hd : ∀ y ∈ done, Mid y.1 := fun y hy => hm y (by rw [e]; exact List.mem_append_left _ hy)
    have hdz : done.length ≤ 1000 := by have := congrArg List.length e; simp at this; omega
    have c1 : CMulW ((denP done : Nat) : Int) (x.1.den : Int) := by
      unfold CMulW
      rw [Int.natAbs_natCast, Int.natAbs_natCast]
      have h1 := log2_le (denP_lt hd)
      have h2 : x.1.den.log2 ≤ 200 := log2_le (Nat.le_of_lt (hm x hx).d)
      omega
    have s1 : subD' (cf x.1) (.int 1) = some (.int (x.1.den : Int)) := rfl
    have m1 : mulD (.int ((denP done : Nat) : Int)) (.int (x.1.den : Int)) = some (.int ((denP (done ++ [x]) : Nat) : Int)) := by
      show (if CMulW ((denP done : Nat) : Int) (x.1.den : Int) then some (D.int (((denP done : Nat) : Int) * (x.1.den : Int))) else none) = _
      rw [if_pos c1, denP_snoc]
      rfl
    have hI2 : ∀ m, m = (⟨[.pl (entQ l), .pl (.int ((denP (done ++ [x]) : Nat) : Int)), .pl (cf x.1)], obs⟩ : M) → I (done ++ [x]) m := fun m hm => by rw [hI]; exact ⟨_, hm⟩
    generalize denP done = P1 at *
    generalize denP (done ++ [x]) = P2 at *
    have gT : ∀ m : M, Opd.get m (.val (cf x.1)) = some (cf x.1) := fun m => rfl
    generalize hT : cf x.1 = T at *
    simp [gT, s1, m1]
    exact hI2 _ rfl
  · intro m hm'
    rw [hI] at hm'
    obtain ⟨x2, rfl⟩ := hm'
    clear hI
    have e : ordK 0 1 ⟨[.pl (entQ l), .pl (.int ((denP l : Nat) : Int)), x2], obs⟩ = .ok (.lst ((sortQ l).map pairQ)) ⟨[.pl (entQ l), .pl (.int ((denP l : Nat) : Int)), x2], obs⟩ := by
      unfold ordK entQ
      simp only [List.getElem?_cons_zero, List.getElem?_cons_succ]
      rw [if_pos, ordI_q]
      rw [List.all_map, List.all_eq_true]
      intro x hx
      exact keyOk_q hm hz hx
    have w : ∀ Q : D → M → Prop, WP (ordK 0 1) ⟨[.pl (entQ l), .pl (.int ((denP l : Nat) : Int)), x2], obs⟩ Q ↔ Q (.lst ((sortQ l).map pairQ)) ⟨[.pl (entQ l), .pl (.int ((denP l : Nat) : Int)), x2], obs⟩ := fun Q => ⟨fun h => by
      obtain ⟨a, m', e2, q⟩ := h
      rw [e] at e2
      cases e2
      exact q, fun q => WP.of e q⟩
    have t : tupleXD [.lst ((sortQ l).map pairQ)] = some (.xt ((sortQ l).map pairQ)) := rfl
    generalize (sortQ l).map pairQ = N at *
    simp [w, t]
end C
namespace C
open PySem PySem.Spec PyProof.Rows L2 PD Od
def addJ (a : List (List Nat)) (k : List Nat) : List (List Nat) := if k ∈ a then a else a ++ [k]
def jD (ks : List (List Nat)) : D := .dt (ks.map fun k => (tKey k, D.bl true))
theorem putD_j (a : List (List Nat)) (x : List Nat) : putD (a.map fun k => (tKey k, D.bl true)) (tKey x) (.bl true) = (addJ a x).map fun k => (tKey k, D.bl true) := by
  unfold putD addJ
  rw [List.any_map]
  have e : ((fun kv : List Key × D => decide (kv.1 = tKey x)) ∘ fun k : List Nat => (tKey k, D.bl true)) = fun k => decide (k = x) := by
    funext k
    exact dec_tKey k x
  rw [e]
  by_cases h : x ∈ a
  · rw [if_pos (by rw [List.any_eq_true]; exact ⟨x, h, by simp⟩), if_pos h, List.map_map]
    refine List.map_congr_left fun y _ => ?_
    simp only [Function.comp_apply]
    split <;> rfl
  · rw [if_neg (by rw [List.any_eq_true]; rintro ⟨y, hy, q⟩; exact h ((of_decide_eq_true q) ▸ hy)), if_neg h, List.map_append]; rfl
theorem put_j {a : List (List Nat)} (k : List Nat) (hz : a.length < 100000) : putDD (tupN k) (.bl true) (jD a) = some (jD (addJ a k)) := by
  show (match keyT (tupN k) with | some kk => if (a.map fun k => (tKey k, D.bl true)).length < sizeLine then some (D.dt (putD (a.map fun k => (tKey k, D.bl true)) kk (.bl true))) else none | none => none) = _
  rw [keyT_nat]
  simp only []
  rw [List.length_map, if_pos (lt_size _ (by omega)), putD_j]
  rfl
theorem list_j (a : List (List Nat)) : listTD [jD a] = some (.lst (a.map tupN)) := by
  show some (D.lst ((a.map fun k => (tKey k, D.bl true)).map fun kv => tK kv.1)) = _
  rw [List.map_map]
  congr 2
  refine List.map_congr_left fun k _ => ?_
  show D.tup ((tKey k).map dK) = D.tup (natD k)
  unfold tKey natD
  rw [List.map_map]
  rfl
theorem len_j (a : List (List Nat)) : lenU [jD a] = some (.int (a.length : Nat)) := by
  show some (D.int ((a.map fun k => (tKey k, D.bl true)).length : Nat)) = _
  rw [List.length_map]
theorem allKeysZ_j : ∀ l : List (List Nat), allKeysZ (l.map fun k => (tKey k, D.bl true)) = some (l.map cz)
  | [] => rfl
  | x :: l => by
    rw [List.map_cons]
    show (keyZs (tKey x)).bind _ = _
    have h : ∀ k : List Nat, keyZs (tKey k) = some (cz k) := fun k => by
      induction k with
      | nil => rfl
      | cons a k ih =>
        show (keyZs (tKey k)).map _ = _
        rw [ih]; rfl
    rw [h, Option.bind_some, allKeysZ_j l]
    rfl
theorem tupZ_cz (k : List Nat) : tupZ (cz k) = tupN k := by
  unfold tupZ cz tupN
  rw [natD_ints]
theorem map_tupZ_cz (l : List (List Nat)) : (l.map cz).map tupZ = l.map tupN := by
  rw [List.map_map]
  exact List.map_congr_left fun k _ => tupZ_cz k
theorem sorted_j (l : List (List Nat)) : sortedDZD [jD l] = some (.lst ((sortK l).map tupN)) := by
  unfold jD
  show (allKeysZ _).map _ = _
  rw [allKeysZ_j l]
  show some (D.lst ((sortZ (l.map cz)).map tupZ)) = _
  rw [← sortK_cast, map_tupZ_cz]
theorem addJ_nd {a : List (List Nat)} (h : a.Nodup) (x : List Nat) : (addJ a x).Nodup := by
  unfold addJ
  split
  · exact h
  · rename_i hk
    rw [List.nodup_append]
    exact ⟨h, by simp, fun a ha b hb e => by rw [List.mem_singleton] at hb; subst hb; subst e; exact hk ha⟩
theorem addJ_mem {a : List (List Nat)} {x y : List Nat} : y ∈ addJ a x ↔ y ∈ a ∨ y = x := by
  unfold addJ
  split
  · rename_i h
    exact ⟨.inl, fun z => z.elim id fun e => e ▸ h⟩
  · rw [List.mem_append, List.mem_singleton]
theorem addJ_len (a : List (List Nat)) (x : List Nat) : (addJ a x).length ≤ a.length + 1 := by
  unfold addJ
  split
  · omega
  · rw [List.length_append, List.length_singleton]; omega
section
variable {α : Type}
theorem foldJ (f : α → List Nat) : ∀ (xs : List α) (a : List (List Nat)), a.Nodup → (xs.foldl (fun a x => addJ a (f x)) a).Nodup ∧ (∀ y, y ∈ xs.foldl (fun a x => addJ a (f x)) a ↔ y ∈ a ∨ ∃ x ∈ xs, y = f x) ∧ (xs.foldl (fun a x => addJ a (f x)) a).length ≤ a.length + xs.length
  | [], a, h => ⟨h, fun y => by simp, by simp⟩
  | x :: xs, a, h => by
    obtain ⟨h1, h2, h3⟩ := foldJ f xs (addJ a (f x)) (addJ_nd h _)
    refine ⟨h1, fun y => ?_, ?_⟩
    · rw [List.foldl_cons, h2, addJ_mem]
      constructor
      · rintro ((h | h) | ⟨z, hz, e⟩)
        · exact .inl h
        · exact .inr ⟨x, List.mem_cons_self .., h⟩
        · exact .inr ⟨z, List.mem_cons_of_mem _ hz, e⟩
      · rintro (h | ⟨z, hz, e⟩)
        · exact .inl (.inl h)
        · rcases List.mem_cons.mp hz with rfl | hz
          · exact .inl (.inr e)
          · exact .inr ⟨z, hz, e⟩
    · have := addJ_len a (f x)
      rw [List.foldl_cons, List.length_cons]
      omega
end
section
variable (R C : Nat)
def jS (acc : List (List Nat)) (one : List Nat) : List (List Nat) := acc.foldl (fun a k => addJ a (sup R C (k ++ sup R C one))) acc
def jM (m : Ms) : List (List Nat) := m.foldl (fun acc x => jS R C acc x.1) [[]]
def jT (acc : List (List Nat)) (one : List Nat) : List (List Nat) := acc ++ acc.map fun k => sup R C (k ++ one)
def jL (m : Ms) : List (List Nat) := m.foldl (fun acc x => jT R C acc x.1) [[]]
variable {R C}
theorem jS_nd {acc : List (List Nat)} (h : acc.Nodup) (one : List Nat) : (jS R C acc one).Nodup := (foldJ (fun k => sup R C (k ++ sup R C one)) acc acc h).1
theorem jS_mem {acc : List (List Nat)} (h : acc.Nodup) {one y : List Nat} : y ∈ jS R C acc one ↔ y ∈ acc ∨ ∃ k ∈ acc, y = sup R C (k ++ one) := by
  unfold jS
  rw [(foldJ (fun k => sup R C (k ++ sup R C one)) acc acc h).2.1]
  simp only [sup_app_sup]
theorem jT_mem {acc : List (List Nat)} {one y : List Nat} : y ∈ jT R C acc one ↔ y ∈ acc ∨ ∃ k ∈ acc, y = sup R C (k ++ one) := by
  unfold jT
  rw [List.mem_append, List.mem_map]
  constructor
  · rintro (h | ⟨k, hk, e⟩)
    · exact .inl h
    · exact .inr ⟨k, hk, e.symm⟩
  · rintro (h | ⟨k, hk, e⟩)
    · exact .inl h
    · exact .inr ⟨k, hk, e.symm⟩
theorem jS_len {acc : List (List Nat)} (h : acc.Nodup) (one : List Nat) : (jS R C acc one).length ≤ 2 * acc.length := by
  have := (foldJ (fun k => sup R C (k ++ sup R C one)) acc acc h).2.2
  unfold jS
  omega
theorem jM_at : ∀ (m : Ms) (acc : List (List Nat)), acc.Nodup → (m.foldl (fun acc x => jS R C acc x.1) acc).Nodup ∧ (m.foldl (fun acc x => jS R C acc x.1) acc).length ≤ 2 ^ m.length * acc.length
  | [], acc, h => ⟨h, by simp⟩
  | x :: m, acc, h => by
    obtain ⟨h1, h2⟩ := jM_at m _ (jS_nd h x.1)
    refine ⟨h1, Nat.le_trans h2 ?_⟩
    rw [List.length_cons, Nat.pow_succ, Nat.mul_assoc]
    exact Nat.mul_le_mul_left _ (jS_len h x.1)
theorem jML : ∀ (m : Ms) (a b : List (List Nat)), a.Nodup → (∀ y, y ∈ a ↔ y ∈ b) → ∀ y, y ∈ m.foldl (fun acc x => jS R C acc x.1) a ↔ y ∈ m.foldl (fun acc x => jT R C acc x.1) b
  | [], a, b, h, e => e
  | x :: m, a, b, h, e => jML m _ _ (jS_nd h x.1) fun y => by rw [jS_mem h, jT_mem, e]; simp only [e]
theorem jM_nd (m : Ms) : (jM R C m).Nodup := (jM_at m [[]] (by simp)).1
theorem jM_len (m : Ms) : (jM R C m).length ≤ 2 ^ m.length := by
  have := (jM_at (R := R) (C := C) m [[]] (by simp)).2
  rw [List.length_singleton, Nat.mul_one] at this
  exact this
theorem jM_jL (m : Ms) (y : List Nat) : y ∈ jM R C m ↔ y ∈ jL R C m := jML m [[]] [[]] (by simp) (fun _ => Iff.rfl) y
def allL (m : Ms) : List Nat := m.flatMap fun x => x.1
theorem sup_app_l (a b : List Nat) : sup R C (a ++ b) = sup R C (sup R C a ++ b) := by
  have c : ∀ x y : List Nat, sup R C (x ++ y) = sup R C (y ++ x) := fun x y => sup_perm fun z => by rw [List.mem_append, List.mem_append]; exact Or.comm
  rw [c (sup R C a), sup_app_sup, c]
theorem jL_top : ∀ (m : Ms) (acc : List (List Nat)) (pre : List Nat), sup R C pre ∈ acc → sup R C (pre ++ allL m) ∈ m.foldl (fun acc x => jT R C acc x.1) acc
  | [], acc, pre, h => by simpa [allL] using h
  | q :: m, acc, pre, h => by
    have ih := jL_top m (jT R C acc q.1) (pre ++ q.1) (jT_mem.mpr (.inr ⟨_, h, sup_app_l _ _⟩))
    unfold allL
    rw [List.flatMap_cons, ← List.append_assoc]
    exact ih
end
end C
namespace C
open PySem PySem.Spec PyProof.Rows L2 PD Od
section
variable {R C : Nat}
theorem sup_bd (ls : List Nat) : ∀ x ∈ sup R C ls, x < R + C := fun x hx => (mem_sup.mp hx).1
theorem jS_bd {acc : List (List Nat)} (n : acc.Nodup) (h : ∀ k ∈ acc, (∀ x ∈ k, x < R + C) ∧ k.length ≤ R + C) (one : List Nat) : ∀ k ∈ jS R C acc one, (∀ x ∈ k, x < R + C) ∧ k.length ≤ R + C := fun k hk => by
  rcases (jS_mem n).mp hk with hk | ⟨z, hz, rfl⟩
  · exact h k hk
  · exact ⟨sup_bd _, sup_len _⟩
theorem jM_bd : ∀ (m : Ms) (acc : List (List Nat)), acc.Nodup → (∀ k ∈ acc, (∀ x ∈ k, x < R + C) ∧ k.length ≤ R + C) → ∀ k ∈ m.foldl (fun acc x => jS R C acc x.1) acc, (∀ x ∈ k, x < R + C) ∧ k.length ≤ R + C
  | [], acc, n, h => h
  | x :: m, acc, n, h => jM_bd m _ (jS_nd n x.1) (jS_bd n h x.1)
theorem jM_bd0 (m : Ms) : ∀ k ∈ jM R C m, (∀ x ∈ k, x < R + C) ∧ k.length ≤ R + C := jM_bd m [[]] (by simp) (fun k hk => by rw [List.mem_singleton] at hk; subst hk; exact ⟨(fun x hx => nomatch hx), Nat.zero_le _⟩)
theorem jM_snoc (m : Ms) (x : List Nat × Nat) : jM R C (m ++ [x]) = jS R C (jM R C m) x.1 := by unfold jM; rw [List.foldl_append]; rfl
theorem F_joins_of_g {m : Ms} (g : GM R C m) (hR : R ≤ 12) (hC : C ≤ 12) (hz : m.length ≤ 5) (obs : List (List D)) : F_joins_of [.int (R : Int), .int (C : Int), meaD m] obs = some (.lst ((sortK (jM R C m)).map tupN), obs) := by
  refine FP.eq (run_wp rfl ?_)
  unfold b_joins_of
  have i1 : itD (meaD m) = some (m.map prM) := rfl
  have e0 : D.dt [([], D.bl true)] = jD (jM R C []) := rfl
  have k0 : keyT (.tup []) = some [] := rfl
  generalize hM : meaD m = M1 at *
  simp [k0, i1]
  obtain ⟨I, hI⟩ : ∃ I : Ms → M → Prop, I = fun done m => ∃ x4 x5 x6 x7, m = ⟨[.pl (.int (R : Int)), .pl (.int (C : Int)), .pl M1, .ow (jD (jM R C done)), x4, x5, x6, x7], obs⟩ := ⟨_, rfl⟩
  refine wp_for prM m I ?_ ?_ ?_
  · rw [hI]; exact ⟨.un, .un, .un, .un, rfl⟩
  · intro done x rest mm e hm
    rw [hI] at hm
    obtain ⟨x4, x5, x6, x7, rfl⟩ := hm
    have hx : x ∈ m := by rw [e]; simp
    have hdl : done.length + 1 ≤ 5 := by
      have h3 := congrArg List.length e
      simp at h3
      omega
    refine ⟨[.pl (.int (R : Int)), .pl (.int (C : Int)), .pl M1, .ow (jD (jM R C done)), .pl (tupN x.1), .pl (.int (x.2 : Int)), x6, x7], by rfl, ?_⟩
    have f := F_support_of_g (g.eff x hx).1 hR hC (by have := g.l1 x hx; omega) (d := tupN x.1) rfl obs
    have hbd := jM_bd0 (R := R) (C := C) done
    have hnd := jM_nd (R := R) (C := C) done
    have hjl : (jM R C done).length ≤ 16 := Nat.le_trans (jM_len done) (Nat.le_trans (Nat.pow_le_pow_right (by decide) (show done.length ≤ 4 by omega)) (by decide))
    have hsn := jM_snoc (R := R) (C := C) done x
    have hj2 : (jM R C (done ++ [x])).length ≤ 32 := Nat.le_trans (jM_len _) (Nat.le_trans (Nat.pow_le_pow_right (by decide) (show (done ++ [x]).length ≤ 5 by simp; omega)) (by decide))
    have hI2 : ∀ y7 m, m = (⟨[.pl (.int (R : Int)), .pl (.int (C : Int)), .pl M1, .ow (jD (jM R C (done ++ [x]))), .pl (tupN x.1), .pl (.int (x.2 : Int)), .pl (tupN (sup R C x.1)), y7], obs⟩ : M) → I (done ++ [x]) m := fun y7 m hm => by rw [hI]; exact ⟨_, _, _, _, hm⟩
    rw [hsn] at hj2 hI2
    clear hsn
    obtain ⟨A, hA⟩ : ∃ A, A = jM R C done := ⟨_, rfl⟩
    rw [← hA] at hbd hnd hjl hj2 hI2 ⊢
    have l1 := list_j A
    have i2 : itD (.lst (A.map tupN)) = some (A.map tupN) := rfl
    simp [FP_of f, l1, i2]
    obtain ⟨J, hJ⟩ : ∃ J : List (List Nat) → M → Prop, J = fun dn m => ∃ x7, m = ⟨[.pl (.int (R : Int)), .pl (.int (C : Int)), .pl M1, .ow (jD (dn.foldl (fun a k => addJ a (sup R C (k ++ sup R C x.1))) A)), .pl (tupN x.1), .pl (.int (x.2 : Int)), .pl (tupN (sup R C x.1)), x7], obs⟩ := ⟨_, rfl⟩
    refine wp_for tupN A J ?_ ?_ ?_
    · rw [hJ]; exact ⟨x7, rfl⟩
    · intro dn k rs m2 e2 hm
      rw [hJ] at hm
      obtain ⟨x7, rfl⟩ := hm
      have hk : k ∈ A := by rw [e2]; simp
      have hl : ∀ y ∈ k ++ sup R C x.1, y < R + C := fun y hy => (List.mem_append.mp hy).elim ((hbd k hk).1 y) (sup_bd _ y)
      have hkz := (hbd k hk).2
      have hsz := sup_len (R := R) (C := C) x.1
      have f2 := F_support_of_g hl hR hC (by rw [List.length_append]; omega) (d := .lst (natD (k ++ sup R C x.1))) rfl obs
      obtain ⟨L, hL⟩ : ∃ L, L = dn.foldl (fun a k => addJ a (sup R C (k ++ sup R C x.1))) A := ⟨_, rfl⟩
      have hlen : L.length < 100000 := by
        have h3 := (foldJ (fun k => sup R C (k ++ sup R C x.1)) dn A hnd).2.2
        rw [← hL] at h3
        have h4 := congrArg List.length e2
        simp at h4
        omega
      have g2 := put_j (a := L) (sup R C (k ++ sup R C x.1)) hlen
      have g3 : addJ L (sup R C (k ++ sup R C x.1)) = (dn ++ [k]).foldl (fun a k => addJ a (sup R C (k ++ sup R C x.1))) A := by rw [List.foldl_append, ← hL]; rfl
      rw [g3] at g2
      have s1 : seqOf (tupN k) = some (natD k) := rfl
      have s2 : seqOf (tupN (sup R C x.1)) = some (natD (sup R C x.1)) := rfl
      have s3 : natD k ++ natD (sup R C x.1) = natD (k ++ sup R C x.1) := natD_app _ _
      have sz : (natD (k ++ sup R C x.1)).length ≤ sizeLine := by
        rw [natD_len, List.length_append]
        exact size_le (by omega)
      have hJ2 : ∀ m, m = (⟨[.pl (.int (R : Int)), .pl (.int (C : Int)), .pl M1, .ow (jD ((dn ++ [k]).foldl (fun a k => addJ a (sup R C (k ++ sup R C x.1))) A)), .pl (tupN x.1), .pl (.int (x.2 : Int)), .pl (tupN (sup R C x.1)), .pl (tupN k)], obs⟩ : M) → J (dn ++ [k]) m := fun m hm => by rw [hJ]; exact ⟨_, hm⟩
      rw [← hL]
      refine ⟨[.pl (.int (R : Int)), .pl (.int (C : Int)), .pl M1, .ow (jD L), .pl (tupN x.1), .pl (.int (x.2 : Int)), .pl (tupN (sup R C x.1)), .pl (tupN k)], by rfl, ?_⟩
      generalize (dn ++ [k]).foldl (fun a k => addJ a (sup R C (k ++ sup R C x.1))) A = L2 at *
      generalize hT : tupN (sup R C (k ++ sup R C x.1)) = T at *
      generalize tupN (sup R C x.1) = T1 at *
      generalize tupN k = T2 at *
      refine wp_dput (d := .bl true) (k := T) (dd := jD L) rfl rfl (WP.eq (by simp [s1, s2, s3, sz, FP_of f2])) g2 ?_
      · simp
        exact hJ2 _ rfl
    · intro m hm
      rw [hJ] at hm
      obtain ⟨x7, rfl⟩ := hm
      have hA2 : A.foldl (fun a k => addJ a (sup R C (k ++ sup R C x.1))) A = jS R C A x.1 := rfl
      rw [hA2]
      have hg : ¬ (500 : Int) < ((jS R C A x.1).length : Nat) := by omega
      generalize jS R C A x.1 = L2 at *
      simp [len_j, hg]
      exact hI2 _ _ rfl
  · intro mm hm
    rw [hI] at hm
    obtain ⟨x4, x5, x6, x7, rfl⟩ := hm
    have s1 := sorted_j (jM R C m)
    generalize jM R C m = A at *
    generalize (sortK A).map tupN = LL at *
    simp [s1]
end
end C
namespace C
open PySem PySem.Spec PyProof.Rows L2 PD Od
theorem dcTL_m {β : Type} {t : Bool} {is vs : List Nat} {fk fv : Co D} {E : List PD.Slot} {obs : List (List D)} (enc : β → D) (kd : β → D) (kf : β → List Key) (vf : β → D) : ∀ (xs : List β) (acc : List (List Key × D)),
    (∀ x ∈ xs, ∃ e1, setTg t is (enc x) E = some e1 ∧ noOw vs e1 = true ∧ wipeE e1 vs = E ∧ (WP fk ⟨e1, obs⟩ fun y m1 => y = kd x ∧ m1 = ⟨e1, obs⟩) ∧ keyT (kd x) = some (kf x) ∧ (WP fv ⟨e1, obs⟩ fun y m1 => y = vf x ∧ m1 = ⟨e1, obs⟩)) →
    dcTL t is vs (Co.ret true) fk fv (xs.map enc) acc ⟨E, obs⟩ = .ok (xs.foldl (fun a x => putD a (kf x) (vf x)) acc) ⟨E, obs⟩
  | [], acc, _ => rfl
  | x :: xs, acc, h => by
    obtain ⟨e1, h1, h2, h3, h4, h5, h6⟩ := h x List.mem_cons_self
    have h4 := WP.eq h4
    have h6 := WP.eq h6
    have ht : (Co.ret true : Co Bool) ⟨e1, obs⟩ = .ok true ⟨e1, obs⟩ := rfl
    rw [List.map_cons]
    unfold dcTL
    simp only [h1, ht, h4, h6, h5, h2, if_true, h3]
    exact dcTL_m enc kd kf vf xs _ fun y hy => h y (List.mem_cons_of_mem _ hy)
theorem wp_dcTm {β : Type} {fi : Co (List D)} {t : Bool} {is vs : List Nat} {fk fv : Co D} {Q : D → M → Prop} {env : List PD.Slot} {obs : List (List D)} (enc : β → D) (kd : β → D) (kf : β → List Key) (vf : β → D) (xs : List β)
    (hi : WP fi ⟨env, obs⟩ fun ds m1 => ds = xs.map enc ∧ m1 = ⟨env, obs⟩) (hn : noOw vs env = true) (hz : xs.length < sizeLine)
    (hs : ∀ x ∈ xs, ∃ e1, setTg t is (enc x) (wipeE env vs) = some e1 ∧ noOw vs e1 = true ∧ wipeE e1 vs = wipeE env vs ∧ (WP fk ⟨e1, obs⟩ fun y m1 => y = kd x ∧ m1 = ⟨e1, obs⟩) ∧ keyT (kd x) = some (kf x) ∧ (WP fv ⟨e1, obs⟩ fun y m1 => y = vf x ∧ m1 = ⟨e1, obs⟩))
    (q : Q (.dt (xs.foldl (fun a x => putD a (kf x) (vf x)) [])) ⟨env, obs⟩) : WP (eDcT fi t is vs (Co.ret true) fk fv) ⟨env, obs⟩ Q := by
  have hi := WP.eq hi
  refine WP.of ?_ q
  unfold eDcT
  rw [bind_ap, hi]
  dsimp only
  rw [if_pos ⟨hn, by rw [List.length_map]; exact hz⟩, dcTL_m enc kd kf vf xs [] hs]
  dsimp only
  rw [unwipe_self]
def addQ (a : List Rat) (q : Rat) : List Rat := if q ∈ a then a else a ++ [q]
def nubQ (l : List Rat) : List Rat := l.foldl addQ []
theorem addQ_nd {a : List Rat} (h : a.Nodup) (x : Rat) : (addQ a x).Nodup := by
  unfold addQ
  split
  · exact h
  · rename_i n
    exact List.nodup_append.mpr ⟨h, by simp, fun y hy z hz => by rw [List.mem_singleton.mp hz]; exact fun e => n (e ▸ hy)⟩
theorem addQ_mem {a : List Rat} {x y : Rat} : y ∈ addQ a x ↔ y ∈ a ∨ y = x := by
  unfold addQ
  split
  · rename_i h
    exact ⟨.inl, fun z => z.elim id fun e => e ▸ h⟩
  · rw [List.mem_append, List.mem_singleton]
theorem fold_addQ : ∀ (l a : List Rat), a.Nodup → (l.foldl addQ a).Nodup ∧ (∀ y, y ∈ l.foldl addQ a ↔ y ∈ a ∨ y ∈ l) ∧ (l.foldl addQ a).length ≤ a.length + l.length
  | [], a, h => ⟨h, by simp, by simp⟩
  | x :: l, a, h => by
    obtain ⟨h1, h2, h3⟩ := fold_addQ l (addQ a x) (addQ_nd h x)
    refine ⟨h1, fun y => ?_, ?_⟩
    · rw [List.foldl_cons, h2, addQ_mem, List.mem_cons, or_assoc]
    · rw [List.foldl_cons, List.length_cons]
      have : (addQ a x).length ≤ a.length + 1 := by unfold addQ; split <;> simp
      omega
theorem mem_nubQ {l : List Rat} {y : Rat} : y ∈ nubQ l ↔ y ∈ l := by unfold nubQ; rw [(fold_addQ l [] .nil).2.1]; simp
theorem nubQ_len (l : List Rat) : (nubQ l).length ≤ l.length := by have h := (fold_addQ l [] .nil).2.2; rw [List.length_nil, Nat.zero_add] at h; exact h
theorem putD_q (d : D) (a : List Rat) (x : Rat) : putD (a.map fun q => (keyQ q, d)) (keyQ x) d = (addQ a x).map fun q => (keyQ q, d) := by
  have e : ((a.map fun q => (keyQ q, d)).any fun kv => decide (kv.1 = keyQ x)) = decide (x ∈ a) := by
    rw [List.any_map, Bool.eq_iff_iff, List.any_eq_true, decide_eq_true_iff]
    constructor
    · rintro ⟨q, hq, h⟩
      have := keyQ_inj (of_decide_eq_true h)
      exact this ▸ hq
    · intro h
      exact ⟨x, h, decide_eq_true rfl⟩
  unfold putD addQ
  rw [e]
  by_cases h : x ∈ a
  · rw [if_pos (decide_eq_true h), if_pos h, List.map_map]
    refine List.map_congr_left fun q _ => ?_
    show (if keyQ q = keyQ x then (keyQ q, d) else (keyQ q, d)) = _
    split <;> rfl
  · rw [if_neg (by simpa using h), if_neg h, List.map_append]
    rfl
theorem fold_putQ (d : D) {β : Type} (f : β → Rat) : ∀ (xs : List β) (a : List Rat), xs.foldl (fun acc x => putD acc (keyQ (f x)) d) (a.map fun q => (keyQ q, d)) = ((xs.map f).foldl addQ a).map fun q => (keyQ q, d)
  | [], a => rfl
  | x :: xs, a => by
    rw [List.foldl_cons, putD_q, List.map_cons, List.foldl_cons]
    exact fold_putQ d f xs _
def sortR (l : List Rat) : List Rat := l.mergeSort fun a b => decide (b ≤ a)
theorem sortQ_fst (d : D) (l : List Rat) : (sortQ (l.map fun q => (q, d))).map (·.1) = sortR l := by
  unfold sortQ sortR
  rw [List.map_mergeSort (s := fun a b => decide (b ≤ a)) (fun a _ b _ => rfl), List.map_map]
  congr 1
  exact List.map_id _
theorem sortR_perm (l : List Rat) : (sortR l).Perm l := List.mergeSort_perm _ _
theorem sortR_desc (l : List Rat) : (sortR l).Pairwise fun a b => b ≤ a := by
  have := List.pairwise_mergeSort (le := fun a b : Rat => decide (b ≤ a)) (fun a b c h1 h2 => decide_eq_true (Rat.le_trans (of_decide_eq_true h2) (of_decide_eq_true h1))) (fun a b => by
    have := Rat.le_total (a := a) (b := b)
    rcases this with h | h <;> simp [h]) l
  exact this.imp fun h => of_decide_eq_true h
section
variable {R C : Nat}
def valQ (R C : Nat) (m : Ms) (S : List Nat) : Rat := shr (wiM R C m S) (sumW m)
def lvM (R C : Nat) (m : Ms) : List Rat := sortR (nubQ ((sortK (jM R C m)).map (valQ R C m)))
theorem shr_sz {a b : Nat} (hb : 0 < b) (hz : b ≤ 10 ^ 30) (ha : a ≤ 10 ^ 30) : Sz 100 (shr a b) :=
  Sz.of hb (by rw [Int.natAbs_natCast]; exact Nat.lt_of_le_of_lt ha (by decide)) (Nat.lt_of_le_of_lt hz (by decide))
theorem valQ_sz {m : Ms} (g : GM R C m) (hs : sumW m ≤ 10 ^ 30) (S : List Nat) : Sz 100 (valQ R C m S) := shr_sz (sumW_pos g.ne g.ok.p) hs (Nat.le_trans (wi_le m S) hs)
theorem F_least_of_g {m : Ms} (g : GM R C m) (hR : R ≤ 12) (hC : C ≤ 12) (hz : m.length ≤ 5) (hs : sumW m ≤ 10 ^ 30) (obs : List (List D)) :
    F_least_of [.int (R : Int), .int (C : Int), meaD m] obs = some (.lst ((lvM R C m).map cf), obs) := by
  refine FP.eq (run_wp rfl ?_)
  unfold b_least_of
  have f1 := F_joins_of_g g hR hC hz obs
  have hjl : (jM R C m).length ≤ 32 := Nat.le_trans (jM_len m) (Nat.le_trans (Nat.pow_le_pow_right (by decide) hz) (by decide))
  have hlen : (sortK (jM R C m)).length ≤ 32 := by rw [(sortK_perm _).length_eq]; exact hjl
  have gg := fun mm : M => get_mea mm m
  have hbd := fun S hS => jM_bd0 (R := R) (C := C) m S ((sortK_perm _).mem_iff.mp hS)
  simp
  refine wp_dcTm tupN (fun S => cf (valQ R C m S)) (fun S => keyQ (valQ R C m S)) (fun _ => .bl true) (sortK (jM R C m)) (by simp [FP_of f1, gg]) rfl (lt_size _ (by omega)) (fun S hS => ⟨[.pl (.int (R : Int)), .pl (.int (C : Int)), .pl (meaD m), .un, .pl (tupN S), .un, .un], rfl, rfl, rfl, ?_, rfl, by simp⟩) ?_
  · have f2 := F_within_of_g g hR hC (S := S) (by have := (hbd S hS).2; omega) (d := tupN S) rfl hs obs
    have e : cf (shr (wiM R C m S) (sumW m)) = cf (valQ R C m S) := rfl
    rw [e] at f2
    generalize cf (valQ R C m S) = W at *
    generalize tupN S = T at *
    generalize meaD m = Me at *
    simp [FP_of f2]
  · have e : D.dt ((sortK (jM R C m)).foldl (fun a S => putD a (keyQ (valQ R C m S)) (.bl true)) []) = entQ ((nubQ ((sortK (jM R C m)).map (valQ R C m))).map fun q => (q, .bl true)) := by
      unfold entQ
      rw [List.map_map]
      congr 1
      exact fold_putQ (.bl true) (valQ R C m) (sortK (jM R C m)) []
    rw [e]
    have hnl : (nubQ ((sortK (jM R C m)).map (valQ R C m))).length ≤ 32 := by
      have := nubQ_len ((sortK (jM R C m)).map (valQ R C m))
      rw [List.length_map] at this
      omega
    have f3 := F_ordered_g (l := (nubQ ((sortK (jM R C m)).map (valQ R C m))).map fun q => (q, .bl true)) (fun x hx => by
      obtain ⟨q, hq, rfl⟩ := List.mem_map.mp hx
      rw [mem_nubQ] at hq
      obtain ⟨S, _, rfl⟩ := List.mem_map.mp hq
      exact (valQ_sz g hs S).mono (by decide)) (by rw [List.length_map]; omega) obs
    have e2 := sortQ_fst (.bl true) (nubQ ((sortK (jM R C m)).map (valQ R C m)))
    have hl2 : (sortQ ((nubQ ((sortK (jM R C m)).map (valQ R C m))).map fun q => (q, D.bl true))).length ≤ 32 := by
      unfold sortQ
      rw [(List.mergeSort_perm _ _).length_eq, List.length_map]
      exact hnl
    have e3 : lvM R C m = (sortQ ((nubQ ((sortK (jM R C m)).map (valQ R C m))).map fun q => (q, D.bl true))).map (·.1) := by rw [e2]; rfl
    rw [e3]
    generalize hS : sortQ ((nubQ ((sortK (jM R C m)).map (valQ R C m))).map fun q => (q, D.bl true)) = SQ at *
    generalize hE : entQ ((nubQ ((sortK (jM R C m)).map (valQ R C m))).map fun q => (q, D.bl true)) = EQ at *
    generalize meaD m = Me at *
    simp
    refine wp_lcm pairQ (fun x : Rat × D => cf x.1) SQ (by simp [FP_of f3]; exact ⟨_, rfl, rfl, rfl⟩) rfl (size_le (by omega)) (fun x hx => ⟨[.pl (.int (R : Int)), .pl (.int (C : Int)), .pl Me, .pl EQ, .un, .pl (cf x.1), .pl x.2], rfl, rfl, rfl, by simp⟩) ?_
    simp
theorem F_least_values_g {m : Ms} (g : GM R C m) (h1 : 1 ≤ R) (h2 : 1 ≤ C) (hR : R ≤ 12) (hC : C ≤ 12) (hz : m.length ≤ 5) (hs : sumW m ≤ 10 ^ 30) (obs : List (List D)) (ho : obs.all D.noObs = true) :
    F_least_values [.int (R : Int), .int (C : Int), meaD m] obs = some (.tup ((lvM R C m).map cf), obs) := by
  refine FP.eq (run_wp rfl ?_)
  unfold b_least_values
  have f1 := F_need_measure_g g h1 h2 hR hC obs ho
  have f2 := F_least_of_g g hR hC hz hs obs
  have t : tupleD [.lst ((lvM R C m).map cf)] = some (.tup ((lvM R C m).map cf)) := rfl
  generalize (lvM R C m).map cf = L at *
  generalize meaD m = Me at *
  simp [FP_of f1, FP_of f2, t]
end
end C
namespace C
open PySem PySem.Spec PyProof.Rows L2 PD Od
section
variable {κ ν : Type} [DecidableEq κ]
def gA (z : ν) (l : List (κ × ν)) (k : κ) : ν := ((l.find? fun kv => decide (kv.1 = k)).map (·.2)).getD z
def pA (l : List (κ × ν)) (k : κ) (v : ν) : List (κ × ν) := if (l.any fun kv => decide (kv.1 = k)) = true then l.map (fun kv => if kv.1 = k then (kv.1, v) else kv) else l ++ [(k, v)]
def kA (l : List (κ × ν)) : List κ := l.map (·.1)
theorem any_kA (l : List (κ × ν)) (k : κ) : (l.any fun kv => decide (kv.1 = k)) = true ↔ k ∈ kA l := by
  rw [List.any_eq_true]
  unfold kA
  rw [List.mem_map]
  constructor
  · rintro ⟨x, hx, e⟩; exact ⟨x, hx, of_decide_eq_true e⟩
  · rintro ⟨x, hx, e⟩; exact ⟨x, hx, decide_eq_true e⟩
theorem kA_pA (l : List (κ × ν)) (k : κ) (v : ν) : kA (pA l k v) = if k ∈ kA l then kA l else kA l ++ [k] := by
  unfold pA
  by_cases h : k ∈ kA l
  · rw [if_pos ((any_kA l k).mpr h), if_pos h]
    unfold kA
    rw [List.map_map]
    refine List.map_congr_left fun x _ => ?_
    show (if x.1 = k then (x.1, v) else x).1 = x.1
    split <;> rfl
  · rw [if_neg fun z => h ((any_kA l k).mp z), if_neg h]
    unfold kA
    rw [List.map_append]; rfl
theorem pA_nd {l : List (κ × ν)} (h : (kA l).Nodup) (k : κ) (v : ν) : (kA (pA l k v)).Nodup := by
  rw [kA_pA]
  split
  · exact h
  · rename_i n
    exact List.nodup_append.mpr ⟨h, by simp, fun y hy z hz => by rw [List.mem_singleton.mp hz]; exact fun e => n (e ▸ hy)⟩
theorem pA_mem {l : List (κ × ν)} {k j : κ} {v : ν} : j ∈ kA (pA l k v) ↔ j ∈ kA l ∨ j = k := by
  rw [kA_pA]
  split
  · rename_i h; exact ⟨.inl, fun z => z.elim id fun e => e ▸ h⟩
  · rw [List.mem_append, List.mem_singleton]
theorem pA_len (l : List (κ × ν)) (k : κ) (v : ν) : (pA l k v).length ≤ l.length + 1 := by
  unfold pA
  split <;> simp
theorem gA_cons (z : ν) (x : κ × ν) (l : List (κ × ν)) (k : κ) : gA z (x :: l) k = if x.1 = k then x.2 else gA z l k := by
  unfold gA
  rw [List.find?_cons]
  by_cases h : x.1 = k <;> simp [h]
theorem gA_none {z : ν} {l : List (κ × ν)} {k : κ} (h : k ∉ kA l) : gA z l k = z := by
  induction l with
  | nil => rfl
  | cons x l ih =>
    unfold kA at h ih
    rw [List.map_cons, List.mem_cons] at h
    rw [gA_cons, if_neg fun e => h (.inl e.symm)]
    exact ih fun e => h (.inr e)
theorem gA_mem {z : ν} {l : List (κ × ν)} (hn : (kA l).Nodup) {x : κ × ν} (hx : x ∈ l) : gA z l x.1 = x.2 := by
  induction l with
  | nil => cases hx
  | cons y l ih =>
    unfold kA at hn ih
    rw [List.map_cons, List.nodup_cons] at hn
    rw [gA_cons]
    rcases List.mem_cons.mp hx with rfl | hx
    · rw [if_pos rfl]
    · rw [if_neg fun e : y.1 = x.1 => hn.1 (by rw [e]; exact List.mem_map.mpr ⟨x, hx, rfl⟩)]
      exact ih hn.2 hx
variable [Add ν] (z : ν)
def addA (l : List (κ × ν)) (p : κ × ν) : List (κ × ν) := pA l p.1 (gA z l p.1 + p.2)
def mkA (ps : List (κ × ν)) : List (κ × ν) := ps.foldl (addA z) []
theorem mkA_snoc (ps : List (κ × ν)) (p : κ × ν) : mkA z (ps ++ [p]) = addA z (mkA z ps) p := by unfold mkA; rw [List.foldl_append]; rfl
theorem mkA_nd (ps : List (κ × ν)) : (kA (mkA z ps)).Nodup := by
  unfold mkA
  have : ∀ (ps : List (κ × ν)) (l : List (κ × ν)), (kA l).Nodup → (kA (ps.foldl (addA z) l)).Nodup := fun ps => by
    induction ps with
    | nil => intro l h; exact h
    | cons p ps ih => intro l h; exact ih _ (pA_nd h _ _)
  exact this ps [] .nil
theorem mkA_mem {ps : List (κ × ν)} {k : κ} : k ∈ kA (mkA z ps) ↔ k ∈ kA ps := by
  unfold mkA
  have : ∀ (ps : List (κ × ν)) (l : List (κ × ν)), k ∈ kA (ps.foldl (addA z) l) ↔ k ∈ kA l ∨ k ∈ kA ps := fun ps => by
    induction ps with
    | nil => intro l; simp [kA]
    | cons p ps ih =>
      intro l
      rw [List.foldl_cons, ih]
      unfold addA
      rw [pA_mem]
      unfold kA
      rw [List.map_cons, List.mem_cons, or_assoc]
  rw [this]
  simp [kA]
theorem mkA_len (ps : List (κ × ν)) : (mkA z ps).length ≤ ps.length := by
  unfold mkA
  have : ∀ (ps : List (κ × ν)) (l : List (κ × ν)), (ps.foldl (addA z) l).length ≤ l.length + ps.length := fun ps => by
    induction ps with
    | nil => intro l; exact Nat.le_refl _
    | cons p ps ih =>
      intro l
      have h1 := ih (addA z l p)
      have h2 : (addA z l p).length ≤ l.length + 1 := pA_len ..
      rw [List.foldl_cons, List.length_cons]
      omega
  have := this ps []
  simpa using this
end
structure EncK {κ : Type} (kf : κ → List Key) (kd : κ → D) : Prop where
  inj : ∀ a b, kf a = kf b → a = b
  kt : ∀ a, keyT (kd a) = some (kf a)
  tk : ∀ a, tK (kf a) = kd a
theorem encP : EncK keyP picD := ⟨fun _ _ => keyP_inj, keyT_pic, tK_pic⟩
section
variable {κ ν : Type} [DecidableEq κ] {kf : κ → List Key} {kd : κ → D} (vd : ν → D)
def alD (kf : κ → List Key) (vd : ν → D) (l : List (κ × ν)) : D := .dt (l.map fun x => (kf x.1, vd x.2))
theorem valD_al (e : EncK kf kd) (l : List (κ × ν)) (k : κ) : valD (l.map fun x => (kf x.1, vd x.2)) (kf k) = ((l.find? fun kv => decide (kv.1 = k)).map fun x => vd x.2) := by
  induction l with
  | nil => rfl
  | cons x l ih =>
    unfold valD at ih ⊢
    rw [List.map_cons, List.find?_cons, List.find?_cons]
    by_cases h : x.1 = k
    · rw [h]; simp
    · have h2 : ¬ kf x.1 = kf k := fun z => h (e.inj _ _ z)
      simp only [decide_eq_false h, decide_eq_false h2]
      exact ih
theorem get_al (e : EncK kf kd) (z : ν) {zd : D} (hz : zd = vd z) (l : List (κ × ν)) (k : κ) : getK (some (alD kf vd l)) (kd k) zd = some (vd (gA z l k)) := by
  have h : dgetD (alD kf vd l) (kd k) = some (valD (l.map fun x => (kf x.1, vd x.2)) (kf k)) := by
    show (keyT (kd k)).map _ = _
    rw [e.kt]; rfl
  rw [getK_some, h, valD_al vd e]
  unfold gA
  cases l.find? fun kv => decide (kv.1 = k) with
  | none => rw [hz]; rfl
  | some x => rfl
theorem putD_al (e : EncK kf kd) (l : List (κ × ν)) (k : κ) (v : ν) : putD (l.map fun x => (kf x.1, vd x.2)) (kf k) (vd v) = (pA l k v).map fun x => (kf x.1, vd x.2) := by
  have ha : ((l.map fun x => (kf x.1, vd x.2)).any fun kv => decide (kv.1 = kf k)) = l.any fun kv => decide (kv.1 = k) := by
    rw [List.any_map]
    congr 1
    funext x
    show decide (kf x.1 = kf k) = decide (x.1 = k)
    exact decide_eq_decide.mpr ⟨e.inj _ _, fun h => by rw [h]⟩
  unfold putD pA
  rw [ha]
  split
  · rw [List.map_map, List.map_map]
    refine List.map_congr_left fun x _ => ?_
    show (if kf x.1 = kf k then (kf x.1, vd v) else (kf x.1, vd x.2)) = _
    by_cases h : x.1 = k
    · show _ = (fun x => (kf x.1, vd x.2)) (if x.1 = k then (x.1, v) else x)
      rw [if_pos h, if_pos (by rw [h])]
    · show _ = (fun x => (kf x.1, vd x.2)) (if x.1 = k then (x.1, v) else x)
      rw [if_neg h, if_neg fun z => h (e.inj _ _ z)]
  · rw [List.map_append]; rfl
theorem put_al (e : EncK kf kd) {l : List (κ × ν)} (k : κ) (v : ν) (hz : l.length < 100000) : putDD (kd k) (vd v) (alD kf vd l) = some (alD kf vd (pA l k v)) := by
  unfold putDD alD
  simp only [e.kt]
  rw [if_pos (by rw [List.length_map, sizeLine_eq]; omega), putD_al vd e]
theorem keys_al (e : EncK kf kd) (l : List (κ × ν)) : keysOf (alD kf vd l) = some ((kA l).map kd) := by
  show some ((l.map fun x => (kf x.1, vd x.2)).map fun kv => tK kv.1) = _
  unfold kA
  rw [List.map_map, List.map_map]
  exact congrArg some (List.map_congr_left fun x _ => e.tk x.1)
theorem sub_al (e : EncK kf kd) (z : ν) {l : List (κ × ν)} {k : κ} (hk : k ∈ kA l) : subD' (alD kf vd l) (kd k) = some (vd (gA z l k)) := by
  show dixD (alD kf vd l) (kd k) = _
  have h : dixD (alD kf vd l) (kd k) = (keyT (kd k)).bind (valD (l.map fun x => (kf x.1, vd x.2))) := by
    show ((keyT (kd k)).map _).bind id = _
    rw [Option.bind_map]; rfl
  rw [h, e.kt, Option.bind_some, valD_al vd e]
  unfold gA
  cases hf : l.find? fun kv => decide (kv.1 = k) with
  | none =>
    obtain ⟨x, hx, rfl⟩ := List.mem_map.mp hk
    have := List.find?_eq_none.mp hf x hx
    simp at this
  | some x => rfl
theorem dictL_al (e : EncK kf kd) {l : List (κ × ν)} (hn : (kA l).Nodup) : dictLD [.lst (l.map fun x => D.tup [kd x.1, vd x.2])] = some (alD kf vd l) := by
  have hp : pairsXD (l.map fun x => D.tup [kd x.1, vd x.2]) = some (l.map fun x => (kf x.1, vd x.2)) := by
    clear hn
    induction l with
    | nil => rfl
    | cons x l ih =>
      rw [List.map_cons, List.map_cons]
      unfold pairsXD
      rw [e.kt, ih]
      rfl
  show (pairsXD (l.map fun x => D.tup [kd x.1, vd x.2])).map _ = _
  rw [hp, Option.map_some, merge_nd]
  · rfl
  · rw [List.map_nil, List.nil_append, List.map_map]
    have : (l.map ((fun x => x.1) ∘ fun x : κ × ν => (kf x.1, vd x.2))) = (kA l).map kf := by unfold kA; rw [List.map_map]; rfl
    rw [this]
    exact List.pairwise_map.mpr (hn.imp fun {a b} h z => h (e.inj _ _ z))
end
end C
namespace C
open PySem PySem.Spec PyProof.Rows L2 PD Od
section
variable {κ : Type} [DecidableEq κ]
def totA (l : List (κ × Nat)) : Nat := (l.map (·.2)).sum
theorem totA_cons (x : κ × Nat) (l : List (κ × Nat)) : totA (x :: l) = x.2 + totA l := by unfold totA; rw [List.map_cons, List.sum_cons]
theorem totA_app (a b : List (κ × Nat)) : totA (a ++ b) = totA a + totA b := by unfold totA; rw [List.map_append, List.sum_append]
theorem totA_mem {l : List (κ × Nat)} {x : κ × Nat} (h : x ∈ l) : x.2 ≤ totA l := by
  induction l with
  | nil => cases h
  | cons y l ih =>
    rw [totA_cons]
    rcases List.mem_cons.mp h with rfl | h
    · omega
    · have := ih h; omega
theorem totA_pA {l : List (κ × Nat)} (hn : (kA l).Nodup) (k : κ) (v : Nat) : totA (pA l k v) + gA 0 l k = totA l + v := by
  unfold pA
  by_cases h : k ∈ kA l
  · rw [if_pos ((any_kA l k).mpr h)]
    induction l with
    | nil => cases h
    | cons x l ih =>
      unfold kA at hn h ih
      rw [List.map_cons, List.nodup_cons] at hn
      rw [List.map_cons, List.mem_cons] at h
      rw [List.map_cons, totA_cons, totA_cons, gA_cons]
      by_cases e : x.1 = k
      · rw [if_pos e, if_pos e]
        have e2 : (l.map fun kv => if kv.1 = k then (kv.1, v) else kv) = l := by
          conv => rhs; rw [← List.map_id l]
          refine List.map_congr_left fun y hy => ?_
          rw [if_neg fun z : y.1 = k => hn.1 (by rw [e, ← z]; exact List.mem_map.mpr ⟨y, hy, rfl⟩)]
          rfl
        rw [e2]
        show v + totA l + x.2 = x.2 + totA l + v
        omega
      · rw [if_neg e, if_neg e]
        have := ih hn.2 (h.elim (fun z => absurd z.symm e) id)
        omega
  · rw [if_neg fun z => h ((any_kA l k).mp z), gA_none h, totA_app]
    show totA l + (v + 0) + 0 = _
    omega
theorem totA_mk (ps : List (κ × Nat)) : totA (mkA 0 ps) = totA ps := by
  have : ∀ (ps l : List (κ × Nat)), (kA l).Nodup → totA (ps.foldl (addA 0) l) = totA l + totA ps := fun ps => by
    induction ps with
    | nil => intro l _; show totA l = totA l + 0; omega
    | cons p ps ih =>
      intro l h
      rw [List.foldl_cons, ih (addA 0 l p) (pA_nd h _ _), totA_cons]
      have := totA_pA h p.1 (gA 0 l p.1 + p.2)
      show totA (pA l p.1 (gA 0 l p.1 + p.2)) + totA ps = _
      omega
  have h := this ps [] .nil
  unfold mkA
  rw [h]
  show 0 + totA ps = _
  omega
end
abbrev Px : Type := List (List Bool)
def strP (C : Nat) (p : Px) (ls : List Nat) : Px := ls.foldl (fun q l => strokeP q C l) p
def moves (C : Nat) (m : Ms) (l : List (Px × Nat)) : List (Px × Nat) := l.flatMap fun x => m.map fun e => (strP C x.1 e.1, x.2 * e.2)
def drawsA (C : Nat) (m : Ms) (p : Px) : Nat → List (Px × Nat)
  | 0 => [(p, 1)]
  | n + 1 => mkA 0 (moves C m (drawsA C m p n))
abbrev intN (w : Nat) : D := .int (w : Int)
section
variable {R C : Nat}
theorem moves_len (m : Ms) (l : List (Px × Nat)) : (moves C m l).length = l.length * m.length := by
  unfold moves
  induction l with
  | nil => simp
  | cons x l ih => rw [List.flatMap_cons, List.length_append, ih, List.length_map, List.length_cons, Nat.succ_mul]; omega
theorem moves_tot (m : Ms) (l : List (Px × Nat)) : totA (moves C m l) = totA l * sumW m := by
  unfold moves
  induction l with
  | nil => simp [totA]
  | cons x l ih =>
    rw [List.flatMap_cons, totA_app, ih, totA_cons, Nat.add_mul]
    congr 1
    induction m with
    | nil => simp [totA, sumW]
    | cons e m ih2 =>
      rw [List.map_cons, totA_cons, sumW_cons, Nat.mul_add]
      have : totA (m.map fun e => (strP C x.1 e.1, x.2 * e.2)) = x.2 * sumW m := by
        clear ih ih2
        induction m with
        | nil => simp [totA, sumW]
        | cons e m ih => rw [List.map_cons, totA_cons, sumW_cons, Nat.mul_add, ih]
      rw [this]
theorem draws_nd (m : Ms) (p : Px) : ∀ n, (kA (drawsA C m p n)).Nodup
  | 0 => by unfold drawsA kA; simp
  | n + 1 => mkA_nd 0 _
theorem draws_tot (m : Ms) (p : Px) : ∀ n, totA (drawsA C m p n) = sumW m ^ n
  | 0 => rfl
  | n + 1 => by
    unfold drawsA
    rw [totA_mk, moves_tot, draws_tot m p n, Nat.pow_succ]
theorem draws_pic {m : Ms} {p : Px} (h : Pic R C p) : ∀ n, ∀ x ∈ drawsA C m p n, Pic R C x.1
  | 0, x, hx => by
    unfold drawsA at hx
    rw [List.mem_singleton] at hx
    subst hx
    exact h
  | n + 1, x, hx => by
    unfold drawsA at hx
    have h1 : x.1 ∈ kA (mkA 0 (moves C m (drawsA C m p n))) := List.mem_map.mpr ⟨x, hx, rfl⟩
    rw [mkA_mem] at h1
    obtain ⟨y, hy, e⟩ := List.mem_map.mp h1
    obtain ⟨u, hu, hy⟩ := List.mem_flatMap.mp hy
    obtain ⟨v, _, rfl⟩ := List.mem_map.mp hy
    rw [← e]
    exact strokes_pic _ (draws_pic h n u hu)
structure DOk (R C : Nat) (m : Ms) (p : Px) (n : Nat) : Prop where
  lt : ∀ x ∈ m, ∀ y ∈ x.1, y < R + C
  z : m.length ≤ 1000
  s : sumW m ^ n ≤ 10 ^ 30
  s0 : 0 < sumW m
  l : ∀ k, k < n → (drawsA C m p k).length * m.length < 100000
  n : n ≤ 1000
theorem DOk.sk {m : Ms} {p : Px} {n : Nat} (h : DOk R C m p n) {k : Nat} (hk : k ≤ n) : sumW m ^ k ≤ 10 ^ 30 := Nat.le_trans (Nat.pow_le_pow_right h.s0 hk) h.s
theorem DOk.s1 {m : Ms} {p : Px} {n : Nat} (h : DOk R C m p n) (hn : 0 < n) : sumW m ≤ 10 ^ 30 := by have := h.sk (k := 1) hn; simpa using this
theorem F__law_draws_g {m : Ms} {p : Px} {n : Nat} (d : DOk R C m p n) (hR : 1 ≤ R ∧ R ≤ 12) (hC : 1 ≤ C ∧ C ≤ 12) (hp : Pic R C p) (obs : List (List D)) :
    F__law_draws [meaD m, picD p, .int (n : Int)] obs = some (alD keyP (fun w => cf (shr w (sumW m ^ n))) (drawsA C m p n), obs) := by
  refine FP.eq (run_wp rfl ?_)
  unfold b__law_draws
  have e0 : D.dt [(keyP p, D.int 1)] = alD keyP intN (drawsA C m p 0) := rfl
  have gg := fun mm : M => get_mea mm m
  have gp := fun mm : M => (rfl : Opd.get mm (.val (picD p)) = some (picD p))
  simp [keyT_pic, e0]
  simp [rg1_nat (show n ≤ 1000000 by have := d.n; omega)]
  obtain ⟨I, hI⟩ : ∃ I : Nat → M → Prop, I = fun k mm => ∃ x5 x6 x7 x8 x9 x10, (∀ d, x7 ≠ PD.Slot.ow d) ∧ mm = ⟨[.pl (meaD m), .pl (picD p), .pl (.int (n : Int)), .pl (alD keyP intN (drawsA C m p k)), .pl (.int ((sumW m ^ k : Nat) : Int)), x5, x6, x7, x8, x9, x10], obs⟩ := ⟨_, rfl⟩
  refine wp_rg0 n I ?_ ?_ ?_
  · rw [hI]; exact ⟨.un, .un, .un, .un, .un, .un, (fun d z => by cases z), rfl⟩
  · intro k mm hk hm
    rw [hI] at hm
    obtain ⟨x5, x6, x7, x8, x9, x10, h7, rfl⟩ := hm
    refine ⟨[.pl (meaD m), .pl (picD p), .pl (.int (n : Int)), .pl (alD keyP intN (drawsA C m p k)), .pl (.int ((sumW m ^ k : Nat) : Int)), .pl (.int (k : Int)), x6, x7, x8, x9, x10], rfl, ?_⟩
    have hw := F__law_whole_g (m := m) d.z obs
    have hmul := mul_nat (a := sumW m ^ k) (b := sumW m) (Nat.le_trans (d.sk (by omega)) (by decide)) (Nat.le_trans (d.s1 (by omega)) (by decide))
    rw [← Nat.pow_succ] at hmul
    have hI2 : ∀ mm, (∃ x5 x6 x7 x8 x9 x10, (∀ d, x7 ≠ PD.Slot.ow d) ∧ mm = (⟨[.pl (meaD m), .pl (picD p), .pl (.int (n : Int)), .pl (alD keyP intN (drawsA C m p (k + 1))), .pl (.int ((sumW m ^ (k + 1) : Nat) : Int)), x5, x6, x7, x8, x9, x10], obs⟩ : M)) → I (k + 1) mm := fun mm h => by rw [hI]; exact h
    clear hI
    have hks := keys_al intN encP (drawsA C m p k)
    have hlen := d.l k hk
    have hnd := draws_nd (C := C) m p k
    have hpic := draws_pic (R := R) (C := C) (m := m) hp k
    have htot := draws_tot (C := C) m p k
    have hsk := d.sk (k := k) (by omega)
    have hs1 := d.s1 (by omega)
    have hD1 : drawsA C m p (k + 1) = mkA 0 (moves C m (drawsA C m p k)) := rfl
    rw [hD1] at hI2
    generalize drawsA C m p k = L at *
    generalize hSW : sumW m ^ k = SW at *
    generalize hSW1 : sumW m ^ (k + 1) = SW1 at *
    simp [hks]
    obtain ⟨J, hJ⟩ : ∃ J : List (Px × Nat) → M → Prop, J = fun done mm => ∃ x7 x8 x9 x10, (∀ d, x7 ≠ PD.Slot.ow d) ∧ mm = ⟨[.pl (meaD m), .pl (picD p), .pl (.int (n : Int)), .pl (alD keyP intN L), .pl (.int (SW : Int)), .pl (.int (k : Int)), .ow (alD keyP intN (mkA 0 (moves C m done))), x7, x8, x9, x10], obs⟩ := ⟨_, rfl⟩
    have ek : (kA L).map picD = L.map fun x => picD x.1 := by unfold kA; rw [List.map_map]; rfl
    rw [ek]
    refine wp_for (fun x : Px × Nat => picD x.1) L J ?_ ?_ ?_
    · rw [hJ]; exact ⟨x7, x8, x9, x10, h7, rfl⟩
    · intro done x rest mm e hm
      rw [hJ] at hm
      obtain ⟨x7, x8, x9, x10, h7, rfl⟩ := hm
      refine ⟨[.pl (meaD m), .pl (picD p), .pl (.int (n : Int)), .pl (alD keyP intN L), .pl (.int (SW : Int)), .pl (.int (k : Int)), .ow (alD keyP intN (mkA 0 (moves C m done))), .pl (picD x.1), x8, x9, x10], rfl, ?_⟩
      have hxL : x ∈ L := by rw [e]; simp
      have hsub := sub_al intN encP 0 (l := L) (k := x.1) (List.mem_map.mpr ⟨x, hxL, rfl⟩)
      rw [gA_mem hnd hxL] at hsub
      have hx2 : x.2 ≤ 10 ^ 30 := Nat.le_trans (totA_mem hxL) (by rw [htot]; exact hsk)
      have hJ2 : ∀ mm, (∃ x7 x8 x9 x10, (∀ d, x7 ≠ PD.Slot.ow d) ∧ mm = (⟨[.pl (meaD m), .pl (picD p), .pl (.int (n : Int)), .pl (alD keyP intN L), .pl (.int (SW : Int)), .pl (.int (k : Int)), .ow (alD keyP intN (mkA 0 (moves C m (done ++ [x])))), x7, x8, x9, x10], obs⟩ : M)) → J (done ++ [x]) mm := fun mm h => by rw [hJ]; exact h
      clear hJ
      have i1 : itD (meaD m) = some (m.map prM) := rfl
      obtain ⟨G, hG⟩ : ∃ G : Ms → M → Prop, G = fun dn mm => ∃ x8 x9 x10, mm = ⟨[.pl (meaD m), .pl (picD p), .pl (.int (n : Int)), .pl (alD keyP intN L), .pl (.int (SW : Int)), .pl (.int (k : Int)), .ow (alD keyP intN (mkA 0 (moves C m done ++ dn.map fun e => (strP C x.1 e.1, x.2 * e.2)))), .pl (picD x.1), x8, x9, x10], obs⟩ := ⟨_, rfl⟩
      generalize hMe : meaD m = Me at *
      simp [i1]
      refine wp_for prM m G ?_ ?_ ?_
      · rw [hG]; exact ⟨x8, x9, x10, by rw [List.map_nil, List.append_nil]⟩
      · intro dn y rs mm e2 hm
        rw [hG] at hm
        obtain ⟨x8, x9, x10, rfl⟩ := hm
        refine ⟨[.pl Me, .pl (picD p), .pl (.int (n : Int)), .pl (alD keyP intN L), .pl (.int (SW : Int)), .pl (.int (k : Int)), .ow (alD keyP intN (mkA 0 (moves C m done ++ dn.map fun e => (strP C x.1 e.1, x.2 * e.2)))), .pl (picD x.1), .pl (tupN y.1), .pl (.int (y.2 : Int)), x10], rfl, ?_⟩
        have hym : y ∈ m := by rw [e2]; simp
        have f := F__law_strokes_t (hpic x hxL) hR hC (d.lt y hym) obs
        have hy2 : y.2 ≤ 10 ^ 30 := Nat.le_trans (mem_sumW hym) hs1
        have hm1 := mul_nat (a := x.2) (b := y.2) (Nat.le_trans hx2 (by decide)) (Nat.le_trans hy2 (by decide))
        have g1 := get_al intN encP (0 : Nat) (zd := .int 0) rfl (mkA 0 (moves C m done ++ dn.map fun e => (strP C x.1 e.1, x.2 * e.2))) (strP C x.1 y.1)
        have hz : (mkA 0 (moves C m done ++ dn.map fun e => (strP C x.1 e.1, x.2 * e.2))).length < 100000 := by
          have h1 := mkA_len (0 : Nat) (moves C m done ++ dn.map fun e => (strP C x.1 e.1, x.2 * e.2))
          rw [List.length_append, moves_len, List.length_map] at h1
          have h2 : done.length + 1 ≤ L.length := by have := congrArg List.length e; simp at this; omega
          have h3 : dn.length ≤ m.length := by have := congrArg List.length e2; simp at this; omega
          have h4 := Nat.mul_le_mul_right m.length h2
          rw [Nat.add_mul] at h4
          omega
        have g2 := put_al intN encP (l := mkA 0 (moves C m done ++ dn.map fun e => (strP C x.1 e.1, x.2 * e.2))) (strP C x.1 y.1) (gA 0 (mkA 0 (moves C m done ++ dn.map fun e => (strP C x.1 e.1, x.2 * e.2))) (strP C x.1 y.1) + x.2 * y.2) hz
        have g3 : pA (mkA 0 (moves C m done ++ dn.map fun e => (strP C x.1 e.1, x.2 * e.2))) (strP C x.1 y.1) (gA 0 (mkA 0 (moves C m done ++ dn.map fun e => (strP C x.1 e.1, x.2 * e.2))) (strP C x.1 y.1) + x.2 * y.2) = mkA 0 (moves C m done ++ (dn ++ [y]).map fun e => (strP C x.1 e.1, x.2 * e.2)) := by
          rw [List.map_append, ← List.append_assoc]
          show _ = mkA 0 (_ ++ [(strP C x.1 y.1, x.2 * y.2)])
          rw [mkA_snoc]
          rfl
        rw [g3] at g2
        have hG2 : ∀ mm, (∃ x8 x9 x10, mm = (⟨[.pl Me, .pl (picD p), .pl (.int (n : Int)), .pl (alD keyP intN L), .pl (.int (SW : Int)), .pl (.int (k : Int)), .ow (alD keyP intN (mkA 0 (moves C m done ++ (dn ++ [y]).map fun e => (strP C x.1 e.1, x.2 * e.2)))), .pl (picD x.1), x8, x9, x10], obs⟩ : M)) → G (dn ++ [y]) mm := fun mm h => by rw [hG]; exact h
        clear hG
        have e5 : (List.foldl (fun q l => strokeP q C l) x.1 y.1) = strP C x.1 y.1 := rfl
        rw [e5] at f
        generalize mkA 0 (moves C m done ++ dn.map fun e => (strP C x.1 e.1, x.2 * e.2)) = A1 at *
        generalize mkA 0 (moves C m done ++ (dn ++ [y]).map fun e => (strP C x.1 e.1, x.2 * e.2)) = A2 at *
        have gT : ∀ mm : M, Opd.get mm (.val (picD (strP C x.1 y.1))) = some (picD (strP C x.1 y.1)) := fun mm => rfl
        have gX : ∀ mm : M, Opd.get mm (.val (picD x.1)) = some (picD x.1) := fun mm => rfl
        have gL : ∀ mm : M, Opd.get mm (.val (alD keyP intN L)) = some (alD keyP intN L) := fun mm => rfl
        have gA1 : ∀ P : Prop, dicK (some (alD keyP intN A1)) P ↔ P := fun P => dicK_dt _ P
        generalize hT : picD (strP C x.1 y.1) = T at *
        generalize hX : picD x.1 = X at *
        have f' : F__law_strokes [X, tupN y.1] obs = some (T, obs) := f
        generalize hAL : alD keyP intN L = AL at *
        generalize hAA : alD keyP intN A1 = AA at *
        generalize hAB : alD keyP intN A2 = AB at *
        simp [FP_of f']
        refine wp_dput (d := .int ((gA 0 A1 (strP C x.1 y.1) + x.2 * y.2 : Nat) : Int)) (k := T) (dd := AA) rfl (WP.eq (by simp [g1, hsub, hm1, gT, gX, gL, gA1])) rfl g2 ?_
        simp
        exact hG2 _ ⟨_, _, _, rfl⟩
      · intro mm hm
        rw [hG] at hm
        obtain ⟨x8, x9, x10, rfl⟩ := hm
        have e3 : moves C m done ++ m.map (fun e => (strP C x.1 e.1, x.2 * e.2)) = moves C m (done ++ [x]) := by unfold moves; rw [List.flatMap_append, List.flatMap_cons, List.flatMap_nil, List.append_nil]
        rw [e3]
        exact hJ2 _ ⟨.pl (picD x.1), x8, x9, x10, (fun d z => by cases z), rfl⟩
    · intro mm hm
      rw [hJ] at hm
      obtain ⟨x7, x8, x9, x10, h7, rfl⟩ := hm
      generalize mkA 0 (moves C m L) = L1 at *
      refine WP.frz rfl ?_
      have gS : ∀ mm : M, Opd.get mm (.val (.int (SW : Int))) = some (.int (SW : Int)) := fun mm => rfl
      generalize hMe : meaD m = Me at *
      generalize hAL : alD keyP intN L1 = AL at *
      simp [FP_of hw, hmul]
      exact hI2 _ ⟨_, _, _, _, _, _, h7, rfl⟩
  · intro mm hm
    rw [hI] at hm
    obtain ⟨x5, x6, x7, x8, x9, x10, h7, rfl⟩ := hm
    clear hI
    have hks := keys_al intN encP (drawsA C m p n)
    have hnd := draws_nd (C := C) m p n
    have htot := draws_tot (C := C) m p n
    have hz : (drawsA C m p n).length < sizeLine := by
      cases n with
      | zero => rw [sizeLine_eq]; show 1 < _; omega
      | succ k =>
        have h1 := d.l k (by omega)
        have h2 := mkA_len (0 : Nat) (moves C m (drawsA C m p k))
        rw [moves_len] at h2
        rw [sizeLine_eq]
        show (mkA 0 (moves C m (drawsA C m p k))).length < _
        omega
    have hd := dictL_al (fun w => cf (shr w (sumW m ^ n))) encP hnd
    generalize drawsA C m p n = L at *
    have ek : (kA L).map picD = L.map fun x => picD x.1 := by unfold kA; rw [List.map_map]; rfl
    rw [ek] at hks
    have hpos : 0 < sumW m ^ n := Nat.pow_pos d.s0
    have hds := d.s
    generalize sumW m ^ n = SW at *
    generalize hMe : meaD m = Me at *
    simp
    refine wp_lcm (fun x : Px × Nat => picD x.1) (fun x => D.tup [picD x.1, cf (shr x.2 SW)]) L (by simp [hks]) (by cases x7 <;> first | rfl | exact absurd rfl (h7 _)) (Nat.le_of_lt hz) (fun x hx => ⟨[.pl Me, .pl (picD p), .pl (.int (n : Int)), .pl (alD keyP intN L), .pl (.int (SW : Int)), x5, x6, .pl (picD x.1), x8, x9, x10], rfl, rfl, rfl, ?_⟩) ?_
    · have hsub := sub_al intN encP 0 (l := L) (k := x.1) (List.mem_map.mpr ⟨x, hx, rfl⟩)
      rw [gA_mem hnd hx] at hsub
      have hx2 : x.2 ≤ 10 ^ 30 := Nat.le_trans (totA_mem hx) (by rw [htot]; exact hds)
      have f := F__law_share_n hpos hds hx2 obs
      have gX : ∀ mm : M, Opd.get mm (.val (picD x.1)) = some (picD x.1) := fun mm => rfl
      have gL : ∀ mm : M, Opd.get mm (.val (alD keyP intN L)) = some (alD keyP intN L) := fun mm => rfl
      generalize hAL : alD keyP intN L = AL at *
      generalize hX : picD x.1 = X at *
      simp [hsub, FP_of f, gX, gL]
    · generalize (L.map fun x => D.tup [picD x.1, cf (shr x.2 SW)]) = N at *
      generalize alD keyP (fun w => cf (shr w SW)) L = R1 at *
      simp [hd]
end
end C
namespace C
open PySem PySem.Spec PyProof.Rows L2 PD Od
section
variable {R C : Nat}
def vis (R C : Nat) (K : List Nat) (x : Nat) : Bool := !K.contains x && (decide (rowsN R K < R) && decide (colsN R K < C))
theorem vis_perm {K K' : List Nat} (p : K.Perm K') (x : Nat) : vis R C K x = vis R C K' x := by
  have e : K.contains x = K'.contains x := by rw [Bool.eq_iff_iff, List.contains_iff_mem, List.contains_iff_mem, p.mem_iff]
  unfold vis
  rw [e, rowsN_perm R p, colsN_perm R p]
theorem vis_cons {K : List Nat} {l x : Nat} (h : vis R C K x = false) : vis R C (l :: K) x = false := by
  have e1 : rowsN R (l :: K) = rowsN R [l] + rowsN R K := rowsN_app R [l] K
  have e2 : colsN R (l :: K) = colsN R [l] + colsN R K := colsN_app R [l] K
  unfold vis at h ⊢
  rw [e1, e2]
  simp only [List.contains_cons, Bool.and_eq_false_iff, Bool.not_eq_false', Bool.or_eq_true, decide_eq_false_iff_not] at h ⊢
  rcases h with h | h | h
  · exact .inl (.inr h)
  · exact .inr (.inl (by omega))
  · exact .inr (.inr (by omega))
theorem vis_self {K : List Nat} {l : Nat} : vis R C (l :: K) l = false := by
  unfold vis; simp
theorem step_hid {G : List (List Nat)} {l x : Nat} (h : vis R C G.flatten x = false) : vis R C (stepG R C G l).flatten x = false := by
  unfold stepG
  split
  · rw [vis_perm (addG_flat R G l)]; exact vis_cons h
  · exact h
theorem step_self {G : List (List Nat)} {l : Nat} : vis R C (stepG R C G l).flatten l = false := by
  unfold stepG
  split
  · rw [vis_perm (addG_flat R G l)]; exact vis_self
  · rename_i h; exact Bool.eq_false_iff.mpr h
theorem scan_hid : ∀ (L : List Nat) (G : List (List Nat)), (∀ x, vis R C G.flatten x = false → vis R C (L.foldl (stepG R C) G).flatten x = false) ∧ ∀ x ∈ L, vis R C (L.foldl (stepG R C) G).flatten x = false
  | [], G => ⟨fun _ h => h, fun _ h => nomatch h⟩
  | l :: L, G => by
    obtain ⟨h1, h2⟩ := scan_hid L (stepG R C G l)
    refine ⟨fun x h => h1 x (step_hid h), fun x hx => ?_⟩
    rcases List.mem_cons.mp hx with rfl | hx
    · exact h1 _ step_self
    · exact h2 x hx
theorem norm_hid (ls : List Nat) : ∀ x ∈ ls, vis R C (norm R C ls) x = false := fun x hx => by
  have h := (scan_hid (R := R) (C := C) ls.reverse []).2 x (List.mem_reverse.mpr hx)
  unfold norm
  rw [vis_perm (flatS_perm _)]
  exact h
theorem fold_hid : ∀ (L : List Nat) (G : List (List Nat)), (∀ x ∈ L, vis R C G.flatten x = false) → L.foldl (stepG R C) G = G
  | [], G, _ => rfl
  | l :: L, G, h => by
    have e : stepG R C G l = G := by
      unfold stepG
      rw [if_neg]
      show ¬ okG R C G l = true
      rw [show okG R C G l = vis R C G.flatten l from rfl, h l List.mem_cons_self]
      decide
    rw [List.foldl_cons, e]
    exact fold_hid L G fun x hx => h x (List.mem_cons_of_mem _ hx)
theorem norm_app {ls X : List Nat} (hl : ∀ x ∈ ls, x < R + C) (h : ∀ x ∈ X, vis R C (norm R C ls) x = false) : norm R C (X ++ norm R C ls) = norm R C ls := by
  have hv := (scanG_VG (R := R) (C := C) hl).map (fun g => (sortN g).reverse) fun g => (List.reverse_perm _).trans (sortN_perm g)
  have e : (norm R C ls).reverse = ((scanG R C ls.reverse).map fun g => (sortN g).reverse).reverse.flatten := by
    unfold norm flatS
    rw [List.reverse_flatten, List.map_map]
    rfl
  have e2 : scanG R C (X ++ norm R C ls).reverse = (scanG R C ls.reverse).map fun g => (sortN g).reverse := by
    have h3 := scan_flat hv
    rw [← e] at h3
    unfold scanG at h3 ⊢
    rw [List.reverse_append, List.foldl_append, h3]
    refine fold_hid _ _ fun x hx => ?_
    have h4 := h x (List.mem_reverse.mp hx)
    have p : ((List.foldl (stepG R C) [] ls.reverse).map fun g => (sortN g).reverse).flatten.Perm (norm R C ls) := by
      unfold norm flatS
      have : ∀ G : List (List Nat), (G.map fun g => (sortN g).reverse).flatten.Perm (G.map sortN).flatten := fun G => by
        induction G with
        | nil => exact .refl _
        | cons g G ih => rw [List.map_cons, List.flatten_cons, List.map_cons, List.flatten_cons]; exact (List.reverse_perm _).append ih
      exact this _
    rw [vis_perm p]
    exact h4
  show flatS (scanG R C (X ++ norm R C ls).reverse) = _
  rw [e2]
  show _ = flatS (scanG R C ls.reverse)
  unfold flatS
  rw [List.map_map]
  congr 1
  exact List.map_congr_left fun g _ => sortN_rev g
theorem vis_mem {K : List Nat} {x : Nat} (h : x ∈ K) : vis R C K x = false := by
  have : K.contains x = true := List.contains_iff_mem.mpr h
  unfold vis; rw [this]; rfl
theorem vis_rows {K : List Nat} {x : Nat} (h : rowsN R K = R) : vis R C K x = false := by unfold vis; simp [h]
theorem vis_cols {K : List Nat} {x : Nat} (h : colsN R K = C) : vis R C K x = false := by unfold vis; simp [h]
end
theorem gcd_scale (t : Nat) : ∀ (ws : List Nat) (s : Nat), (ws.map (t * ·)).foldl (fun s w => Nat.gcd w s) (t * s) = t * ws.foldl (fun s w => Nat.gcd w s) s
  | [], s => rfl
  | w :: ws, s => by
    rw [List.map_cons, List.foldl_cons, List.foldl_cons, Nat.gcd_mul_left]
    exact gcd_scale t ws _
theorem gcdL_scale (t : Nat) (ws : List Nat) : gcdL (ws.map (t * ·)) = t * gcdL ws := by
  have := gcd_scale t ws 0
  rwa [Nat.mul_zero] at this
theorem sumK_cons (p : List Nat × Nat) (ps : Ms) (k : List Nat) : sumK (p :: ps) k = (if p.1 = k then p.2 else 0) + sumK ps k := by
  unfold sumK
  rw [List.filter_cons]
  by_cases h : p.1 = k <;> simp [h]
theorem sumK_nil (k : List Nat) : sumK [] k = 0 := rfl
theorem sumK_app (a b : Ms) (k : List Nat) : sumK (a ++ b) k = sumK a k + sumK b k := by
  induction a with
  | nil => rw [List.nil_append, sumK_nil]; omega
  | cons p a ih => rw [List.cons_append, sumK_cons, sumK_cons, ih]; omega
theorem sumK_perm {a b : Ms} (p : a.Perm b) (k : List Nat) : sumK a k = sumK b k := by
  unfold sumK
  exact (((p.filter _).map _).sum_nat)
theorem sumK_pos {ps : Ms} (hp : ∀ x ∈ ps, 0 < x.2) (k : List Nat) : k ∈ kM ps ↔ 0 < sumK ps k := by
  induction ps with
  | nil => simp [kM, sumK_nil]
  | cons p ps ih =>
    have ih' := ih fun x hx => hp x (List.mem_cons_of_mem _ hx)
    have hp0 := hp p List.mem_cons_self
    rw [sumK_cons]
    unfold kM at ih' ⊢
    rw [List.map_cons, List.mem_cons, ih']
    by_cases h : p.1 = k
    · subst h; simp; omega
    · have h2 : ¬ k = p.1 := fun z => h z.symm
      simp [h, h2]
theorem mk_congr {a b : Ms} {t : Nat} (ht : 0 < t) (pa : ∀ x ∈ a, 0 < x.2) (pb : ∀ x ∈ b, 0 < x.2) (h : ∀ k, sumK b k = t * sumK a k) : tidy (mkM b) = tidy (mkM a) := by
  have hg : ∀ k, gN (mkM b) k = t * gN (mkM a) k := fun k => by rw [gN_mk, gN_mk, h]
  have hk : ∀ k, k ∈ kM (mkM b) ↔ k ∈ kM (mkM a) := fun k => by
    rw [mkM_mem, mkM_mem, sumK_pos pa, sumK_pos pb, h]
    constructor
    · intro z
      exact Nat.pos_of_mul_pos_left z
    · intro z; exact Nat.mul_pos ht z
  have hs : sortK (kM (mkM b)) = sortK (kM (mkM a)) := sortK_eq ((List.perm_ext_iff_of_nodup (mkM_nd b) (mkM_nd a)).mpr hk)
  have hw : gcdL (wM (mkM b)) = t * gcdL (wM (mkM a)) := by
    rw [← gcdL_scale]
    refine gcdL_eq fun w => ?_
    rw [wM_mem (mkM_nd b), List.mem_map]
    constructor
    · rintro ⟨k, hk1, rfl⟩
      exact ⟨gN (mkM a) k, (wM_mem (mkM_nd a)).mpr ⟨k, (hk k).mp hk1, rfl⟩, (hg k).symm⟩
    · rintro ⟨v, hv, rfl⟩
      obtain ⟨k, hk1, rfl⟩ := (wM_mem (mkM_nd a)).mp hv
      exact ⟨k, (hk k).mpr hk1, hg k⟩
  unfold tidy
  rw [hs, hw]
  refine List.map_congr_left fun k _ => ?_
  rw [hg, Nat.mul_div_mul_left _ _ ht]
end C
namespace C
open PySem PySem.Spec PyProof.Rows L2 PD Od
def Thr (n : Nat) (t : List Nat × Nat) : Prop := (∀ x ∈ t.1, x < n) ∧ t.1.length ≤ 3 ∧ 1 ≤ t.2 ∧ t.2 ≤ 4
theorem FP_throws {ns : List Int} {a b c : Int} {R C most : Nat} {Q : D → List (List D) → Prop} (r : RowOk a b) (h1 : 1 ≤ R) (hz : R + C ≤ 24) (hm : 1 ≤ most ∧ most ≤ 100)
    (h : ∀ (ts : Ms) (a' b' c' : Int), RowOk a' b' → ts ≠ [] → ts.length ≤ most → (∀ t ∈ ts, Thr (R + C) t) → Q (.lst (ts.map thr)) [rowD ns a' b' c']) :
    FP F__law_throws [.obj 0, .int R, .int C, .int (most : Int)] [rowD ns a b c] Q := by
  refine run_wp rfl ?_
  unfold b__law_throws
  simp
  refine FP_taken r (by omega) (by omega) fun v a b c r1 hv => ?_
  have q1 : rg1 [.int (1 + (v : Int))] = some (rgD 0 (0 + ((1 + v : Nat) : Int))) := by
    rw [show (1 + (v : Int)) = ((1 + v : Nat) : Int) by omega, rg1_nat (by omega)]
    simp
  simp [q1]
  rw [show (1 + (v : Int)) = 0 + ((1 + v : Nat) : Int) by omega]
  obtain ⟨I, hI⟩ : ∃ I : Nat → M → Prop, I = fun k m => ∃ (ts : Ms) (a b c : Int) (x5 x6 : Slot), m = ⟨[.pl (.obj 0), .pl (.int R), .pl (.int C), .pl (.int (most : Int)), .ow (.lst (ts.map thr)), x5, x6, .un], [rowD ns a b c]⟩ ∧ RowOk a b ∧ ts.length = k ∧ ∀ t ∈ ts, Thr (R + C) t := ⟨_, rfl⟩
  refine wp_rg 0 (1 + v) I ?_ ?_ ?_
  · rw [hI]; exact ⟨[], a, b, c, .un, .un, rfl, r1, rfl, fun x hx => nomatch hx⟩
  · intro k m hk hm
    rw [hI] at hm
    obtain ⟨ts, a, b, c, x5, x6, rfl, r2, hl, hts⟩ := hm
    refine ⟨[.pl (.obj 0), .pl (.int R), .pl (.int C), .pl (.int (most : Int)), .ow (.lst (ts.map thr)), .pl (.int (0 + (k : Int))), x6, .un], rfl, ?_⟩
    simp [wp_eLc]
    refine FP_pick r2 (by decide) (by decide) fun d a b c r3 hd => ?_
    obtain ⟨w, rfl, hw⟩ : ∃ w : Nat, d = .int (w : Int) ∧ w ≤ 3 := by
      simp at hd
      rcases hd with rfl | rfl | rfl | rfl
      · exact ⟨0, rfl, by decide⟩
      · exact ⟨1, rfl, by decide⟩
      · exact ⟨2, rfl, by decide⟩
      · exact ⟨3, rfl, by decide⟩
    clear hd
    have q2 : rg1 [.int (w : Int)] = some (natD (List.range w)) := by rw [rg1_nat (by omega), rgD_nat]
    simp [q2]
    refine ⟨by rfl, size_le (by rw [natD_len, List.length_range]; omega), ?_⟩
    obtain ⟨J, hJ⟩ : ∃ J : List Nat → List D → List (List D) → Prop, J = fun done ys obs => ∃ (ls : List Nat) (a b c : Int), ys = natD ls ∧ obs = [rowD ns a b c] ∧ RowOk a b ∧ ls.length = done.length ∧ ∀ x ∈ ls, x < R + C := ⟨_, rfl⟩
    refine WP.mono (wp_lcL (fun (n : Nat) => D.int n) _ (List.range w) J ?_ ?_) ?_
    · rw [hJ]; exact ⟨[], a, b, c, rfl, rfl, r3, rfl, fun x hx => nomatch hx⟩
    · intro done x rest ys obs e hi
      rw [hJ] at hi
      obtain ⟨ls, a, b, c, rfl, rfl, r4, hl2, hls⟩ := hi
      refine ⟨_, rfl, ?_⟩
      simp
      refine FP_taken r4 (by omega) (by omega) fun v a b c r5 hv2 => ?_
      simp
      rw [hJ]
      refine ⟨by rfl, ls ++ [v], a, b, c, by unfold natD; simp, rfl, r5, by simp [hl2], fun x hx => ?_⟩
      rcases List.mem_append.mp hx with h1 | h1
      · exact hls x h1
      · rw [List.mem_singleton.mp h1]; omega
    · intro ys m' hm
      obtain ⟨e1, hi⟩ := hm
      rw [hJ] at hi
      obtain ⟨ls, a, b, c, rfl, e2, r4, hl2, hls⟩ := hi
      obtain ⟨env, obs⟩ := m'
      simp at e1 e2
      subst e1 e2
      have uw : unwipe [Slot.pl (D.obj 0), Slot.pl (D.int ↑R), Slot.pl (D.int ↑C), Slot.pl (D.int ↑most), Slot.ow (D.lst (List.map thr ts)), Slot.pl (D.int ↑k), x6, Slot.un]
        [Slot.pl (D.obj 0), Slot.pl (D.int ↑R), Slot.pl (D.int ↑C), Slot.pl (D.int ↑most), Slot.ow (D.lst (List.map thr ts)), Slot.pl (D.int ↑k), x6, Slot.un] [7] =
        [Slot.pl (D.obj 0), Slot.pl (D.int ↑R), Slot.pl (D.int ↑C), Slot.pl (D.int ↑most), Slot.ow (D.lst (List.map thr ts)), Slot.pl (D.int ↑k), x6, Slot.un] := rfl
      simp [uw]
      refine FP_taken (many := 4) r4 (by decide) (by decide) fun v2 a b c r5 hv2 => ?_
      have hsz : (ts.map thr).length < sizeLine := by rw [List.length_map]; exact lt_size _ (by omega)
      rw [List.length_map] at hsz
      simp [hsz]
      rw [hI]
      refine ⟨ts ++ [(ls, 1 + v2)], a, b, c, .pl (.int (k : Int)), .pl (.lst (natD ls)), ?_, r5, by simp [hl], fun t ht => ?_⟩
      · rw [List.map_append]
        have : thr (ls, 1 + v2) = D.tup [.lst (natD ls), .int (1 + (v2 : Int))] := by unfold thr; rw [show ((1 + v2 : Nat) : Int) = 1 + (v2 : Int) by omega]
        rw [List.map_cons, List.map_nil, this]
      · rcases List.mem_append.mp ht with h1 | h1
        · exact hts t h1
        · rw [List.mem_singleton.mp h1]
          rw [List.length_range] at hl2
          exact ⟨hls, by show ls.length ≤ 3; omega, by show 1 ≤ 1 + v2; omega, by show 1 + v2 ≤ 4; omega⟩
  · intro m hm
    rw [hI] at hm
    obtain ⟨ts, a, b, c, x5, x6, rfl, r2, hl, hts⟩ := hm
    simp
    exact h ts a b c r2 (fun z => by rw [z] at hl; simp at hl; omega) (by omega) hts
end C
namespace C
open PySem PySem.Spec PyProof.Rows L2 PD Od
section
variable {κ ν : Type} [DecidableEq κ] {kf : κ → List Key} {kd : κ → D}
def hitA (f g : ν → Rat) (l2 l1 : List (κ × ν)) : Bool := l1.all fun x => match l2.find? fun y => decide (y.1 = x.1) with
  | some y => decide (f x.2 = g y.2)
  | none => false
theorem hit_al (e : EncK kf kd) (f g : ν → Rat) (l2 : List (κ × ν)) : ∀ l1 : List (κ × ν), hitD (l2.map fun x => (kf x.1, cf (g x.2))) (l1.map fun x => (kf x.1, cf (f x.2))) = some (hitA f g l2 l1)
  | [] => rfl
  | x :: l1 => by
    have ih := hit_al e f g l2 l1
    rw [List.map_cons]
    unfold hitD
    rw [valD_al (fun w => cf (g w)) e]
    unfold hitA at ih ⊢
    rw [List.all_cons]
    cases hf : l2.find? fun y => decide (y.1 = x.1) with
    | none => simp
    | some y => simp [eqB_cf, ih]
theorem eqT_al (e : EncK kf kd) (f g : ν → Rat) (l1 l2 : List (κ × ν)) (h : Bool → Bool) : eqTD h (alD kf (fun w => cf (f w)) l1) (alD kf (fun w => cf (g w)) l2) = some (.bl (h (l1.length == l2.length && hitA f g l2 l1))) := by
  unfold eqTD alD
  simp only [hit_al e, Option.map_some, List.length_map]
theorem hitA_self (f : ν → Rat) {l : List (κ × ν)} (hn : (kA l).Nodup) : hitA f f l l = true := by
  unfold hitA
  rw [List.all_eq_true]
  intro x hx
  cases hf : l.find? fun y => decide (y.1 = x.1) with
  | none =>
    have := List.find?_eq_none.mp hf x hx
    simp at this
  | some y =>
    have h1 := List.find?_some hf
    have h2 := List.mem_of_find?_eq_some hf
    have h3 : y.1 = x.1 := of_decide_eq_true h1
    have h4 := gA_mem (z := x.2) hn h2
    have h5 := gA_mem (z := x.2) hn hx
    rw [h3, h5] at h4
    show decide (f x.2 = f y.2) = true
    rw [h4]
    exact decide_eq_true rfl
end
section
variable {R C : Nat}
theorem sup_sub {a b : List Nat} (h : ∀ x ∈ a, x ∈ b) : ∀ x ∈ sup R C a, x ∈ sup R C b := fun x hx => by
  rw [mem_sup] at hx ⊢
  exact ⟨hx.1, hx.2.elim (fun z => .inl (full_of (fun y hy _ => h y hy) z)) fun z => .inr (h x z)⟩
theorem shr_self {n : Nat} (h : 0 < n) : shr n n = 1 := by
  unfold shr
  have : (((n : Nat) : Int) : Rat) ≠ 0 := by
    intro z
    have : ((n : Nat) : Int) = 0 := by exact_mod_cast z
    omega
  rw [Rat.div_def]
  exact Rat.mul_inv_cancel _ this
theorem shr_le {a n : Nat} (h : 0 < n) (ha : a ≤ n) : shr a n ≤ 1 := by
  unfold shr
  have hp : (0 : Rat) < (((n : Nat) : Int) : Rat) := by
    have : (0 : Int) < ((n : Nat) : Int) := by omega
    exact_mod_cast this
  have h2 : (((a : Nat) : Int) : Rat) ≤ (((n : Nat) : Int) : Rat) := by
    have : ((a : Nat) : Int) ≤ ((n : Nat) : Int) := by omega
    exact_mod_cast this
  rw [Rat.div_def, ← Rat.mul_inv_cancel _ (show (((n : Nat) : Int) : Rat) ≠ 0 from fun z => by rw [z] at hp; exact absurd hp (Rat.lt_irrefl))]
  exact Rat.mul_le_mul_of_nonneg_right h2 (Rat.le_of_lt (Rat.inv_pos.mpr hp))
theorem sup_nil (h1 : 1 ≤ R) (h2 : 1 ≤ C) : sup R C [] = [] := by
  have hf : fullL' R C [] = false := by
    rw [Bool.eq_false_iff]
    intro z
    rcases full_iff.mp z with z | z
    · exact absurd (z 0 (by omega)) (by simp)
    · exact absurd (z 0 (by omega)) (by simp)
  rw [sup_asc hf]
  unfold ascL
  simp
theorem top_mem (h1 : 1 ≤ R) (h2 : 1 ≤ C) (m : Ms) : sup R C (allL m) ∈ jM R C m := by
  rw [jM_jL]
  have := jL_top (R := R) (C := C) m [[]] [] (by rw [sup_nil h1 h2]; exact List.mem_singleton.mpr rfl)
  rwa [List.nil_append] at this
theorem top_val {m : Ms} (h0 : 0 < sumW m) : valQ R C m (sup R C (allL m)) = 1 := by
  have : wiM R C m (sup R C (allL m)) = sumW m := by
    unfold wiM
    rw [List.filter_eq_self.mpr]
    intro x hx
    unfold inS
    rw [List.all_eq_true]
    intro l hl
    refine decide_eq_true (sup_sub (fun y hy => ?_) l hl)
    unfold allL
    exact List.mem_flatMap.mpr ⟨x, hx, hy⟩
  unfold valQ
  rw [this, shr_self h0]
theorem val_le {m : Ms} (h0 : 0 < sumW m) (S : List Nat) : valQ R C m S ≤ 1 := shr_le h0 (wi_le m S)
theorem lv_head (h1 : 1 ≤ R) (h2 : 1 ≤ C) {m : Ms} (h0 : 0 < sumW m) : ∃ l, lvM R C m = 1 :: l := by
  have hm : (1 : Rat) ∈ lvM R C m := by
    unfold lvM
    rw [(sortR_perm _).mem_iff, mem_nubQ, List.mem_map]
    exact ⟨_, (sortK_perm _).mem_iff.mpr (top_mem h1 h2 m), top_val h0⟩
  have hd := sortR_desc (nubQ ((sortK (jM R C m)).map (valQ R C m)))
  have hle : ∀ q ∈ lvM R C m, q ≤ 1 := fun q hq => by
    unfold lvM at hq
    rw [(sortR_perm _).mem_iff, mem_nubQ, List.mem_map] at hq
    obtain ⟨S, _, rfl⟩ := hq
    exact val_le h0 S
  show ∃ l, lvM R C m = 1 :: l
  have hd' : (lvM R C m).Pairwise fun a b => b ≤ a := hd
  generalize lvM R C m = L at *
  cases L with
  | nil => cases hm
  | cons q L =>
    refine ⟨L, ?_⟩
    have e : q = 1 := by
      rcases List.mem_cons.mp hm with h | h
      · exact h.symm
      · exact Rat.le_antisymm (hle q List.mem_cons_self) (List.pairwise_cons.mp hd' |>.1 1 h)
    rw [e]
theorem F_same_chain_g {a b : Ms} (ga : GM R C a) (gb : GM R C b) (h1 : 1 ≤ R) (h2 : 1 ≤ C) (hR : R ≤ 12) (hC : C ≤ 12) (obs : List (List D)) (ho : obs.all D.noObs = true) :
    F_same_chain [.int (R : Int), .int (C : Int), meaD a, meaD b] obs = some (.bl (decide (a = b)), obs) := by
  refine FP.eq (run_wp rfl ?_)
  unfold b_same_chain
  have f1 := F_need_measure_g ga h1 h2 hR hC obs ho
  have f2 := F_need_measure_g gb h1 h2 hR hC obs ho
  have e := eqD_mea a b
  have g1 := fun mm : PD.M => get_mea mm a
  have g2 := fun mm : PD.M => get_mea mm b
  generalize meaD a = A at *
  generalize meaD b = B at *
  simp [FP_of f1, FP_of f2, e, g1, g2]
end
end C
namespace C
open PySem PySem.Spec PyProof.Rows L2 PD Od
noncomputable def K25_s0 : Co Flow' := sSetOb 1 (eLst (eCons (vPl 0) (eCons (Co.ret (.int 0)) (eCons (Co.ret (.int 5725)) (eCons (Co.ret (.int 0)) (Co.ret []))))))
noncomputable def K25_s1 : Co Flow' := sAsg [2, 3] (xPl (eOp addD (vB (Co.ret (.int 1))) (vB (eFn F__law_taken (eCons (vPl 1) (eCons (Co.ret (.int 4)) (Co.ret [])))))) (xPl (eOp addD (vB (Co.ret (.int 1))) (vB (eFn F__law_taken (eCons (vPl 1) (eCons (Co.ret (.int 4)) (Co.ret [])))))) xNil))
noncomputable def K25_s2 : Co Flow' := sSet 4 (eFn F__law_throws (eCons (vPl 1) (eCons (vPl 2) (eCons (vPl 3) (eCons (Co.ret (.int 4)) (Co.ret []))))))
noncomputable def K25_s3 : Co Flow' := sAsg [5, 6] (xPl (eFn F_measure (eCons (vPl 2) (eCons (vPl 3) (eCons (vPl 4) (Co.ret []))))) (xFr (eLst (Co.ret [])) xNil))
noncomputable def K25_s4 : Co Flow' := sFor (iVal (vPl 4)) true [7, 8] (sSeq (sSet 9 (asL (eCall listU (bCons (vB (eFn F_effect (eCons (vPl 2) (eCons (vPl 3) (eCons (vPl 7) (Co.ret [])))))) (Co.ret []))))) (sSeq (sSet 10 (eOp addD (vB (eLc (iVal (vPl 7)) false [17] [17] (Co.ret true) (vPl 17))) (vB (eLc (iRg1' (eCons (eFn F__law_taken (eCons (vPl 1) (eCons (Co.ret (.int 4)) (Co.ret [])))) (Co.ret []))) false [18] [18] (tB' (eOp neD (vB (vPl 9)) (vB (eLst (Co.ret []))))) (eFn F__law_pick (eCons (vPl 1) (eCons (vPl 9) (Co.ret [])))))))) (sSeq (sIf (tB' (eOp eqD (vB (eCall lenU (bCons (vB (eLc (iVal (vPl 9)) false [17] [17] (tB' (eOp ltI (vB (vPl 17)) (vB (vPl 2)))) (vPl 17))) (Co.ret [])))) (vB (vPl 2)))) (sSet 10 (eOp addD (vB (vPl 10)) (vB (eLc (iRg1' (eCons (Co.ret (.int 3)) (Co.ret []))) false [18] [18] (Co.ret true) (eOp addD (vB (vPl 2)) (vB (eFn F__law_taken (eCons (vPl 1) (eCons (vPl 3) (Co.ret [])))))))))) sNext) (sSeq (sIf (tB' (eOp eqD (vB (eCall lenU (bCons (vB (eLc (iVal (vPl 9)) false [17] [17] (tB' (eOp geI (vB (vPl 17)) (vB (vPl 2)))) (vPl 17))) (Co.ret [])))) (vB (vPl 3)))) (sSet 10 (eOp addD (vB (vPl 10)) (vB (eLc (iRg1' (eCons (Co.ret (.int 3)) (Co.ret []))) false [18] [18] (Co.ret true) (eFn F__law_taken (eCons (vPl 1) (eCons (vPl 2) (Co.ret [])))))))) sNext) (sSeq (sSet 11 (eOp addD (vB (eFn F__law_taken (eCons (vPl 1) (eCons (vPl 8) (Co.ret []))))) (vB (Co.ret (.int 1))))) (sSeq (sExpr (eAppend (vAny 6) (eTup (eCons (eOp addD (vB (eFn F__law_mixed (eCons (vPl 1) (eCons (vPl 10) (Co.ret []))))) (vB (vPl 9))) (eCons (vPl 11) (Co.ret [])))))) (sIf (tB' (eOp ltI (vB (vPl 11)) (vB (vPl 8)))) (sExpr (eAppend (vAny 6) (eTup (eCons (vPl 7) (eCons (eOp subD (vB (vPl 8)) (vB (vPl 11))) (Co.ret [])))))) sNext)))))))
noncomputable def K25_s5 : Co Flow' := sFrz 6 (sIf (tB' (eOp neD (vB (eFn F_measure (eCons (vPl 2) (eCons (vPl 3) (eCons (eFn F__law_mixed (eCons (vPl 1) (eCons (vPl 6) (Co.ret [])))) (Co.ret [])))))) (vB (vPl 5)))) (sRet (Co.ret (.bl false))) sNext)
noncomputable def K25_s6 : Co Flow' := sSet 12 (eOp addD (vB (Co.ret (.int 1))) (vB (eFn F__law_taken (eCons (vPl 1) (eCons (Co.ret (.int 9)) (Co.ret []))))))
noncomputable def K25_s7 : Co Flow' := sIf (tB' (eOp neD (vB (eFn F_measure (eCons (vPl 2) (eCons (vPl 3) (eCons (eLc (iVal (vPl 4)) true [7, 8] [7, 8] (Co.ret true) (eTup (eCons (vPl 7) (eCons (eOp mulD (vB (vPl 8)) (vB (vPl 12))) (Co.ret []))))) (Co.ret [])))))) (vB (vPl 5)))) (sRet (Co.ret (.bl false))) sNext
noncomputable def K25_s8 : Co Flow' := sSet 13 (eFn F_measure (eCons (vPl 2) (eCons (vPl 3) (eCons (eOp addD (vB (vPl 4)) (vB (eLst (eCons (eTup (eCons (eLst (eCons (eFn F__law_taken (eCons (vPl 1) (eCons (eOp addD (vB (vPl 2)) (vB (vPl 3))) (Co.ret [])))) (Co.ret []))) (eCons (eOp addD (vB (Co.ret (.int 1))) (vB (eFn F__law_taken (eCons (vPl 1) (eCons (Co.ret (.int 3)) (Co.ret [])))))) (Co.ret [])))) (Co.ret []))))) (Co.ret [])))))
noncomputable def K25_s9 : Co Flow' := sSet 14 (eLc (iRg1' (eCons (Co.ret (.int 30)) (Co.ret []))) false [18] [18] (Co.ret true) (eFn F__law_picture (eCons (vPl 1) (eCons (vPl 2) (eCons (vPl 3) (Co.ret []))))))
noncomputable def K25_s10 : Co Flow' := sSet 15 (Co.ret (.bl true))
noncomputable def K25_s11 : Co Flow' := sFor (iVal (vPl 14)) false [16] (sSet 15 (eAnd (vPl 15) (eOp (eqTD id) (vB (eFn F__law_draws (eCons (vPl 5) (eCons (vPl 16) (eCons (Co.ret (.int 1)) (Co.ret [])))))) (vB (eFn F__law_draws (eCons (vPl 13) (eCons (vPl 16) (eCons (Co.ret (.int 1)) (Co.ret [])))))))))
noncomputable def K25_s12 : Co Flow' := sIf (tOr' (tAnd' (tB' (eFn F_same_chain (eCons (vPl 2) (eCons (vPl 3) (eCons (vPl 5) (eCons (vPl 13) (Co.ret []))))))) (tNot' (tB' (vPl 15)))) (tB' (eOp isnotD (vB (eFn F_same_chain (eCons (vPl 2) (eCons (vPl 3) (eCons (vPl 5) (eCons (vPl 5) (Co.ret []))))))) (vB (Co.ret (.bl true)))))) (sRet (Co.ret (.bl false))) sNext
noncomputable def K25_s13 : Co Flow' := sRet (eAnd (eOp eqD (vB (eOp subD' (vB (eFn F_least_values (eCons (vPl 2) (eCons (vPl 3) (eCons (vPl 5) (Co.ret [])))))) (vB (Co.ret (.int 0))))) (vB (eTup (eCons (Co.ret (.int 1)) (eCons (Co.ret (.int 1)) (Co.ret [])))))) (eOp eqD (vB (eOp eqD (vB (vPl 5)) (vB (vPl 13)))) (vB (eFn F_same_chain (eCons (vPl 2) (eCons (vPl 3) (eCons (vPl 5) (eCons (vPl 13) (Co.ret [])))))))))
noncomputable def K25_t13 : Co Flow' := K25_s13
noncomputable def K25_t12 : Co Flow' := sSeq K25_s12 K25_t13
noncomputable def K25_t11 : Co Flow' := sSeq K25_s11 K25_t12
noncomputable def K25_t10 : Co Flow' := sSeq K25_s10 K25_t11
noncomputable def K25_t9 : Co Flow' := sSeq K25_s9 K25_t10
noncomputable def K25_t8 : Co Flow' := sSeq K25_s8 K25_t9
noncomputable def K25_t7 : Co Flow' := sSeq K25_s7 K25_t8
noncomputable def K25_t6 : Co Flow' := sSeq K25_s6 K25_t7
noncomputable def K25_t5 : Co Flow' := sSeq K25_s5 K25_t6
noncomputable def K25_t4 : Co Flow' := sSeq K25_s4 K25_t5
noncomputable def K25_t3 : Co Flow' := sSeq K25_s3 K25_t4
noncomputable def K25_t2 : Co Flow' := sSeq K25_s2 K25_t3
noncomputable def K25_t1 : Co Flow' := sSeq K25_s1 K25_t2
noncomputable def K25_t0 : Co Flow' := sSeq K25_s0 K25_t1
theorem K25_fold : b_law_K25 = K25_t0 := rfl
section
variable {R C : Nat}
theorem add_lst2 {a b : List D} (h : a.length + b.length ≤ 1000) : addD (.lst a) (.lst b) = some (.lst (a ++ b)) := by
  show (if a.length + b.length ≤ sizeLine then some (D.lst (a ++ b)) else none) = _
  rw [if_pos (size_le h)]
theorem dok1 {m : Ms} (g : GM R C m) (hz : m.length ≤ 100) (hs : sumW m ≤ 10 ^ 30) (p : Px) : DOk R C m p 1 := by
  refine ⟨fun x hx => (g.eff x hx).1, by omega, by rw [Nat.pow_one]; exact hs, sumW_pos g.ne g.ok.p, fun k hk => ?_, by decide⟩
  have : k = 0 := by omega
  subst this
  show 1 * m.length < 100000
  omega
structure K25B (R C : Nat) (one other : Ms) : Prop where
  r : 1 ≤ R ∧ R ≤ 4
  c : 1 ≤ C ∧ C ≤ 4
  g1 : GM R C one
  g2 : GM R C other
  z1 : one.length ≤ 5
  z2 : other.length ≤ 5
  s1 : sumW one ≤ 100
  s2 : sumW other ≤ 100
theorem k25_t12 {e0 e1 e4 e6 e7 e8 e9 e10 e11 e12 e14 e16 e17 e18 : PD.Slot} {sm : Bool} {obs : List (List D)} {one other : Ms} {Q : Flow' → M → Prop} (k : K25B R C one other) (hsm : one = other → sm = true) (ho : obs.all D.noObs = true) (hQ : ∀ m, Q (.rt (.bl true)) m) :
    WP K25_t12 ⟨[e0, e1, .pl (.int (R : Int)), .pl (.int (C : Int)), e4, .pl (meaD one), e6, e7, e8, e9, e10, e11, e12, .pl (meaD other), e14, .pl (.bl sm), e16, e17, e18], obs⟩ Q := by
  have k1 := k.r
  have k2 := k.c
  have k3 := k.z1
  have k4 := k.s1
  unfold K25_t12 K25_s12 K25_t13 K25_s13
  have f1 := F_same_chain_g k.g1 k.g2 (by omega) (by omega) (by omega) (by omega) obs ho
  have f2 := F_same_chain_g k.g1 k.g1 (by omega) (by omega) (by omega) (by omega) obs ho
  rw [decide_eq_true rfl] at f2
  have f3 := F_least_values_g k.g1 (by omega) (by omega) (by omega) (by omega) k.z1 (by omega) obs ho
  obtain ⟨l, hl⟩ := lv_head (R := R) (C := C) (by omega) (by omega) (m := one) (sumW_pos k.g1.ne k.g1.ok.p)
  rw [hl] at f3
  have s1 : subD' (.tup ((1 :: l).map cf)) (.int 0) = some (cf 1) := PD.atI_nat (cf 1 :: l.map cf) 0
  have e1 : eqD (cf 1) (.tup [.int 1, .int 1]) = some (.bl true) := by rw [cf_one, eqD_cf]; rfl
  have e2 := eqD_mea one other
  have n1 : isnotD (.bl true) (.bl true) = some (.bl false) := rfl
  have e3 : ∀ B : Bool, eqD (.bl B) (.bl B) = some (.bl true) := fun B => by cases B <;> rfl
  have e3B := e3 (decide (one = other))
  have hB : (decide (one = other) && !sm) = false := by
    by_cases h : one = other
    · rw [hsm h]; simp
    · simp [h]
  have gT : ∀ mm : M, Opd.get mm (.val (.tup ((1 :: l).map cf))) = some (.tup ((1 :: l).map cf)) := fun mm => rfl
  have gC : ∀ mm : M, Opd.get mm (.val (cf 1)) = some (cf 1) := fun mm => rfl
  have g1 := fun mm : PD.M => get_mea mm one
  have g2 := fun mm : PD.M => get_mea mm other
  generalize hTT : D.tup ((1 :: l).map cf) = TT at *
  generalize hC1 : cf 1 = C1 at *
  generalize meaD one = M1 at *
  generalize meaD other = M2 at *
  generalize decide (one = other) = B at *
  cases B <;> cases sm <;> first
    | (exact absurd hB (by decide))
    | (simp [FP_of f1, FP_of f2, FP_of f3, s1, e1, e2, n1, e3B, gT, gC, g1, g2]; exact hQ _)
theorem k25_t11 {e0 e1 e4 e6 e7 e8 e9 e10 e11 e12 e16 e17 e18 : PD.Slot} {obs : List (List D)} {one other : Ms} {ps : List Px} {Q : Flow' → M → Prop} (k : K25B R C one other) (hps : ∀ p ∈ ps, Pic R C p) (ho : obs.all D.noObs = true) (hQ : ∀ m, Q (.rt (.bl true)) m) :
    WP K25_t10 ⟨[e0, e1, .pl (.int (R : Int)), .pl (.int (C : Int)), e4, .pl (meaD one), e6, e7, e8, e9, e10, e11, e12, .pl (meaD other), .pl (.lst (ps.map picD)), .un, e16, e17, e18], obs⟩ Q := by
  have k1 := k.r
  have k2 := k.c
  have k3 := k.z1
  have k4 := k.s1
  have k5 := k.z2
  have k6 := k.s2
  unfold K25_t10 K25_s10 K25_t11 K25_s11
  have i1 : itD (.lst (ps.map picD)) = some (ps.map picD) := rfl
  have tl : ∀ (sm : Bool) (y16 : PD.Slot), (one = other → sm = true) → WP K25_t12 ⟨[e0, e1, .pl (.int (R : Int)), .pl (.int (C : Int)), e4, .pl (meaD one), e6, e7, e8, e9, e10, e11, e12, .pl (meaD other), .pl (.lst (ps.map picD)), .pl (.bl sm), y16, e17, e18], obs⟩ Q := fun sm y16 h => k25_t12 k h ho hQ
  generalize hL : D.lst (ps.map picD) = L at *
  simp [i1]
  obtain ⟨I, hI⟩ : ∃ I : List Px → M → Prop, I = fun done mm => ∃ (sm : Bool) (y16 : PD.Slot), (one = other → sm = true) ∧ mm = ⟨[e0, e1, .pl (.int (R : Int)), .pl (.int (C : Int)), e4, .pl (meaD one), e6, e7, e8, e9, e10, e11, e12, .pl (meaD other), .pl L, .pl (.bl sm), y16, e17, e18], obs⟩ := ⟨_, rfl⟩
  refine wp_for picD ps I ?_ ?_ ?_
  · rw [hI]; exact ⟨true, e16, fun _ => rfl, rfl⟩
  · intro done p rest mm e hm
    rw [hI] at hm
    obtain ⟨sm, y16, hsm, rfl⟩ := hm
    refine ⟨[e0, e1, .pl (.int (R : Int)), .pl (.int (C : Int)), e4, .pl (meaD one), e6, e7, e8, e9, e10, e11, e12, .pl (meaD other), .pl L, .pl (.bl sm), .pl (picD p), e17, e18], rfl, ?_⟩
    have hp : Pic R C p := hps p (by rw [e]; simp)
    have f1 := F__law_draws_g (dok1 k.g1 (by omega) (by omega) p) (by omega) (by omega) hp obs
    have f2 := F__law_draws_g (dok1 k.g2 (by omega) (by omega) p) (by omega) (by omega) hp obs
    have hI2 : ∀ (sm : Bool) mm, (one = other → sm = true) → mm = (⟨[e0, e1, .pl (.int (R : Int)), .pl (.int (C : Int)), e4, .pl (meaD one), e6, e7, e8, e9, e10, e11, e12, .pl (meaD other), .pl L, .pl (.bl sm), .pl (picD p), e17, e18], obs⟩ : M) → I (done ++ [p]) mm := fun sm mm h hm => by rw [hI]; exact ⟨sm, _, h, hm⟩
    clear hI
    rw [show ((1 : Nat) : Int) = 1 from rfl] at f1 f2
    have ee := eqT_al encP (fun w => shr w (sumW one ^ 1)) (fun w => shr w (sumW other ^ 1)) (drawsA C one p 1) (drawsA C other p 1) id
    have hb : one = other → ((drawsA C one p 1).length == (drawsA C other p 1).length && hitA (fun w => shr w (sumW one ^ 1)) (fun w => shr w (sumW other ^ 1)) (drawsA C other p 1) (drawsA C one p 1)) = true := fun h => by
      subst h
      rw [hitA_self _ (draws_nd one p 1)]
      simp
    rw [show ∀ b : Bool, id b = b from fun _ => rfl] at ee
    generalize ((drawsA C one p 1).length == (drawsA C other p 1).length && hitA (fun w => shr w (sumW one ^ 1)) (fun w => shr w (sumW other ^ 1)) (drawsA C other p 1) (drawsA C one p 1)) = B at *
    have gA : ∀ mm : M, Opd.get mm (.val (alD keyP (fun w => cf (shr w (sumW one ^ 1))) (drawsA C one p 1))) = some (alD keyP (fun w => cf (shr w (sumW one ^ 1))) (drawsA C one p 1)) := fun mm => rfl
    have gB : ∀ mm : M, Opd.get mm (.val (alD keyP (fun w => cf (shr w (sumW other ^ 1))) (drawsA C other p 1))) = some (alD keyP (fun w => cf (shr w (sumW other ^ 1))) (drawsA C other p 1)) := fun mm => rfl
    generalize alD keyP (fun w => cf (shr w (sumW one ^ 1))) (drawsA C one p 1) = DA at *
    generalize alD keyP (fun w => cf (shr w (sumW other ^ 1))) (drawsA C other p 1) = DB at *
    generalize meaD one = M1 at *
    generalize meaD other = M2 at *
    generalize picD p = P at *
    cases sm with
    | false =>
      simp
      exact hI2 false _ (fun h => absurd (hsm h) (by decide)) rfl
    | true =>
      simp [FP_of f1, FP_of f2, ee, gA, gB]
      exact hI2 B _ hb rfl
  · intro mm hm
    rw [hI] at hm
    obtain ⟨sm, y16, hsm, rfl⟩ := hm
    exact tl sm y16 hsm
theorem k25_t9 {e4 e6 e7 e8 e9 e10 e11 e12 e16 : PD.Slot} {ns : List Int} {a b c : Int} {one other : Ms} {Q : Flow' → M → Prop} (k : K25B R C one other) (r : RowOk a b) (hQ : ∀ m, Q (.rt (.bl true)) m) :
    WP K25_t9 ⟨[.pl (.scr ns), .pl (.obj 0), .pl (.int (R : Int)), .pl (.int (C : Int)), e4, .pl (meaD one), e6, e7, e8, e9, e10, e11, e12, .pl (meaD other), .un, .un, e16, .un, .un], [rowD ns a b c]⟩ Q := by
  have k1 := k.r
  have k2 := k.c
  unfold K25_t9 K25_s9
  have q1 : rg1 [.int 30] = some (natD (List.range 30)) := by rw [show (30 : Int) = ((30 : Nat) : Int) from rfl, rg1_nat (by omega), rgD_nat]
  have tl : ∀ (ps : List Px) (a b c : Int), RowOk a b → (∀ p ∈ ps, Pic R C p) → WP K25_t10 ⟨[.pl (.scr ns), .pl (.obj 0), .pl (.int (R : Int)), .pl (.int (C : Int)), e4, .pl (meaD one), e6, e7, e8, e9, e10, e11, e12, .pl (meaD other), .pl (.lst (ps.map picD)), .un, e16, .un, .un], [rowD ns a b c]⟩ Q := fun ps a b c r h => k25_t11 k h rfl hQ
  generalize meaD one = M1 at *
  generalize meaD other = M2 at *
  simp [wp_eLc, q1]
  refine ⟨by rfl, size_le (by rw [natD_len, List.length_range]; omega), ?_⟩
  obtain ⟨J, hJ⟩ : ∃ J : List Nat → List D → List (List D) → Prop, J = fun done ys obs => ∃ (ps : List Px) (a b c : Int), ys = ps.map picD ∧ obs = [rowD ns a b c] ∧ RowOk a b ∧ ∀ p ∈ ps, Pic R C p := ⟨_, rfl⟩
  refine WP.mono (wp_lcL (fun (n : Nat) => D.int n) _ (List.range 30) J ?_ ?_) ?_
  · rw [hJ]; exact ⟨[], a, b, c, rfl, rfl, r, fun x hx => nomatch hx⟩
  · intro done x rest ys obs e hi
    rw [hJ] at hi
    obtain ⟨ps, a, b, c, rfl, rfl, r, hps⟩ := hi
    refine ⟨_, rfl, ?_⟩
    simp
    refine FP_picture r (by omega) (by omega) fun p a b c r2 hp => ?_
    rw [hJ]
    refine ⟨by rfl, by rfl, ps ++ [p], a, b, c, by simp, rfl, r2, fun x hx => ?_⟩
    rcases List.mem_append.mp hx with h1 | h1
    · exact hps x h1
    · rw [List.mem_singleton.mp h1]; exact hp
  · intro ys m' hm
    obtain ⟨e1, hi⟩ := hm
    rw [hJ] at hi
    obtain ⟨ps, a, b, c, rfl, e2, r2, hps⟩ := hi
    obtain ⟨env, obs⟩ := m'
    subst e1 e2
    simp
    exact tl ps a b c r2 hps
end
end C
namespace C
open PySem PySem.Spec PyProof.Rows L2 PD Od
noncomputable def K25b_s0 : Co Flow' := sSet 9 (asL (eCall listU (bCons (vB (eFn F_effect (eCons (vPl 2) (eCons (vPl 3) (eCons (vPl 7) (Co.ret [])))))) (Co.ret []))))
noncomputable def K25b_s1 : Co Flow' := sSet 10 (eOp addD (vB (eLc (iVal (vPl 7)) false [17] [17] (Co.ret true) (vPl 17))) (vB (eLc (iRg1' (eCons (eFn F__law_taken (eCons (vPl 1) (eCons (Co.ret (.int 4)) (Co.ret [])))) (Co.ret []))) false [18] [18] (tB' (eOp neD (vB (vPl 9)) (vB (eLst (Co.ret []))))) (eFn F__law_pick (eCons (vPl 1) (eCons (vPl 9) (Co.ret [])))))))
noncomputable def K25b_s2 : Co Flow' := sIf (tB' (eOp eqD (vB (eCall lenU (bCons (vB (eLc (iVal (vPl 9)) false [17] [17] (tB' (eOp ltI (vB (vPl 17)) (vB (vPl 2)))) (vPl 17))) (Co.ret [])))) (vB (vPl 2)))) (sSet 10 (eOp addD (vB (vPl 10)) (vB (eLc (iRg1' (eCons (Co.ret (.int 3)) (Co.ret []))) false [18] [18] (Co.ret true) (eOp addD (vB (vPl 2)) (vB (eFn F__law_taken (eCons (vPl 1) (eCons (vPl 3) (Co.ret [])))))))))) sNext
noncomputable def K25b_s3 : Co Flow' := sIf (tB' (eOp eqD (vB (eCall lenU (bCons (vB (eLc (iVal (vPl 9)) false [17] [17] (tB' (eOp geI (vB (vPl 17)) (vB (vPl 2)))) (vPl 17))) (Co.ret [])))) (vB (vPl 3)))) (sSet 10 (eOp addD (vB (vPl 10)) (vB (eLc (iRg1' (eCons (Co.ret (.int 3)) (Co.ret []))) false [18] [18] (Co.ret true) (eFn F__law_taken (eCons (vPl 1) (eCons (vPl 2) (Co.ret [])))))))) sNext
noncomputable def K25b_s4 : Co Flow' := sSet 11 (eOp addD (vB (eFn F__law_taken (eCons (vPl 1) (eCons (vPl 8) (Co.ret []))))) (vB (Co.ret (.int 1))))
noncomputable def K25b_s5 : Co Flow' := sExpr (eAppend (vAny 6) (eTup (eCons (eOp addD (vB (eFn F__law_mixed (eCons (vPl 1) (eCons (vPl 10) (Co.ret []))))) (vB (vPl 9))) (eCons (vPl 11) (Co.ret [])))))
noncomputable def K25b_s6 : Co Flow' := sIf (tB' (eOp ltI (vB (vPl 11)) (vB (vPl 8)))) (sExpr (eAppend (vAny 6) (eTup (eCons (vPl 7) (eCons (eOp subD (vB (vPl 8)) (vB (vPl 11))) (Co.ret [])))))) sNext
noncomputable def K25b_t6 : Co Flow' := K25b_s6
noncomputable def K25b_t5 : Co Flow' := sSeq K25b_s5 K25b_t6
noncomputable def K25b_t4 : Co Flow' := sSeq K25b_s4 K25b_t5
noncomputable def K25b_t3 : Co Flow' := sSeq K25b_s3 K25b_t4
noncomputable def K25b_t2 : Co Flow' := sSeq K25b_s2 K25b_t3
noncomputable def K25b_t1 : Co Flow' := sSeq K25b_s1 K25b_t2
noncomputable def K25b_t0 : Co Flow' := sSeq K25b_s0 K25b_t1
section
variable {R C : Nat}
theorem FP_mixedT {ns : List Int} {a b c : Int} (l : Ms) {Q : D → List (List D) → Prop} (r : RowOk a b) (hn : l.length ≤ 100) (h : ∀ (o : Ms) (a' b' c' : Int), RowOk a' b' → o.Perm l → Q (.lst (o.map thr)) [rowD ns a' b' c']) :
    FP F__law_mixed [.obj 0, .lst (l.map thr)] [rowD ns a b c] Q := by
  obtain ⟨ys, a', b', c', hmix, r4, hperm⟩ := F__law_mixed_q ns r (c := c) (l.map thr) (by rw [List.length_map]; omega)
  obtain ⟨o, h1, rfl⟩ := perm_lift thr hperm.symm l rfl
  exact FP.mk hmix (h o a' b' c' r4 h1)
def cutT (K ls X : List Nat) (w cut : Nat) : Ms := (X ++ K, cut) :: (if cut < w then [(ls, w - cut)] else [])
theorem k25b_t6 {e0 e1 e2 e3 e4 e5 e9 e10 e12 e13 e14 e15 e16 e17 e18 : PD.Slot} {obs : List (List D)} {mo : Ms} {ls : List Nat} {w cut : Nat} {Q : Flow' → M → Prop} (hz : mo.length ≤ 100)
    (hQ : Q .nx ⟨[e0, e1, e2, e3, e4, e5, .ow (.lst ((mo ++ (if cut < w then [(ls, w - cut)] else [])).map thr)), .pl (.lst (natD ls)), .pl (.int (w : Int)), e9, e10, .pl (.int (cut : Int)), e12, e13, e14, e15, e16, e17, e18], obs⟩) :
    WP K25b_t6 ⟨[e0, e1, e2, e3, e4, e5, .ow (.lst (mo.map thr)), .pl (.lst (natD ls)), .pl (.int (w : Int)), e9, e10, .pl (.int (cut : Int)), e12, e13, e14, e15, e16, e17, e18], obs⟩ Q := by
  unfold K25b_t6 K25b_s6
  by_cases h : cut < w
  · rw [if_pos h] at hQ
    have hl : ltI (.int (cut : Int)) (.int (w : Int)) = some (.bl true) := by show some (D.bl (decide ((cut : Int) < (w : Int)))) = _; rw [lt_cast, decide_eq_true h]
    have hs : subD (.int (w : Int)) (.int (cut : Int)) = some (.int ((w - cut : Nat) : Int)) := by show some (D.int ((w : Int) - (cut : Int))) = _; rw [Int.ofNat_sub (Nat.le_of_lt h)]
    have e : (mo ++ [(ls, w - cut)]).map thr = mo.map thr ++ [D.tup [.lst (natD ls), .int ((w - cut : Nat) : Int)]] := by rw [List.map_append]; rfl
    rw [e] at hQ
    have hz2 : (mo.map thr).length < sizeLine := lt_size _ (by rw [List.length_map]; omega)
    generalize mo.map thr = MT at *
    generalize ((w - cut : Nat) : Int) = DI at *
    simp [hl, hs, hz2]
    exact hQ
  · rw [if_neg h, List.append_nil] at hQ
    have hl : ltI (.int (cut : Int)) (.int (w : Int)) = some (.bl false) := by show some (D.bl (decide ((cut : Int) < (w : Int)))) = _; rw [lt_cast, decide_eq_false h]
    generalize mo.map thr = MT at *
    simp [hl]
    exact hQ
def BodyQ (R C : Nat) (ns : List Int) (e4 e5 e12 e13 e14 e15 e16 : PD.Slot) (mo : Ms) (ls : List Nat) (w : Nat) (Q : Flow' → M → Prop) : Prop :=
  ∀ (X : List Nat) (cut : Nat) (a b c : Int), RowOk a b → (∀ x ∈ X, x < R + C ∧ vis R C (norm R C ls) x = false) → X.length ≤ 12 → 1 ≤ cut ∧ cut ≤ w → ∀ y9 y10 : D,
    Q .nx ⟨[.pl (.scr ns), .pl (.obj 0), .pl (.int (R : Int)), .pl (.int (C : Int)), e4, e5, .ow (.lst ((mo ++ cutT (norm R C ls) ls X w cut).map thr)), .pl (.lst (natD ls)), .pl (.int (w : Int)), .pl y9, .pl y10, .pl (.int (cut : Int)), e12, e13, e14, e15, e16, .un, .un], [rowD ns a b c]⟩
theorem k25b_t4 {e4 e5 e11 e12 e13 e14 e15 e16 : PD.Slot} {ns : List Int} {a b c : Int} {mo : Ms} {ls X : List Nat} {w : Nat} {Q : Flow' → M → Prop} (r : RowOk a b) (hz : mo.length ≤ 90) (hw : 1 ≤ w ∧ w ≤ 4) (hK : (norm R C ls).length ≤ 100)
    (hX : ∀ x ∈ X, x < R + C ∧ vis R C (norm R C ls) x = false) (hXz : X.length ≤ 12) (hQ : BodyQ R C ns e4 e5 e12 e13 e14 e15 e16 mo ls w Q) :
    WP K25b_t4 ⟨[.pl (.scr ns), .pl (.obj 0), .pl (.int (R : Int)), .pl (.int (C : Int)), e4, e5, .ow (.lst (mo.map thr)), .pl (.lst (natD ls)), .pl (.int (w : Int)), .pl (.lst (natD (norm R C ls))), .pl (.lst (natD X)), e11, e12, e13, e14, e15, e16, .un, .un], [rowD ns a b c]⟩ Q := by
  unfold K25b_t4 K25b_s4
  simp
  refine FP_taken r (by omega) (by omega) fun v a b c r1 hv => ?_
  simp
  rw [show ((v : Int) + 1) = ((v + 1 : Nat) : Int) by omega]
  have hcut : 1 ≤ v + 1 ∧ v + 1 ≤ w := by omega
  generalize hcv : v + 1 = cut at *
  have tl : ∀ (X' : List Nat) (a b c : Int), RowOk a b → X'.Perm X → WP K25b_t6 ⟨[.pl (.scr ns), .pl (.obj 0), .pl (.int (R : Int)), .pl (.int (C : Int)), e4, e5, .ow (.lst ((mo ++ [(X' ++ norm R C ls, cut)]).map thr)), .pl (.lst (natD ls)), .pl (.int (w : Int)), .pl (.lst (natD (norm R C ls))), .pl (.lst (natD X)), .pl (.int (cut : Int)), e12, e13, e14, e15, e16, .un, .un], [rowD ns a b c]⟩ Q := fun X' a b c r p => by
    refine k25b_t6 (by simp; omega) ?_
    have := hQ X' cut a b c r (fun x hx => hX x (p.mem_iff.mp hx)) (by rw [p.length_eq]; exact hXz) hcut (.lst (natD (norm R C ls))) (.lst (natD X))
    rw [show mo ++ cutT (norm R C ls) ls X' w cut = mo ++ [(X' ++ norm R C ls, cut)] ++ (if cut < w then [(ls, w - cut)] else []) by unfold cutT; simp] at this
    exact this
  have hz2 : (mo.map thr).length < sizeLine := lt_size _ (by rw [List.length_map]; omega)
  have e : ∀ X' : List Nat, (mo ++ [(X' ++ norm R C ls, cut)]).map thr = mo.map thr ++ [D.tup [.lst (natD (X' ++ norm R C ls)), .int (cut : Int)]] := fun X' => by rw [List.map_append]; rfl
  generalize mo.map thr = MT at *
  unfold K25b_t5 K25b_s5
  simp
  refine FP_mixedL X r1 (by omega) fun X' a b c r2 p => ?_
  have ha := add_nat (a := X') (b := norm R C ls) (by have := p.length_eq; omega)
  have t := tl X' a b c r2 p.symm
  rw [e X'] at t
  simp [ha, hz2]
  exact t
theorem wp_three {env : List PD.Slot} {ns : List Int} {a b c : Int} {fe : Co D} {P : Nat → Prop} {Q : D → M → Prop} (r : RowOk a b) (h0 : env[18]? = some .un) (hn : noOw [18] env = true)
    (step : ∀ (k : Nat) (a b c : Int) (Q' : D → M → Prop), RowOk a b → (∀ (v : Nat) (a b c : Int), RowOk a b → P v → Q' (.int (v : Int)) ⟨env.set 18 (.pl (.int (k : Int))), [rowD ns a b c]⟩) → WP fe ⟨env.set 18 (.pl (.int (k : Int))), [rowD ns a b c]⟩ Q')
    (q : ∀ (l : List Nat) (a b c : Int), RowOk a b → l.length = 3 → (∀ x ∈ l, P x) → Q (.lst (natD l)) ⟨env, [rowD ns a b c]⟩) :
    WP (eLc (iRg1' (eCons (Co.ret (.int 3)) (Co.ret []))) false [18] [18] (Co.ret true) fe) ⟨env, [rowD ns a b c]⟩ Q := by
  have q1 : rg1 [.int 3] = some (natD (List.range 3)) := by rw [show (3 : Int) = ((3 : Nat) : Int) from rfl, rg1_nat (by omega), rgD_nat]
  have hl : 18 < env.length := (List.getElem?_eq_some_iff.mp h0).1
  have hw : wipeE env [18] = env := by
    show env.set 18 .un = env
    apply List.ext_getElem?
    intro j
    by_cases hj : 18 = j
    · subst hj; rw [List.getElem?_set_self hl, h0]
    · rw [List.getElem?_set_ne hj]
  have hu : unwipe env env [18] = env := by
    show env.set 18 (env[18]?.getD .un) = env
    rw [h0]
    exact hw
  simp [wp_eLc, q1]
  refine ⟨hn, size_le (by rw [natD_len, List.length_range]; omega), ?_⟩
  rw [show env.set 18 .un = env from hw]
  obtain ⟨J, hJ⟩ : ∃ J : List Nat → List D → List (List D) → Prop, J = fun done ys obs => ∃ (l : List Nat) (a b c : Int), ys = natD l ∧ obs = [rowD ns a b c] ∧ RowOk a b ∧ l.length = done.length ∧ ∀ x ∈ l, P x := ⟨_, rfl⟩
  refine WP.mono (wp_lcL (fun (n : Nat) => D.int n) env (List.range 3) J ?_ ?_) ?_
  · rw [hJ]; exact ⟨[], a, b, c, rfl, rfl, r, rfl, fun x hx => nomatch hx⟩
  · intro done x rest ys obs e hi
    rw [hJ] at hi
    obtain ⟨l, a, b, c, rfl, rfl, r, hll, hls⟩ := hi
    refine ⟨env.set 18 (.pl (.int (x : Int))), ?_, ?_⟩
    · show setEnv env [18] [(false, .int (x : Int))] = _
      unfold setEnv
      rw [if_pos hl]
      rfl
    · simp
      refine step x a b c _ r fun v a b c r2 hv => ?_
      have hn2 : noOw [18] (env.set 18 (.pl (.int (x : Int)))) = true := by
        unfold noOw
        simp [List.getElem?_set_self hl]
      have hw2 : wipeE (env.set 18 (.pl (.int (x : Int)))) [18] = env := by
        show ((env.set 18 (.pl (.int (x : Int)))).set 18 .un) = env
        rw [List.set_set]
        exact hw
      rw [hJ]
      refine ⟨hn2, hw2, l ++ [v], a, b, c, by unfold natD; simp, rfl, r2, by simp [hll], fun y hy => ?_⟩
      rcases List.mem_append.mp hy with h1 | h1
      · exact hls y h1
      · rw [List.mem_singleton.mp h1]; exact hv
  · intro ys m' hm
    obtain ⟨e1, hi⟩ := hm
    rw [hJ] at hi
    obtain ⟨l, a, b, c, rfl, e2, r2, hll, hls⟩ := hi
    obtain ⟨env', obs⟩ := m'
    subst e1 e2
    rw [hu]
    exact q l a b c r2 (by rw [hll, List.length_range]) hls
end
end C
namespace C
open PySem PySem.Spec PyProof.Rows L2 PD Od
section
variable {R C : Nat}
theorem eqD_ints (a b : Nat) : eqD (.int (a : Int)) (.int (b : Int)) = some (.bl (decide (a = b))) := Enc.nat.eqD2 Enc.nat (by decide) (by decide) a b
theorem neD_nil (K : List Nat) : neD (.lst (natD K)) (.lst []) = some (.bl (!decide (K = []))) := Enc.nat.lst.neD2 Enc.nat.lst (by decide) (by decide) K []
theorem k25b_t3 {e4 e5 e11 e12 e13 e14 e15 e16 : PD.Slot} {ns : List Int} {a b c : Int} {mo : Ms} {ls X : List Nat} {w : Nat} {Q : Flow' → M → Prop} (bR : 1 ≤ R ∧ R ≤ 4) (bC : 1 ≤ C ∧ C ≤ 4) (r : RowOk a b) (hz : mo.length ≤ 90) (hw : 1 ≤ w ∧ w ≤ 4) (hK : (norm R C ls).length ≤ 100)
    (hX : ∀ x ∈ X, x < R + C ∧ vis R C (norm R C ls) x = false) (hXz : X.length ≤ 9) (hQ : BodyQ R C ns e4 e5 e12 e13 e14 e15 e16 mo ls w Q) :
    WP K25b_t3 ⟨[.pl (.scr ns), .pl (.obj 0), .pl (.int (R : Int)), .pl (.int (C : Int)), e4, e5, .ow (.lst (mo.map thr)), .pl (.lst (natD ls)), .pl (.int (w : Int)), .pl (.lst (natD (norm R C ls))), .pl (.lst (natD X)), e11, e12, e13, e14, e15, e16, .un, .un], [rowD ns a b c]⟩ Q := by
  unfold K25b_t3 K25b_s3
  have i1 : itD (.lst (natD (norm R C ls))) = some (natD (norm R C ls)) := rfl
  have tl : ∀ (X : List Nat) (a b c : Int), RowOk a b → (∀ x ∈ X, x < R + C ∧ vis R C (norm R C ls) x = false) → X.length ≤ 12 → WP K25b_t4 ⟨[.pl (.scr ns), .pl (.obj 0), .pl (.int (R : Int)), .pl (.int (C : Int)), e4, e5, .ow (.lst (mo.map thr)), .pl (.lst (natD ls)), .pl (.int (w : Int)), .pl (.lst (natD (norm R C ls))), .pl (.lst (natD X)), e11, e12, e13, e14, e15, e16, .un, .un], [rowD ns a b c]⟩ Q := fun X a b c r h1 h2 => k25b_t4 r hz hw hK h1 h2 hQ
  have hc : colsN R (norm R C ls) = C → ∀ x, vis R C (norm R C ls) x = false := fun h x => vis_cols h
  generalize hKK : norm R C ls = K at *
  have hlen : lenU [.lst (natD (K.filter (fun x => !decide (x < R))))] = some (.int ((colsN R K : Nat) : Int)) := len_nat _
  have heq := eqD_ints (colsN R K) C
  generalize hMT : D.lst (mo.map thr) = MT at *
  simp
  refine wp_lct (fun (n : Nat) => D.int (n : Int)) (fun x => !decide (x < R)) (fun (n : Nat) => D.int (n : Int)) K (by simp [i1]; rfl) rfl (size_le (by omega)) (fun x hx => ⟨[.pl (.scr ns), .pl (.obj 0), .pl (.int (R : Int)), .pl (.int (C : Int)), e4, e5, .ow MT, .pl (.lst (natD ls)), .pl (.int (w : Int)), .pl (.lst (natD K)), .pl (.lst (natD X)), e11, e12, e13, e14, e15, e16, .pl (.int (x : Int)), .un], rfl, rfl, rfl, by
      have hg : geI (.int (x : Int)) (.int (R : Int)) = some (.bl (!decide (x < R))) := by show some (D.bl (decide ((R : Int) ≤ (x : Int)))) = _; rw [ge_cast]
      simp [hg], fun _ => by simp⟩) ?_
  rw [show (K.filter (fun x => !decide (x < R))).map (fun (n : Nat) => D.int (n : Int)) = natD (K.filter (fun x => !decide (x < R))) from rfl]
  generalize natD (K.filter (fun x => !decide (x < R))) = F1 at *
  simp [hlen, heq]
  by_cases hcc : colsN R K = C
  · rw [if_pos hcc]
    refine wp_three (P := fun x => x < R) r rfl rfl (fun k a b c Q' r h => ?_) fun l a b c r2 h3 hl => ?_
    · simp
      refine FP_taken r (by omega) (by omega) fun v a b c r hv => ?_
      simp
      exact h v a b c r (by omega)
    · have ha := add_nat (a := X) (b := l) (by omega)
      have t := tl (X ++ l) a b c r2 (fun x hx => by
        rcases List.mem_append.mp hx with h | h
        · exact hX x h
        · exact ⟨by have := hl x h; omega, hc hcc x⟩) (by rw [List.length_append]; omega)
      simp [ha]
      exact t
  · rw [if_neg hcc]
    exact tl X a b c r hX (by omega)
theorem k25b_t2 {e4 e5 e11 e12 e13 e14 e15 e16 : PD.Slot} {ns : List Int} {a b c : Int} {mo : Ms} {ls X : List Nat} {w : Nat} {Q : Flow' → M → Prop} (bR : 1 ≤ R ∧ R ≤ 4) (bC : 1 ≤ C ∧ C ≤ 4) (r : RowOk a b) (hz : mo.length ≤ 90) (hw : 1 ≤ w ∧ w ≤ 4) (hK : (norm R C ls).length ≤ 100)
    (hX : ∀ x ∈ X, x < R + C ∧ vis R C (norm R C ls) x = false) (hXz : X.length ≤ 6) (hQ : BodyQ R C ns e4 e5 e12 e13 e14 e15 e16 mo ls w Q) :
    WP K25b_t2 ⟨[.pl (.scr ns), .pl (.obj 0), .pl (.int (R : Int)), .pl (.int (C : Int)), e4, e5, .ow (.lst (mo.map thr)), .pl (.lst (natD ls)), .pl (.int (w : Int)), .pl (.lst (natD (norm R C ls))), .pl (.lst (natD X)), e11, e12, e13, e14, e15, e16, .un, .un], [rowD ns a b c]⟩ Q := by
  unfold K25b_t2 K25b_s2
  have i1 : itD (.lst (natD (norm R C ls))) = some (natD (norm R C ls)) := rfl
  have tl : ∀ (X : List Nat) (a b c : Int), RowOk a b → (∀ x ∈ X, x < R + C ∧ vis R C (norm R C ls) x = false) → X.length ≤ 9 → WP K25b_t3 ⟨[.pl (.scr ns), .pl (.obj 0), .pl (.int (R : Int)), .pl (.int (C : Int)), e4, e5, .ow (.lst (mo.map thr)), .pl (.lst (natD ls)), .pl (.int (w : Int)), .pl (.lst (natD (norm R C ls))), .pl (.lst (natD X)), e11, e12, e13, e14, e15, e16, .un, .un], [rowD ns a b c]⟩ Q := fun X a b c r h1 h2 => k25b_t3 bR bC r hz hw hK h1 h2 hQ
  have hc : rowsN R (norm R C ls) = R → ∀ x, vis R C (norm R C ls) x = false := fun h x => vis_rows h
  generalize hKK : norm R C ls = K at *
  have hlen : lenU [.lst (natD (K.filter (· < R)))] = some (.int ((rowsN R K : Nat) : Int)) := len_nat _
  have heq := eqD_ints (rowsN R K) R
  generalize hMT : D.lst (mo.map thr) = MT at *
  simp
  refine wp_lct (fun (n : Nat) => D.int (n : Int)) (fun x => decide (x < R)) (fun (n : Nat) => D.int (n : Int)) K (by simp [i1]; rfl) rfl (size_le (by omega)) (fun x hx => ⟨[.pl (.scr ns), .pl (.obj 0), .pl (.int (R : Int)), .pl (.int (C : Int)), e4, e5, .ow MT, .pl (.lst (natD ls)), .pl (.int (w : Int)), .pl (.lst (natD K)), .pl (.lst (natD X)), e11, e12, e13, e14, e15, e16, .pl (.int (x : Int)), .un], rfl, rfl, rfl, by
      have hg : ltI (.int (x : Int)) (.int (R : Int)) = some (.bl (decide (x < R))) := by show some (D.bl (decide ((x : Int) < (R : Int)))) = _; rw [lt_cast]
      simp [hg], fun _ => by simp⟩) ?_
  rw [show (K.filter (fun x => decide (x < R))).map (fun (n : Nat) => D.int (n : Int)) = natD (K.filter (fun x => decide (x < R))) from rfl]
  generalize natD (K.filter (fun x => decide (x < R))) = F1 at *
  simp [hlen, heq]
  by_cases hcc : rowsN R K = R
  · rw [if_pos hcc]
    refine wp_three (P := fun x => R ≤ x ∧ x < R + C) r rfl rfl (fun k a b c Q' r h => ?_) fun l a b c r2 h3 hl => ?_
    · simp
      refine FP_taken r (by omega) (by omega) fun v a b c r hv => ?_
      have ev : addD (.int (R : Int)) (.int (v : Int)) = some (.int ((R + v : Nat) : Int)) := by show some (D.int ((R : Int) + (v : Int))) = _; rw [Int.natCast_add]
      have h2 := h (R + v) a b c r ⟨by omega, by omega⟩
      generalize ((R + v : Nat) : Int) = RV at *
      simp [ev]
      exact h2
    · have ha := add_nat (a := X) (b := l) (by omega)
      have t := tl (X ++ l) a b c r2 (fun x hx => by
        rcases List.mem_append.mp hx with h | h
        · exact hX x h
        · exact ⟨(hl x h).2, hc hcc x⟩) (by rw [List.length_append]; omega)
      simp [ha]
      exact t
  · rw [if_neg hcc]
    exact tl X a b c r hX (by omega)
end
end C
namespace C
open PySem PySem.Spec PyProof.Rows L2 PD Od
section
variable {R C : Nat}
theorem FP_pickN {ns : List Int} {a b c : Int} {K : List Nat} {Q : D → List (List D) → Prop} (r : RowOk a b) (h0 : K ≠ []) (hm : K.length ≤ 1000) (h : ∀ (x : Nat) (a' b' c' : Int), RowOk a' b' → x ∈ K → Q (.int (x : Int)) [rowD ns a' b' c']) :
    FP F__law_pick [.obj 0, .lst (natD K)] [rowD ns a b c] Q := by
  refine FP_pick r (by rw [natD_len]; exact List.length_pos_iff.mpr h0) (by rw [natD_len]; omega) fun d a b c r2 hd => ?_
  obtain ⟨x, hx, rfl⟩ := List.mem_map.mp hd
  exact h x a b c r2 hx
theorem k25b_t1 {e4 e5 e10 e11 e12 e13 e14 e15 e16 : PD.Slot} {ns : List Int} {a b c : Int} {mo : Ms} {ls : List Nat} {w : Nat} {Q : Flow' → M → Prop} (bR : 1 ≤ R ∧ R ≤ 4) (bC : 1 ≤ C ∧ C ≤ 4) (r : RowOk a b) (hz : mo.length ≤ 90) (hw : 1 ≤ w ∧ w ≤ 4)
    (hl : ∀ x ∈ ls, x < R + C) (hlz : ls.length ≤ 3) (hQ : BodyQ R C ns e4 e5 e12 e13 e14 e15 e16 mo ls w Q) :
    WP K25b_t1 ⟨[.pl (.scr ns), .pl (.obj 0), .pl (.int (R : Int)), .pl (.int (C : Int)), e4, e5, .ow (.lst (mo.map thr)), .pl (.lst (natD ls)), .pl (.int (w : Int)), .pl (.lst (natD (norm R C ls))), e10, e11, e12, e13, e14, e15, e16, .un, .un], [rowD ns a b c]⟩ Q := by
  unfold K25b_t1 K25b_s1
  have i1 : itD (.lst (natD ls)) = some (natD ls) := rfl
  have hK : (norm R C ls).length ≤ 100 := by
    have := (len_board (norm_nodup hl) (norm_lt hl))
    omega
  have hKb := norm_lt (R := R) (C := C) hl
  have hhid := norm_hid (R := R) (C := C) ls
  have tl : ∀ (X : List Nat) (a b c : Int), RowOk a b → (∀ x ∈ X, x < R + C ∧ vis R C (norm R C ls) x = false) → X.length ≤ 6 → WP K25b_t2 ⟨[.pl (.scr ns), .pl (.obj 0), .pl (.int (R : Int)), .pl (.int (C : Int)), e4, e5, .ow (.lst (mo.map thr)), .pl (.lst (natD ls)), .pl (.int (w : Int)), .pl (.lst (natD (norm R C ls))), .pl (.lst (natD X)), e11, e12, e13, e14, e15, e16, .un, .un], [rowD ns a b c]⟩ Q := fun X a b c r h1 h2 => k25b_t2 bR bC r hz hw hK h1 h2 hQ
  have hmem : ∀ x ∈ norm R C ls, vis R C (norm R C ls) x = false := fun x hx => vis_mem hx
  generalize hKK : norm R C ls = K at *
  generalize hMT : D.lst (mo.map thr) = MT at *
  simp
  refine wp_lcm (fun (n : Nat) => D.int (n : Int)) (fun (n : Nat) => D.int (n : Int)) ls (by simp [i1]; rfl) rfl (size_le (by omega)) (fun x hx => ⟨[.pl (.scr ns), .pl (.obj 0), .pl (.int (R : Int)), .pl (.int (C : Int)), e4, e5, .ow MT, .pl (.lst (natD ls)), .pl (.int (w : Int)), .pl (.lst (natD K)), e10, e11, e12, e13, e14, e15, e16, .pl (.int (x : Int)), .un], rfl, rfl, rfl, by simp⟩) ?_
  rw [show ls.map (fun (n : Nat) => D.int (n : Int)) = natD ls from rfl]
  simp [wp_eLc]
  refine FP_taken r (by omega) (by omega) fun v a b c r hv => ?_
  have q1 : rg1 [.int (v : Int)] = some (natD (List.range v)) := by rw [rg1_nat (by omega), rgD_nat]
  simp [q1]
  refine ⟨by rfl, size_le (by rw [natD_len, List.length_range]; omega), ?_⟩
  have hnil := neD_nil K
  obtain ⟨J, hJ⟩ : ∃ J : List Nat → List D → List (List D) → Prop, J = fun done ys obs => ∃ (l : List Nat) (a b c : Int), ys = natD l ∧ obs = [rowD ns a b c] ∧ RowOk a b ∧ l.length ≤ done.length ∧ ∀ x ∈ l, x ∈ K := ⟨_, rfl⟩
  refine WP.mono (wp_lcL (fun (n : Nat) => D.int n) _ (List.range v) J ?_ ?_) ?_
  · rw [hJ]; exact ⟨[], a, b, c, rfl, rfl, r, Nat.le_refl _, fun x hx => nomatch hx⟩
  · intro done x rest ys obs e hi
    rw [hJ] at hi
    obtain ⟨l, a, b, c, rfl, rfl, r, hll, hls⟩ := hi
    refine ⟨_, rfl, ?_⟩
    simp [hnil]
    by_cases hk0 : K = []
    · simp [hk0]
      rw [hJ]
      first
        | exact ⟨by rfl, by rfl, l, a, b, c, rfl, rfl, r, by simp; omega, hls⟩
        | exact ⟨by rfl, l, a, b, c, rfl, rfl, r, by simp; omega, hls⟩
    · simp [hk0]
      refine FP_pickN r hk0 (by omega) fun y a b c r2 hy => ?_
      rw [hJ]
      refine ⟨by rfl, by rfl, l ++ [y], a, b, c, by unfold natD; simp, rfl, r2, by simp; omega, fun z hz => ?_⟩
      rcases List.mem_append.mp hz with h1 | h1
      · exact hls z h1
      · rw [List.mem_singleton.mp h1]; exact hy
  · intro ys m' hm
    obtain ⟨e1, hi⟩ := hm
    rw [hJ] at hi
    obtain ⟨l, a, b, c, rfl, e2, r2, hll, hls⟩ := hi
    obtain ⟨env', obs⟩ := m'
    subst e1 e2
    rw [List.length_range] at hll
    have ha := add_nat (a := ls) (b := l) (by omega)
    have t := tl (ls ++ l) a b c r2 (fun x hx => by
      rcases List.mem_append.mp hx with h | h
      · exact ⟨hl x h, hhid x h⟩
      · exact ⟨hKb x (hls x h), hmem x (hls x h)⟩) (by rw [List.length_append]; omega)
    simp [ha]
    exact t
theorem k25b_t0 {e4 e5 e9 e10 e11 e12 e13 e14 e15 e16 : PD.Slot} {ns : List Int} {a b c : Int} {mo : Ms} {ls : List Nat} {w : Nat} {Q : Flow' → M → Prop} (bR : 1 ≤ R ∧ R ≤ 4) (bC : 1 ≤ C ∧ C ≤ 4) (r : RowOk a b) (hz : mo.length ≤ 90) (hw : 1 ≤ w ∧ w ≤ 4)
    (hl : ∀ x ∈ ls, x < R + C) (hlz : ls.length ≤ 3) (hQ : BodyQ R C ns e4 e5 e12 e13 e14 e15 e16 mo ls w Q) :
    WP K25b_t0 ⟨[.pl (.scr ns), .pl (.obj 0), .pl (.int (R : Int)), .pl (.int (C : Int)), e4, e5, .ow (.lst (mo.map thr)), .pl (.lst (natD ls)), .pl (.int (w : Int)), e9, e10, e11, e12, e13, e14, e15, e16, .un, .un], [rowD ns a b c]⟩ Q := by
  unfold K25b_t0 K25b_s0
  have f1 := F_effect_g (R := R) (C := C) (by omega) (by omega) (by omega) (by omega) hl (by omega) [rowD ns a b c] rfl
  have tl := fun (e10 e11 : PD.Slot) => k25b_t1 (c := c) (e10 := e10) (e11 := e11) bR bC r hz hw hl hlz hQ
  have l1 : listU [tupN (norm R C ls)] = some (.lst (natD (norm R C ls))) := rfl
  have gT : ∀ mm : M, Opd.get mm (.val (tupN (norm R C ls))) = some (tupN (norm R C ls)) := fun mm => rfl
  generalize tupN (norm R C ls) = T at *
  generalize D.lst (mo.map thr) = MT at *
  simp [FP_of f1, l1, gT]
  exact tl _ _
theorem sumK_nrm_cons (t : List Nat × Nat) (ts : Ms) (k : List Nat) : sumK (nrm R C (t :: ts)) k = (if norm R C t.1 = k then t.2 else 0) + sumK (nrm R C ts) k := sumK_cons ..
theorem cut_sum {ls X : List Nat} {w cut : Nat} (hl : ∀ x ∈ ls, x < R + C) (hX : ∀ x ∈ X, vis R C (norm R C ls) x = false) (hc : cut ≤ w) (k : List Nat) :
    sumK (nrm R C (cutT (norm R C ls) ls X w cut)) k = sumK (nrm R C [(ls, w)]) k := by
  unfold cutT
  rw [sumK_nrm_cons, sumK_nrm_cons]
  show (if norm R C (X ++ norm R C ls) = k then cut else 0) + _ = (if norm R C ls = k then w else 0) + sumK [] k
  rw [norm_app hl hX]
  by_cases h : cut < w
  · rw [if_pos h, sumK_nrm_cons]
    show _ + ((if norm R C ls = k then w - cut else 0) + sumK [] k) = _
    rw [sumK_nil]
    split <;> omega
  · rw [if_neg h]
    show _ + sumK [] k = _
    have : cut = w := by omega
    rw [this]
structure MoOk (R C : Nat) (mo done : Ms) : Prop where
  s : ∀ k, sumK (nrm R C mo) k = sumK (nrm R C done) k
  z1 : mo.length ≤ 2 * done.length
  z2 : done.length ≤ mo.length
  lt : ∀ t ∈ mo, (∀ x ∈ t.1, x < R + C) ∧ t.1.length ≤ 30 ∧ 1 ≤ t.2 ∧ t.2 ≤ 4
theorem MoOk.step {mo done : Ms} {ls X : List Nat} {w cut : Nat} (h : MoOk R C mo done) (hh : R + C ≤ 8) (hl : ∀ x ∈ ls, x < R + C) (hlz : ls.length ≤ 3) (hX : ∀ x ∈ X, x < R + C ∧ vis R C (norm R C ls) x = false) (hXz : X.length ≤ 12) (hc : 1 ≤ cut ∧ cut ≤ w) (hw : w ≤ 4) :
    MoOk R C (mo ++ cutT (norm R C ls) ls X w cut) (done ++ [(ls, w)]) := by
  have hK : (norm R C ls).length ≤ 8 := by have := (len_board (norm_nodup hl) (norm_lt hl)); omega
  have hcl : 1 ≤ (cutT (norm R C ls) ls X w cut).length ∧ (cutT (norm R C ls) ls X w cut).length ≤ 2 := by
    unfold cutT
    split <;> simp
  refine ⟨fun k => ?_, by rw [List.length_append, List.length_append]; have := h.z1; simp; omega, by rw [List.length_append, List.length_append]; have := h.z2; simp; omega, fun t ht => ?_⟩
  · rw [nrm_app, nrm_app, sumK_app, sumK_app, h.s, cut_sum hl (fun x hx => (hX x hx).2) hc.2]
  · rcases List.mem_append.mp ht with ht | ht
    · exact h.lt t ht
    · unfold cutT at ht
      rcases List.mem_cons.mp ht with rfl | ht
      · refine ⟨fun x hx => ?_, by show (X ++ norm R C ls).length ≤ 30; rw [List.length_append]; omega, hc.1, by show cut ≤ 4; omega⟩
        rcases List.mem_append.mp hx with h1 | h1
        · exact (hX x h1).1
        · exact norm_lt hl x h1
      · split at ht
        · rw [List.mem_singleton.mp ht]
          exact ⟨hl, by show ls.length ≤ 30; omega, by show 1 ≤ w - cut; omega, by show w - cut ≤ 4; omega⟩
        · cases ht
theorem K25b_fold : K25_s4 = sFor (iVal (vPl 4)) true [7, 8] K25b_t0 := rfl
theorem k25_t4 {e5 e7 e8 e9 e10 e11 e12 e13 e14 e15 e16 : PD.Slot} {ns : List Int} {a b c : Int} {ts : Ms} {Q : Flow' → M → Prop} (bR : 1 ≤ R ∧ R ≤ 4) (bC : 1 ≤ C ∧ C ≤ 4) (r : RowOk a b) (hz : ts.length ≤ 4) (ht : ∀ t ∈ ts, Thr (R + C) t)
    (h7 : ∀ d, e7 ≠ .ow d) (h8 : ∀ d, e8 ≠ .ow d)
    (tl : ∀ (mo : Ms) (a b c : Int) (y7 y8 y9 y10 y11 : PD.Slot), RowOk a b → MoOk R C mo ts → (∀ d, y7 ≠ .ow d) → (∀ d, y8 ≠ .ow d) →
      WP K25_t5 ⟨[.pl (.scr ns), .pl (.obj 0), .pl (.int (R : Int)), .pl (.int (C : Int)), .pl (.lst (ts.map thr)), e5, .ow (.lst (mo.map thr)), y7, y8, y9, y10, y11, e12, e13, e14, e15, e16, .un, .un], [rowD ns a b c]⟩ Q) :
    WP K25_t4 ⟨[.pl (.scr ns), .pl (.obj 0), .pl (.int (R : Int)), .pl (.int (C : Int)), .pl (.lst (ts.map thr)), e5, .ow (.lst []), e7, e8, e9, e10, e11, e12, e13, e14, e15, e16, .un, .un], [rowD ns a b c]⟩ Q := by
  unfold K25_t4
  rw [K25b_fold]
  have i1 : itD (.lst (ts.map thr)) = some (ts.map thr) := rfl
  generalize hTT : D.lst (ts.map thr) = TT at *
  simp [i1]
  obtain ⟨I, hI⟩ : ∃ I : Ms → M → Prop, I = fun done mm => ∃ (mo : Ms) (a b c : Int) (y7 y8 y9 y10 y11 : PD.Slot), RowOk a b ∧ MoOk R C mo done ∧ (∀ d, y7 ≠ PD.Slot.ow d) ∧ (∀ d, y8 ≠ PD.Slot.ow d) ∧
    mm = ⟨[.pl (.scr ns), .pl (.obj 0), .pl (.int (R : Int)), .pl (.int (C : Int)), .pl TT, e5, .ow (.lst (mo.map thr)), y7, y8, y9, y10, y11, e12, e13, e14, e15, e16, .un, .un], [rowD ns a b c]⟩ := ⟨_, rfl⟩
  refine wp_for thr ts I ?_ ?_ ?_
  · rw [hI]
    exact ⟨[], a, b, c, e7, e8, e9, e10, e11, r, ⟨fun k => rfl, Nat.le_refl _, Nat.le_refl _, fun t h => nomatch h⟩, h7, h8, rfl⟩
  · intro done t rest mm e hm
    rw [hI] at hm
    obtain ⟨mo, a, b, c, y7, y8, y9, y10, y11, r, ok, h7, h8, rfl⟩ := hm
    refine ⟨[.pl (.scr ns), .pl (.obj 0), .pl (.int (R : Int)), .pl (.int (C : Int)), .pl TT, e5, .ow (.lst (mo.map thr)), .pl (.lst (natD t.1)), .pl (.int (t.2 : Int)), y9, y10, y11, e12, e13, e14, e15, e16, .un, .un], rfl, ?_⟩
    have htt := ht t (by rw [e]; simp)
    have hdz : done.length + 1 ≤ ts.length := by have := congrArg List.length e; simp at this; omega
    refine k25b_t0 bR bC r (by have := ok.z1; omega) ⟨htt.2.2.1, htt.2.2.2⟩ htt.1 htt.2.1 fun X cut a b c r2 hX hXz hc d9 d10 => ?_
    show I (done ++ [t]) _
    rw [hI]
    exact ⟨_, a, b, c, _, _, _, _, _, r2, ok.step (by omega) htt.1 htt.2.1 hX hXz hc htt.2.2.2, (fun d z => by cases z), (fun d z => by cases z), rfl⟩
  · intro mm hm
    rw [hI] at hm
    obtain ⟨mo, a, b, c, y7, y8, y9, y10, y11, r, ok, h7, h8, rfl⟩ := hm
    exact tl mo a b c y7 y8 y9 y10 y11 r ok h7 h8
end
end C
namespace C
open PySem PySem.Spec PyProof.Rows L2 PD Od
section
variable {R C : Nat}
theorem thrS {n : Nat} : ∀ {ts : Ms}, (∀ t ∈ ts, Thr n t) → sumW ts ≤ 4 * ts.length
  | [], _ => Nat.zero_le _
  | t :: ts, h => by
    have h1 := (h t (List.mem_cons_self ..)).2.2.2
    have h2 := thrS (ts := ts) fun x hx => h x (List.mem_cons_of_mem _ hx)
    rw [sumW_cons, List.length_cons]
    omega
theorem thrG {ts : Ms} (h : ∀ t ∈ ts, Thr (R + C) t) (h0 : ts ≠ []) (hz : ts.length ≤ 4) : GM R C (lawM R C ts) ∧ (lawM R C ts).length ≤ ts.length ∧ sumW (lawM R C ts) ≤ 16 := by
  have hs := thrS h
  refine ⟨gm_law (fun p hp => (h p hp).1) (fun p hp => by have := (h p hp).2.2.1; omega) h0 (by omega) (by omega), len_law ts, ?_⟩
  have := sumW_law (R := R) (C := C) ts
  omega
theorem mk_nrm {a b : Ms} {t : Nat} (ht : 0 < t) (pa : ∀ x ∈ a, 0 < x.2) (pb : ∀ x ∈ b, 0 < x.2) (h : ∀ k, sumK (nrm R C b) k = t * sumK (nrm R C a) k) : lawM R C b = lawM R C a := mk_congr ht (nrm_pos pa) (nrm_pos pb) h
theorem nrm_perm {a b : Ms} (p : a.Perm b) : (nrm R C a).Perm (nrm R C b) := p.map _
theorem mo_law {mo mo' ts : Ms} (ok : MoOk R C mo ts) (p : mo'.Perm mo) (ht : ∀ t ∈ ts, Thr (R + C) t) : lawM R C mo' = lawM R C ts :=
  mk_nrm (t := 1) (by decide) (fun x hx => by have := (ht x hx).2.2.1; omega) (fun x hx => by have := (ok.lt x (p.mem_iff.mp hx)).2.2.1; omega) fun k => by rw [sumK_perm (nrm_perm p), ok.s, Nat.one_mul]
def sclT (T : Nat) (t : List Nat × Nat) : List Nat × Nat := (t.1, t.2 * T)
theorem scl_sum (T : Nat) (ts : Ms) (k : List Nat) : sumK (nrm R C (ts.map (sclT T))) k = T * sumK (nrm R C ts) k := by
  induction ts with
  | nil => rfl
  | cons t ts ih =>
    rw [List.map_cons, sumK_nrm_cons, sumK_nrm_cons, ih, Nat.mul_add]
    congr 1
    show (if norm R C t.1 = k then t.2 * T else 0) = _
    split
    · exact Nat.mul_comm _ _
    · rfl
theorem scl_law {ts : Ms} {T : Nat} (hT : 0 < T) (ht : ∀ t ∈ ts, Thr (R + C) t) : lawM R C (ts.map (sclT T)) = lawM R C ts :=
  mk_nrm hT (fun x hx => by have := (ht x hx).2.2.1; omega) (fun x hx => by
    obtain ⟨y, hy, rfl⟩ := List.mem_map.mp hx
    exact Nat.mul_pos (by have := (ht y hy).2.2.1; omega) hT) (scl_sum T ts)
theorem thr_le {ts : Ms} (h : ∀ t ∈ ts, t.2 ≤ 100) : sumW ts ≤ 100 * ts.length := by
  induction ts with
  | nil => exact Nat.zero_le _
  | cons t ts ih =>
    have h1 := h t List.mem_cons_self
    have h2 := ih fun x hx => h x (List.mem_cons_of_mem _ hx)
    rw [sumW_cons, List.length_cons]
    omega
theorem k25_t8 {e6 e7 e8 e9 e10 e11 e12 e13 e16 : PD.Slot} {ns : List Int} {a b c : Int} {ts : Ms} {Q : Flow' → M → Prop} (bR : 1 ≤ R ∧ R ≤ 4) (bC : 1 ≤ C ∧ C ≤ 4) (r : RowOk a b) (h0 : ts ≠ []) (hz : ts.length ≤ 4) (ht : ∀ t ∈ ts, Thr (R + C) t) (hQ : ∀ m, Q (.rt (.bl true)) m) :
    WP K25_t8 ⟨[.pl (.scr ns), .pl (.obj 0), .pl (.int (R : Int)), .pl (.int (C : Int)), .pl (.lst (ts.map thr)), .pl (meaD (lawM R C ts)), e6, e7, e8, e9, e10, e11, e12, e13, .un, .un, e16, .un, .un], [rowD ns a b c]⟩ Q := by
  unfold K25_t8 K25_s8
  obtain ⟨g1, l1, s1⟩ := thrG ht h0 hz
  have tl : ∀ (u : List Nat × Nat) (a b c : Int), RowOk a b → u.1.length = 1 → (∀ x ∈ u.1, x < R + C) → 1 ≤ u.2 ∧ u.2 ≤ 3 → WP K25_t9 ⟨[.pl (.scr ns), .pl (.obj 0), .pl (.int (R : Int)), .pl (.int (C : Int)), .pl (.lst (ts.map thr)), .pl (meaD (lawM R C ts)), e6, e7, e8, e9, e10, e11, e12, .pl (meaD (lawM R C (ts ++ [u]))), .un, .un, e16, .un, .un], [rowD ns a b c]⟩ Q := fun u a b c r hu1 hu2 hu3 => by
    have hz2 : (ts ++ [u]).length ≤ 5 := by rw [List.length_append, List.length_singleton]; omega
    have hp : ∀ t ∈ ts ++ [u], (∀ x ∈ t.1, x < R + C) ∧ 0 < t.2 ∧ t.2 ≤ 100 := fun t h => by
      rcases List.mem_append.mp h with h | h
      · have := ht t h; exact ⟨this.1, by have := this.2.2.1; omega, by have := this.2.2.2; omega⟩
      · rw [List.mem_singleton.mp h]; exact ⟨hu2, by omega, by omega⟩
    have hs : sumW (ts ++ [u]) ≤ 100 := by
      have := thrS ht
      rw [sumW_app, sumW_cons]
      show _ + (u.2 + 0) ≤ 100
      omega
    have g2 : GM R C (lawM R C (ts ++ [u])) := gm_law (fun p h => (hp p h).1) (fun p h => (hp p h).2.1) (by simp) (by omega) (by omega)
    have l2 := len_law (R := R) (C := C) (ts ++ [u])
    have s2 := sumW_law (R := R) (C := C) (ts ++ [u])
    exact k25_t9 ⟨bR, bC, g1, g2, by omega, by omega, by omega, by omega⟩ r hQ
  have fm : ∀ (u : List Nat × Nat) (a b c : Int), u.1.length = 1 → (∀ x ∈ u.1, x < R + C) → 1 ≤ u.2 ∧ u.2 ≤ 3 → F_measure [.int (R : Int), .int (C : Int), .lst ((ts ++ [u]).map thr)] [rowD ns a b c] = some (meaD (lawM R C (ts ++ [u])), [rowD ns a b c]) := fun u a b c hu1 hu2 hu3 =>
    F_measure_g (R := R) (C := C) (ps := ts ++ [u]) (fun p h => by
      rcases List.mem_append.mp h with h | h
      · exact (ht p h).1
      · rw [List.mem_singleton.mp h]; exact hu2) (by omega) (by omega) (by omega) (by omega) (by simp) (fun x h => by
      rcases List.mem_append.mp h with h | h
      · have := (ht x h).2.2; omega
      · rw [List.mem_singleton.mp h]; omega) (by rw [List.length_append, List.length_singleton]; omega) (fun p h => by
      rcases List.mem_append.mp h with h | h
      · have := (ht p h).2.1; omega
      · rw [List.mem_singleton.mp h]; omega) (by
      have := thrS ht
      rw [sumW_app, sumW_cons]
      show _ + (u.2 + 0) ≤ _
      omega) [rowD ns a b c] rfl
  have em : ∀ u : List Nat × Nat, (ts ++ [u]).map thr = ts.map thr ++ [D.tup [.lst (natD u.1), .int (u.2 : Int)]] := fun u => by rw [List.map_append]; rfl
  have ha : ∀ d : D, addD (.lst (ts.map thr)) (.lst [d]) = some (.lst (ts.map thr ++ [d])) := fun d => add_lst2 (by rw [List.length_map]; simp; omega)
  generalize meaD (lawM R C ts) = M1 at *
  simp
  refine FP_taken r (by omega) (by omega) fun v a b c r1 hv => ?_
  simp
  refine FP_taken r1 (by omega) (by omega) fun w a b c r2 hw => ?_
  have f := fm ([v], 1 + w) a b c rfl (fun x hx => by rw [List.mem_singleton.mp hx]; omega) ⟨by show 1 ≤ 1 + w; omega, by show 1 + w ≤ 3; omega⟩
  have t := tl ([v], 1 + w) a b c r2 rfl (fun x hx => by rw [List.mem_singleton.mp hx]; omega) ⟨by show 1 ≤ 1 + w; omega, by show 1 + w ≤ 3; omega⟩
  rw [em] at f
  have ew : (((1 + w : Nat) : Nat) : Int) = 1 + (w : Int) := by omega
  have f' : F_measure [.int (R : Int), .int (C : Int), .lst (ts.map thr ++ [D.tup [.lst [.int (v : Int)], .int (1 + (w : Int))]])] [rowD ns a b c] = some (meaD (lawM R C (ts ++ [([v], 1 + w)])), [rowD ns a b c]) := by rw [← ew]; exact f
  generalize meaD (lawM R C (ts ++ [([v], 1 + w)])) = M2 at *
  simp [ha, FP_of f']
  exact t
theorem k25_t7 {e6 e7 e8 e9 e10 e11 e13 e16 : PD.Slot} {ns : List Int} {a b c : Int} {ts : Ms} {T : Nat} {Q : Flow' → M → Prop} (bR : 1 ≤ R ∧ R ≤ 4) (bC : 1 ≤ C ∧ C ≤ 4) (r : RowOk a b) (h0 : ts ≠ []) (hz : ts.length ≤ 4) (ht : ∀ t ∈ ts, Thr (R + C) t)
    (h7 : ∀ d, e7 ≠ .ow d) (h8 : ∀ d, e8 ≠ .ow d) (hT : 1 ≤ T ∧ T ≤ 9) (hQ : ∀ m, Q (.rt (.bl true)) m) :
    WP K25_t7 ⟨[.pl (.scr ns), .pl (.obj 0), .pl (.int (R : Int)), .pl (.int (C : Int)), .pl (.lst (ts.map thr)), .pl (meaD (lawM R C ts)), e6, e7, e8, e9, e10, e11, .pl (.int (T : Int)), e13, .un, .un, e16, .un, .un], [rowD ns a b c]⟩ Q := by
  unfold K25_t7 K25_s7
  have f := F_measure_g (R := R) (C := C) (ps := ts.map (sclT T)) (fun p h => by
      obtain ⟨t, htm, rfl⟩ := List.mem_map.mp h
      exact (ht t htm).1) (by omega) (by omega) (by omega) (by omega) (by simpa using h0) (fun x h => by
      obtain ⟨t, htm, rfl⟩ := List.mem_map.mp h
      have h1 := (ht t htm).2.2
      have h2 : t.2 * T ≤ 4 * 9 := Nat.mul_le_mul h1.2 hT.2
      have h3 : 0 < t.2 * T := Nat.mul_pos (by omega) (by omega)
      show 1 ≤ t.2 * T ∧ t.2 * T ≤ 1000000
      omega) (by rw [List.length_map]; omega) (fun p h => by
      obtain ⟨t, htm, rfl⟩ := List.mem_map.mp h
      have := (ht t htm).2.1
      show t.1.length ≤ 1000
      omega) (by
      have := thr_le (ts := ts.map (sclT T)) fun x h => by
        obtain ⟨t, htm, rfl⟩ := List.mem_map.mp h
        have h2 : t.2 * T ≤ 4 * 9 := Nat.mul_le_mul (ht t htm).2.2.2 hT.2
        show t.2 * T ≤ 100
        omega
      rw [List.length_map] at this
      omega) [rowD ns a b c] rfl
  rw [scl_law (by omega) ht, List.map_map] at f
  have tl := k25_t8 (ns := ns) (e6 := e6) (e7 := e7) (e8 := e8) (e9 := e9) (e10 := e10) (e11 := e11) (e12 := .pl (.int (T : Int))) (e13 := e13) (e16 := e16) (c := c) bR bC r h0 hz ht hQ
  have n1 := neD_mea (lawM R C ts) (lawM R C ts)
  rw [decide_eq_true rfl] at n1
  have i1 : itD (.lst (ts.map thr)) = some (ts.map thr) := rfl
  have g1 := fun mm : PD.M => get_mea mm (lawM R C ts)
  generalize meaD (lawM R C ts) = M1 at *
  generalize hTT : D.lst (ts.map thr) = TT at *
  simp
  refine wp_lcm thr (thr ∘ sclT T) ts (by simp [i1]) (by cases e7 <;> cases e8 <;> first | rfl | exact absurd rfl (h7 _) | exact absurd rfl (h8 _)) (size_le (by omega)) (fun t htm => ⟨[.pl (.scr ns), .pl (.obj 0), .pl (.int (R : Int)), .pl (.int (C : Int)), .pl TT, .pl M1, e6, .pl (.lst (natD t.1)), .pl (.int (t.2 : Int)), e9, e10, e11, .pl (.int (T : Int)), e13, .un, .un, e16, .un, .un], rfl, rfl, rfl, ?_⟩) ?_
  · have hm := mul_nat (a := t.2) (b := T) (by have := (ht t htm).2.2.2; omega) (by omega)
    have e : (thr ∘ sclT T) t = .tup [.lst (natD t.1), .int ((t.2 * T : Nat) : Int)] := rfl
    rw [e]
    generalize ((t.2 * T : Nat) : Int) = DI at *
    simp [hm]
  · generalize ts.map (thr ∘ sclT T) = LT at *
    simp [FP_of f, n1, g1]
    exact tl
theorem k25_t6 {e6 e7 e8 e9 e10 e11 e12 e13 e16 : PD.Slot} {ns : List Int} {a b c : Int} {ts : Ms} {Q : Flow' → M → Prop} (bR : 1 ≤ R ∧ R ≤ 4) (bC : 1 ≤ C ∧ C ≤ 4) (r : RowOk a b) (h0 : ts ≠ []) (hz : ts.length ≤ 4) (ht : ∀ t ∈ ts, Thr (R + C) t)
    (h7 : ∀ d, e7 ≠ .ow d) (h8 : ∀ d, e8 ≠ .ow d) (hQ : ∀ m, Q (.rt (.bl true)) m) :
    WP K25_t6 ⟨[.pl (.scr ns), .pl (.obj 0), .pl (.int (R : Int)), .pl (.int (C : Int)), .pl (.lst (ts.map thr)), .pl (meaD (lawM R C ts)), e6, e7, e8, e9, e10, e11, e12, e13, .un, .un, e16, .un, .un], [rowD ns a b c]⟩ Q := by
  unfold K25_t6 K25_s6
  have tl := fun (T : Nat) (a b c : Int) (r : RowOk a b) (hT : 1 ≤ T ∧ T ≤ 9) => k25_t7 (ns := ns) (e6 := e6) (e9 := e9) (e10 := e10) (e11 := e11) (e13 := e13) (e16 := e16) (c := c) bR bC r h0 hz ht h7 h8 hT hQ
  generalize meaD (lawM R C ts) = M1 at *
  generalize D.lst (ts.map thr) = TT at *
  simp
  refine FP_taken r (by omega) (by omega) fun v a b c r1 hv => ?_
  simp
  have t := tl (1 + v) a b c r1 (by omega)
  rw [show (((1 + v : Nat) : Nat) : Int) = 1 + (v : Int) by omega] at t
  exact t
theorem k25_t5 {e7 e8 e9 e10 e11 e12 e13 e16 : PD.Slot} {ns : List Int} {a b c : Int} {ts mo : Ms} {Q : Flow' → M → Prop} (bR : 1 ≤ R ∧ R ≤ 4) (bC : 1 ≤ C ∧ C ≤ 4) (r : RowOk a b) (h0 : ts ≠ []) (hz : ts.length ≤ 4) (ht : ∀ t ∈ ts, Thr (R + C) t) (ok : MoOk R C mo ts)
    (h7 : ∀ d, e7 ≠ .ow d) (h8 : ∀ d, e8 ≠ .ow d) (hQ : ∀ m, Q (.rt (.bl true)) m) :
    WP K25_t5 ⟨[.pl (.scr ns), .pl (.obj 0), .pl (.int (R : Int)), .pl (.int (C : Int)), .pl (.lst (ts.map thr)), .pl (meaD (lawM R C ts)), .ow (.lst (mo.map thr)), e7, e8, e9, e10, e11, e12, e13, .un, .un, e16, .un, .un], [rowD ns a b c]⟩ Q := by
  unfold K25_t5 K25_s5
  have hmz := ok.z1
  have hm0 := ok.z2
  have tl := fun (a b c : Int) (r : RowOk a b) => k25_t6 (ns := ns) (e6 := .pl (.lst (mo.map thr))) (e9 := e9) (e10 := e10) (e11 := e11) (e12 := e12) (e13 := e13) (e16 := e16) (c := c) bR bC r h0 hz ht h7 h8 hQ
  have fm : ∀ (mo' : Ms) (a b c : Int), mo'.Perm mo → F_measure [.int (R : Int), .int (C : Int), .lst (mo'.map thr)] [rowD ns a b c] = some (meaD (lawM R C ts), [rowD ns a b c]) := fun mo' a b c p => by
    have hl := p.length_eq
    have hne : mo' ≠ [] := fun z => by
      rw [z] at hl
      have : 0 < ts.length := List.length_pos_iff.mpr h0
      simp at hl
      omega
    have := F_measure_g (R := R) (C := C) (ps := mo') (fun q h => (ok.lt q (p.mem_iff.mp h)).1) (by omega) (by omega) (by omega) (by omega) hne (fun x h => by have := (ok.lt x (p.mem_iff.mp h)).2.2; omega) (by omega) (fun q h => by have := (ok.lt q (p.mem_iff.mp h)).2.1; omega) (by
      have := thr_le (ts := mo') fun x h => by have := (ok.lt x (p.mem_iff.mp h)).2.2; omega
      omega) [rowD ns a b c] rfl
    rw [mo_law ok p ht] at this
    exact this
  have n1 := neD_mea (lawM R C ts) (lawM R C ts)
  rw [decide_eq_true rfl] at n1
  have g1 := fun mm : PD.M => get_mea mm (lawM R C ts)
  generalize meaD (lawM R C ts) = M1 at *
  generalize D.lst (ts.map thr) = TT at *
  simp
  refine FP_mixedT mo r (by omega) fun mo' a b c r2 p => ?_
  have f := fm mo' a b c p
  have t := tl a b c r2
  generalize D.lst (mo.map thr) = MT at *
  generalize D.lst (mo'.map thr) = MT' at *
  simp [FP_of f, n1, g1]
  exact t
end
theorem K25_law (ns : List Int) (hns : ns.length ≤ 63) : FP F_law_K25 [.scr ns] [] fun r _ => r = .bl true := by
  refine run_wp rfl ?_
  rw [K25_fold]
  unfold K25_t0 K25_s0
  simp
  unfold K25_t1 K25_s1
  simp
  refine FP_taken0 ⟨by decide, by decide⟩ (by decide) (by decide) fun v a b c r1 hv => ?_
  simp
  refine FP_taken r1 (by decide) (by decide) fun u a b c r2 hu => ?_
  simp
  rw [show (1 + (v : Int)) = ((1 + v : Nat) : Int) by omega, show (1 + (u : Int)) = ((1 + u : Nat) : Int) by omega]
  have bR : 1 ≤ 1 + v ∧ 1 + v ≤ 4 := by omega
  have bC : 1 ≤ 1 + u ∧ 1 + u ≤ 4 := by omega
  generalize 1 + v = R at *
  generalize 1 + u = C at *
  unfold K25_t2 K25_s2
  simp
  refine FP_throws (most := 4) r2 (by omega) (by omega) (by decide) fun ts a b c r3 t0 tz tt => ?_
  simp
  unfold K25_t3 K25_s3
  have q1 := thrS tt
  have f := F_measure_g (R := R) (C := C) (ps := ts) (fun p hp => (tt p hp).1) (by omega) (by omega) (by omega) (by omega) t0 (fun x hx => by have := (tt x hx).2.2; omega) (by omega) (fun p hp => by have := (tt p hp).2.1; omega) (by omega) [rowD ns a b c] rfl
  have tl := k25_t4 (ns := ns) (R := R) (C := C) (e5 := .pl (meaD (lawM R C ts))) (e7 := .un) (e8 := .un) (e9 := .un) (e10 := .un) (e11 := .un) (e12 := .un) (e13 := .un) (e14 := .un) (e15 := .un) (e16 := .un) (c := c) (Q := fun fl mm => match fl with
    | .rt d => d = .bl true
    | _ => False) bR bC r3 tz tt (fun d z => by cases z) (fun d z => by cases z) fun mo a b c y7 y8 y9 y10 y11 r ok h7 h8 => k25_t5 bR bC r t0 tz tt ok h7 h8 fun m => rfl
  generalize meaD (lawM R C ts) = M1 at *
  generalize D.lst (ts.map thr) = TT at *
  simp [FP_of f]
  refine WP.mono tl fun fl mm h => ?_
  cases fl <;> first
    | exact h.elim
    | exact h
theorem K25_true (ns : List Int) (hns : ns.length ≤ 63) : ∃ obs, F_law_K25 [.scr ns] [] = some (.bl true, obs) := by
  obtain ⟨r, obs, e, rfl⟩ := K25_law ns hns
  exact ⟨obs, e⟩
end C
theorem K25.law_true : ∀ ns : List Int, ns.length ≤ 63 → ∃ obs, C.F_law_K25 [PD.D.scr ns] [] = some (PD.D.bl true, obs) := C.K25_true
namespace K25
open PySem PySem.Spec PyProof.Rows L2 PD
theorem all_mk [TabC] {l : PySem.W.OpenLaw} {w : World} {K : PySem.W.Frag} {h : Heap} {mg : Str → Option Value} {fa : Addr} (X : K.In h) (G : h.Ns mainGlobals mg) (hfa : mg "law" = some (.ref fa))
    {f0 : Addr} {od0 an0 : Option Addr} {sl0 : Array (Option Value)} {oc0 kV0 dc0 pm0 cd0 ct0 : Value} (a0 : PySem.W.nsIn K mainGlobals "is_int" = some (some (.ref f0))) (l0 : K.lookup f0 = some ⟨oc0, od0, .func (PySem.W.fnOf "is_int" "is_int" (defArgs s_is_int) (defBody s_is_int) (defScope s_is_int) .none kV0 dc0 pm0 an0 cd0 ct0), sl0⟩) (c0 : PySem.W.codeIn K cd0 "is_int" = true) (k0 : PySem.W.keepIn K (.ref f0) = true)
    {f1 : Addr} {od1 an1 : Option Addr} {sl1 : Array (Option Value)} {oc1 kV1 dc1 pm1 cd1 ct1 : Value} (a1 : PySem.W.nsIn K mainGlobals "is_in" = some (some (.ref f1))) (l1 : K.lookup f1 = some ⟨oc1, od1, .func (PySem.W.fnOf "is_in" "is_in" (defArgs s_is_in) (defBody s_is_in) (defScope s_is_in) .none kV1 dc1 pm1 an1 cd1 ct1), sl1⟩) (c1 : PySem.W.codeIn K cd1 "is_in" = true) (k1 : PySem.W.keepIn K (.ref f1) = true)
    {f2 : Addr} {od2 an2 : Option Addr} {sl2 : Array (Option Value)} {oc2 kV2 dc2 pm2 cd2 ct2 : Value} (a2 : PySem.W.nsIn K mainGlobals "need_number" = some (some (.ref f2))) (l2 : K.lookup f2 = some ⟨oc2, od2, .func (PySem.W.fnOf "need_number" "need_number" (defArgs s_need_number) (defBody s_need_number) (defScope s_need_number) .none kV2 dc2 pm2 an2 cd2 ct2), sl2⟩) (c2 : PySem.W.codeIn K cd2 "need_number" = true) (k2 : PySem.W.keepIn K (.ref f2) = true)
    {f3 : Addr} {od3 an3 : Option Addr} {sl3 : Array (Option Value)} {oc3 kV3 dc3 pm3 cd3 ct3 : Value} (a3 : PySem.W.nsIn K mainGlobals "need_board" = some (some (.ref f3))) (l3 : K.lookup f3 = some ⟨oc3, od3, .func (PySem.W.fnOf "need_board" "need_board" (defArgs s_need_board) (defBody s_need_board) (defScope s_need_board) .none kV3 dc3 pm3 an3 cd3 ct3), sl3⟩) (c3 : PySem.W.codeIn K cd3 "need_board" = true) (k3 : PySem.W.keepIn K (.ref f3) = true)
    {f4 : Addr} {od4 an4 : Option Addr} {sl4 : Array (Option Value)} {oc4 kV4 dc4 pm4 cd4 ct4 : Value} (a4 : PySem.W.nsIn K mainGlobals "are_strokes" = some (some (.ref f4))) (l4 : K.lookup f4 = some ⟨oc4, od4, .func (PySem.W.fnOf "are_strokes" "are_strokes" (defArgs s_are_strokes) (defBody s_are_strokes) (defScope s_are_strokes) .none kV4 dc4 pm4 an4 cd4 ct4), sl4⟩) (c4 : PySem.W.codeIn K cd4 "are_strokes" = true) (k4 : PySem.W.keepIn K (.ref f4) = true)
    {f5 : Addr} {od5 an5 : Option Addr} {sl5 : Array (Option Value)} {oc5 kV5 dc5 pm5 cd5 ct5 : Value} (a5 : PySem.W.nsIn K mainGlobals "need_strokes" = some (some (.ref f5))) (l5 : K.lookup f5 = some ⟨oc5, od5, .func (PySem.W.fnOf "need_strokes" "need_strokes" (defArgs s_need_strokes) (defBody s_need_strokes) (defScope s_need_strokes) .none kV5 dc5 pm5 an5 cd5 ct5), sl5⟩) (c5 : PySem.W.codeIn K cd5 "need_strokes" = true) (k5 : PySem.W.keepIn K (.ref f5) = true)
    {f6 : Addr} {od6 an6 : Option Addr} {sl6 : Array (Option Value)} {oc6 kV6 dc6 pm6 cd6 ct6 : Value} (a6 : PySem.W.nsIn K mainGlobals "normal_of" = some (some (.ref f6))) (l6 : K.lookup f6 = some ⟨oc6, od6, .func (PySem.W.fnOf "normal_of" "normal_of" (defArgs s_normal_of) (defBody s_normal_of) (defScope s_normal_of) .none kV6 dc6 pm6 an6 cd6 ct6), sl6⟩) (c6 : PySem.W.codeIn K cd6 "normal_of" = true) (k6 : PySem.W.keepIn K (.ref f6) = true)
    {f7 : Addr} {od7 an7 : Option Addr} {sl7 : Array (Option Value)} {oc7 kV7 dc7 pm7 cd7 ct7 : Value} (a7 : PySem.W.nsIn K mainGlobals "effect" = some (some (.ref f7))) (l7 : K.lookup f7 = some ⟨oc7, od7, .func (PySem.W.fnOf "effect" "effect" (defArgs s_effect) (defBody s_effect) (defScope s_effect) .none kV7 dc7 pm7 an7 cd7 ct7), sl7⟩) (c7 : PySem.W.codeIn K cd7 "effect" = true) (k7 : PySem.W.keepIn K (.ref f7) = true)
    {f8 : Addr} {od8 an8 : Option Addr} {sl8 : Array (Option Value)} {oc8 kV8 dc8 pm8 cd8 ct8 : Value} (a8 : PySem.W.nsIn K mainGlobals "is_effect_of" = some (some (.ref f8))) (l8 : K.lookup f8 = some ⟨oc8, od8, .func (PySem.W.fnOf "is_effect_of" "is_effect_of" (defArgs s_is_effect_of) (defBody s_is_effect_of) (defScope s_is_effect_of) .none kV8 dc8 pm8 an8 cd8 ct8), sl8⟩) (c8 : PySem.W.codeIn K cd8 "is_effect_of" = true) (k8 : PySem.W.keepIn K (.ref f8) = true)
    {f9 : Addr} {od9 an9 : Option Addr} {sl9 : Array (Option Value)} {oc9 kV9 dc9 pm9 cd9 ct9 : Value} (a9 : PySem.W.nsIn K mainGlobals "support_of" = some (some (.ref f9))) (l9 : K.lookup f9 = some ⟨oc9, od9, .func (PySem.W.fnOf "support_of" "support_of" (defArgs s_support_of) (defBody s_support_of) (defScope s_support_of) .none kV9 dc9 pm9 an9 cd9 ct9), sl9⟩) (c9 : PySem.W.codeIn K cd9 "support_of" = true) (k9 : PySem.W.keepIn K (.ref f9) = true)
    {f10 : Addr} {od10 an10 : Option Addr} {sl10 : Array (Option Value)} {oc10 kV10 dc10 pm10 cd10 ct10 : Value} (a10 : PySem.W.nsIn K mainGlobals "common" = some (some (.ref f10))) (l10 : K.lookup f10 = some ⟨oc10, od10, .func (PySem.W.fnOf "common" "common" (defArgs s_common) (defBody s_common) (defScope s_common) .none kV10 dc10 pm10 an10 cd10 ct10), sl10⟩) (c10 : PySem.W.codeIn K cd10 "common" = true) (k10 : PySem.W.keepIn K (.ref f10) = true)
    {f11 : Addr} {od11 an11 : Option Addr} {sl11 : Array (Option Value)} {oc11 kV11 dc11 pm11 cd11 ct11 : Value} (a11 : PySem.W.nsIn K mainGlobals "lowered" = some (some (.ref f11))) (l11 : K.lookup f11 = some ⟨oc11, od11, .func (PySem.W.fnOf "lowered" "lowered" (defArgs s_lowered) (defBody s_lowered) (defScope s_lowered) .none kV11 dc11 pm11 an11 cd11 ct11), sl11⟩) (c11 : PySem.W.codeIn K cd11 "lowered" = true) (k11 : PySem.W.keepIn K (.ref f11) = true)
    {f12 : Addr} {od12 an12 : Option Addr} {sl12 : Array (Option Value)} {oc12 kV12 dc12 pm12 cd12 ct12 : Value} (a12 : PySem.W.nsIn K mainGlobals "tidied" = some (some (.ref f12))) (l12 : K.lookup f12 = some ⟨oc12, od12, .func (PySem.W.fnOf "tidied" "tidied" (defArgs s_tidied) (defBody s_tidied) (defScope s_tidied) .none kV12 dc12 pm12 an12 cd12 ct12), sl12⟩) (c12 : PySem.W.codeIn K cd12 "tidied" = true) (k12 : PySem.W.keepIn K (.ref f12) = true)
    {f13 : Addr} {od13 an13 : Option Addr} {sl13 : Array (Option Value)} {oc13 kV13 dc13 pm13 cd13 ct13 : Value} (a13 : PySem.W.nsIn K mainGlobals "measure" = some (some (.ref f13))) (l13 : K.lookup f13 = some ⟨oc13, od13, .func (PySem.W.fnOf "measure" "measure" (defArgs s_measure) (defBody s_measure) (defScope s_measure) .none kV13 dc13 pm13 an13 cd13 ct13), sl13⟩) (c13 : PySem.W.codeIn K cd13 "measure" = true) (k13 : PySem.W.keepIn K (.ref f13) = true)
    {f14 : Addr} {od14 an14 : Option Addr} {sl14 : Array (Option Value)} {oc14 kV14 dc14 pm14 cd14 ct14 : Value} (a14 : PySem.W.nsIn K mainGlobals "is_measure_of" = some (some (.ref f14))) (l14 : K.lookup f14 = some ⟨oc14, od14, .func (PySem.W.fnOf "is_measure_of" "is_measure_of" (defArgs s_is_measure_of) (defBody s_is_measure_of) (defScope s_is_measure_of) .none kV14 dc14 pm14 an14 cd14 ct14), sl14⟩) (c14 : PySem.W.codeIn K cd14 "is_measure_of" = true) (k14 : PySem.W.keepIn K (.ref f14) = true)
    {f15 : Addr} {od15 an15 : Option Addr} {sl15 : Array (Option Value)} {oc15 kV15 dc15 pm15 cd15 ct15 : Value} (a15 : PySem.W.nsIn K mainGlobals "need_measure" = some (some (.ref f15))) (l15 : K.lookup f15 = some ⟨oc15, od15, .func (PySem.W.fnOf "need_measure" "need_measure" (defArgs s_need_measure) (defBody s_need_measure) (defScope s_need_measure) .none kV15 dc15 pm15 an15 cd15 ct15), sl15⟩) (c15 : PySem.W.codeIn K cd15 "need_measure" = true) (k15 : PySem.W.keepIn K (.ref f15) = true)
    {f16 : Addr} {od16 an16 : Option Addr} {sl16 : Array (Option Value)} {oc16 kV16 dc16 pm16 cd16 ct16 : Value} (a16 : PySem.W.nsIn K mainGlobals "weight_of" = some (some (.ref f16))) (l16 : K.lookup f16 = some ⟨oc16, od16, .func (PySem.W.fnOf "weight_of" "weight_of" (defArgs s_weight_of) (defBody s_weight_of) (defScope s_weight_of) .none kV16 dc16 pm16 an16 cd16 ct16), sl16⟩) (c16 : PySem.W.codeIn K cd16 "weight_of" = true) (k16 : PySem.W.keepIn K (.ref f16) = true)
    {f17 : Addr} {od17 an17 : Option Addr} {sl17 : Array (Option Value)} {oc17 kV17 dc17 pm17 cd17 ct17 : Value} (a17 : PySem.W.nsIn K mainGlobals "joins_of" = some (some (.ref f17))) (l17 : K.lookup f17 = some ⟨oc17, od17, .func (PySem.W.fnOf "joins_of" "joins_of" (defArgs s_joins_of) (defBody s_joins_of) (defScope s_joins_of) .none kV17 dc17 pm17 an17 cd17 ct17), sl17⟩) (c17 : PySem.W.codeIn K cd17 "joins_of" = true) (k17 : PySem.W.keepIn K (.ref f17) = true)
    {f18 : Addr} {od18 an18 : Option Addr} {sl18 : Array (Option Value)} {oc18 kV18 dc18 pm18 cd18 ct18 : Value} (a18 : PySem.W.nsIn K mainGlobals "within_of" = some (some (.ref f18))) (l18 : K.lookup f18 = some ⟨oc18, od18, .func (PySem.W.fnOf "within_of" "within_of" (defArgs s_within_of) (defBody s_within_of) (defScope s_within_of) .none kV18 dc18 pm18 an18 cd18 ct18), sl18⟩) (c18 : PySem.W.codeIn K cd18 "within_of" = true) (k18 : PySem.W.keepIn K (.ref f18) = true)
    {f19 : Addr} {od19 an19 : Option Addr} {sl19 : Array (Option Value)} {oc19 kV19 dc19 pm19 cd19 ct19 : Value} (a19 : PySem.W.nsIn K mainGlobals "same_chain" = some (some (.ref f19))) (l19 : K.lookup f19 = some ⟨oc19, od19, .func (PySem.W.fnOf "same_chain" "same_chain" (defArgs s_same_chain) (defBody s_same_chain) (defScope s_same_chain) .none kV19 dc19 pm19 an19 cd19 ct19), sl19⟩) (c19 : PySem.W.codeIn K cd19 "same_chain" = true) (k19 : PySem.W.keepIn K (.ref f19) = true)
    {f20 : Addr} {od20 an20 : Option Addr} {sl20 : Array (Option Value)} {oc20 kV20 dc20 pm20 ct20 : Value} {cc20 Pt20 : Addr} (a20 : PySem.W.nsIn K mainGlobals "ordered" = some (some (.ref f20))) (l20 : K.lookup f20 = some ⟨oc20, od20, .func (PySem.W.fnOf "ordered" "ordered" (defArgs s_ordered) (defBody s_ordered) (defScope s_ordered) .none kV20 dc20 pm20 an20 (.ref cc20) ct20), sl20⟩) (c20 : PySem.W.codeIn K (.ref cc20) "ordered" = true) (k20 : PySem.W.keepIn K (.ref f20) = true)
    {f21 : Addr} {od21 an21 : Option Addr} {sl21 : Array (Option Value)} {oc21 kV21 dc21 pm21 cd21 ct21 : Value} (a21 : PySem.W.nsIn K mainGlobals "least_of" = some (some (.ref f21))) (l21 : K.lookup f21 = some ⟨oc21, od21, .func (PySem.W.fnOf "least_of" "least_of" (defArgs s_least_of) (defBody s_least_of) (defScope s_least_of) .none kV21 dc21 pm21 an21 cd21 ct21), sl21⟩) (c21 : PySem.W.codeIn K cd21 "least_of" = true) (k21 : PySem.W.keepIn K (.ref f21) = true)
    {f22 : Addr} {od22 an22 : Option Addr} {sl22 : Array (Option Value)} {oc22 kV22 dc22 pm22 cd22 ct22 : Value} (a22 : PySem.W.nsIn K mainGlobals "least_values" = some (some (.ref f22))) (l22 : K.lookup f22 = some ⟨oc22, od22, .func (PySem.W.fnOf "least_values" "least_values" (defArgs s_least_values) (defBody s_least_values) (defScope s_least_values) .none kV22 dc22 pm22 an22 cd22 ct22), sl22⟩) (c22 : PySem.W.codeIn K cd22 "least_values" = true) (k22 : PySem.W.keepIn K (.ref f22) = true)
    {f23 : Addr} {od23 an23 : Option Addr} {sl23 : Array (Option Value)} {oc23 kV23 dc23 pm23 cd23 ct23 : Value} (a23 : PySem.W.nsIn K mainGlobals "_law_taken" = some (some (.ref f23))) (l23 : K.lookup f23 = some ⟨oc23, od23, .func (PySem.W.fnOf "_law_taken" "_law_taken" (defArgs s__law_taken) (defBody s__law_taken) (defScope s__law_taken) .none kV23 dc23 pm23 an23 cd23 ct23), sl23⟩) (c23 : PySem.W.codeIn K cd23 "_law_taken" = true) (k23 : PySem.W.keepIn K (.ref f23) = true)
    {f24 : Addr} {od24 an24 : Option Addr} {sl24 : Array (Option Value)} {oc24 kV24 dc24 pm24 cd24 ct24 : Value} (a24 : PySem.W.nsIn K mainGlobals "_law_pick" = some (some (.ref f24))) (l24 : K.lookup f24 = some ⟨oc24, od24, .func (PySem.W.fnOf "_law_pick" "_law_pick" (defArgs s__law_pick) (defBody s__law_pick) (defScope s__law_pick) .none kV24 dc24 pm24 an24 cd24 ct24), sl24⟩) (c24 : PySem.W.codeIn K cd24 "_law_pick" = true) (k24 : PySem.W.keepIn K (.ref f24) = true)
    {f25 : Addr} {od25 an25 : Option Addr} {sl25 : Array (Option Value)} {oc25 kV25 dc25 pm25 cd25 ct25 : Value} (a25 : PySem.W.nsIn K mainGlobals "_law_whole" = some (some (.ref f25))) (l25 : K.lookup f25 = some ⟨oc25, od25, .func (PySem.W.fnOf "_law_whole" "_law_whole" (defArgs s__law_whole) (defBody s__law_whole) (defScope s__law_whole) .none kV25 dc25 pm25 an25 cd25 ct25), sl25⟩) (c25 : PySem.W.codeIn K cd25 "_law_whole" = true) (k25 : PySem.W.keepIn K (.ref f25) = true)
    {f26 : Addr} {od26 an26 : Option Addr} {sl26 : Array (Option Value)} {oc26 kV26 dc26 pm26 cd26 ct26 : Value} (a26 : PySem.W.nsIn K mainGlobals "_law_mixed" = some (some (.ref f26))) (l26 : K.lookup f26 = some ⟨oc26, od26, .func (PySem.W.fnOf "_law_mixed" "_law_mixed" (defArgs s__law_mixed) (defBody s__law_mixed) (defScope s__law_mixed) .none kV26 dc26 pm26 an26 cd26 ct26), sl26⟩) (c26 : PySem.W.codeIn K cd26 "_law_mixed" = true) (k26 : PySem.W.keepIn K (.ref f26) = true)
    {f27 : Addr} {od27 an27 : Option Addr} {sl27 : Array (Option Value)} {oc27 kV27 dc27 pm27 cd27 ct27 : Value} (a27 : PySem.W.nsIn K mainGlobals "_law_picture" = some (some (.ref f27))) (l27 : K.lookup f27 = some ⟨oc27, od27, .func (PySem.W.fnOf "_law_picture" "_law_picture" (defArgs s__law_picture) (defBody s__law_picture) (defScope s__law_picture) .none kV27 dc27 pm27 an27 cd27 ct27), sl27⟩) (c27 : PySem.W.codeIn K cd27 "_law_picture" = true) (k27 : PySem.W.keepIn K (.ref f27) = true)
    {f28 : Addr} {od28 an28 : Option Addr} {sl28 : Array (Option Value)} {oc28 kV28 dc28 pm28 cd28 ct28 : Value} (a28 : PySem.W.nsIn K mainGlobals "_law_stroke" = some (some (.ref f28))) (l28 : K.lookup f28 = some ⟨oc28, od28, .func (PySem.W.fnOf "_law_stroke" "_law_stroke" (defArgs s__law_stroke) (defBody s__law_stroke) (defScope s__law_stroke) .none kV28 dc28 pm28 an28 cd28 ct28), sl28⟩) (c28 : PySem.W.codeIn K cd28 "_law_stroke" = true) (k28 : PySem.W.keepIn K (.ref f28) = true)
    {f29 : Addr} {od29 an29 : Option Addr} {sl29 : Array (Option Value)} {oc29 kV29 dc29 pm29 cd29 ct29 : Value} (a29 : PySem.W.nsIn K mainGlobals "_law_strokes" = some (some (.ref f29))) (l29 : K.lookup f29 = some ⟨oc29, od29, .func (PySem.W.fnOf "_law_strokes" "_law_strokes" (defArgs s__law_strokes) (defBody s__law_strokes) (defScope s__law_strokes) .none kV29 dc29 pm29 an29 cd29 ct29), sl29⟩) (c29 : PySem.W.codeIn K cd29 "_law_strokes" = true) (k29 : PySem.W.keepIn K (.ref f29) = true)
    {f30 : Addr} {od30 an30 : Option Addr} {sl30 : Array (Option Value)} {oc30 kV30 dc30 pm30 cd30 ct30 : Value} (a30 : PySem.W.nsIn K mainGlobals "_law_common" = some (some (.ref f30))) (l30 : K.lookup f30 = some ⟨oc30, od30, .func (PySem.W.fnOf "_law_common" "_law_common" (defArgs s__law_common) (defBody s__law_common) (defScope s__law_common) .none kV30 dc30 pm30 an30 cd30 ct30), sl30⟩) (c30 : PySem.W.codeIn K cd30 "_law_common" = true) (k30 : PySem.W.keepIn K (.ref f30) = true)
    {f31 : Addr} {od31 an31 : Option Addr} {sl31 : Array (Option Value)} {oc31 kV31 dc31 pm31 cd31 ct31 : Value} (a31 : PySem.W.nsIn K mainGlobals "_law_share" = some (some (.ref f31))) (l31 : K.lookup f31 = some ⟨oc31, od31, .func (PySem.W.fnOf "_law_share" "_law_share" (defArgs s__law_share) (defBody s__law_share) (defScope s__law_share) .none kV31 dc31 pm31 an31 cd31 ct31), sl31⟩) (c31 : PySem.W.codeIn K cd31 "_law_share" = true) (k31 : PySem.W.keepIn K (.ref f31) = true)
    {f32 : Addr} {od32 an32 : Option Addr} {sl32 : Array (Option Value)} {oc32 kV32 dc32 pm32 cd32 ct32 : Value} (a32 : PySem.W.nsIn K mainGlobals "_law_throws" = some (some (.ref f32))) (l32 : K.lookup f32 = some ⟨oc32, od32, .func (PySem.W.fnOf "_law_throws" "_law_throws" (defArgs s__law_throws) (defBody s__law_throws) (defScope s__law_throws) .none kV32 dc32 pm32 an32 cd32 ct32), sl32⟩) (c32 : PySem.W.codeIn K cd32 "_law_throws" = true) (k32 : PySem.W.keepIn K (.ref f32) = true)
    {f33 : Addr} {od33 an33 : Option Addr} {sl33 : Array (Option Value)} {oc33 kV33 dc33 pm33 cd33 ct33 : Value} (a33 : PySem.W.nsIn K mainGlobals "_law_draws" = some (some (.ref f33))) (l33 : K.lookup f33 = some ⟨oc33, od33, .func (PySem.W.fnOf "_law_draws" "_law_draws" (defArgs s__law_draws) (defBody s__law_draws) (defScope s__law_draws) .none kV33 dc33 pm33 an33 cd33 ct33), sl33⟩) (c33 : PySem.W.codeIn K cd33 "_law_draws" = true) (k33 : PySem.W.keepIn K (.ref f33) = true)
    {f34 : Addr} {od34 an34 : Option Addr} {sl34 : Array (Option Value)} {oc34 kV34 dc34 pm34 cd34 ct34 : Value} (a34 : PySem.W.nsIn K mainGlobals "law" = some (some (.ref f34))) (l34 : K.lookup f34 = some ⟨oc34, od34, .func (PySem.W.fnOf "law" "law" (defArgs s_law) (defBody s_law) (defScope s_law) .none kV34 dc34 pm34 an34 cd34 ct34), sl34⟩) (c34 : PySem.W.codeIn K cd34 "law" = true) (k34 : PySem.W.keepIn K (.ref f34) = true)
    (y_abs : PySem.W.nsIn K mainGlobals "abs" = some none)
    (y_all : PySem.W.nsIn K mainGlobals "all" = some none)
    (y_bool : PySem.W.nsIn K mainGlobals "bool" = some none)
    (y_dict : PySem.W.nsIn K mainGlobals "dict" = some none)
    (y_int : PySem.W.nsIn K mainGlobals "int" = some none)
    (y_isinstance : PySem.W.nsIn K mainGlobals "isinstance" = some none)
    (y_len : PySem.W.nsIn K mainGlobals "len" = some none)
    (y_list : PySem.W.nsIn K mainGlobals "list" = some none)
    (y_range : PySem.W.nsIn K mainGlobals "range" = some none)
    (y_sorted : PySem.W.nsIn K mainGlobals "sorted" = some none)
    (y_sum : PySem.W.nsIn K mainGlobals "sum" = some none)
    (y_tuple : PySem.W.nsIn K mainGlobals "tuple" = some none)
    (y_zip : PySem.W.nsIn K mainGlobals "zip" = some none)
    {u_MOST_LISTED : Tok} (x_MOST_LISTED : PySem.W.nsIn K mainGlobals "MOST_LISTED" = some (some (.int 500 u_MOST_LISTED)))
    {u_MOST_SIDE : Tok} (x_MOST_SIDE : PySem.W.nsIn K mainGlobals "MOST_SIDE" = some (some (.int 12 u_MOST_SIDE)))
    {u_MOST_WEIGHT : Tok} (x_MOST_WEIGHT : PySem.W.nsIn K mainGlobals "MOST_WEIGHT" = some (some (.int 1000000 u_MOST_WEIGHT)))
    (tq_ordered : TabC.T Pt20 "ordered.<locals>.<lambda>")
    (hF : ∀ ns : List Int, ns.length ≤ 63 → ∃ obs, C.F_law_K25 [.scr ns] [] = some (.bl true, obs)) :
    ∃ fd : FuncData, (∀ (s : Shared) (v : Value), BindsTo s fd ⟨[v], []⟩ [("_law_script", v)]) ∧ ∀ base : Heap, K.In base → base.Ns mainGlobals mg → (∀ p ∈ [(cc20, Pt20)], LamX.TabB base mg p.1 p.2) → FnOk l.prog w K mg base CX0 8 fa fd ["_law_script"] (PD.spLaw K) := by
  have e := hfa.symm.trans (PySem.W.mg_of X G a34)
  cases e
  have z_abs := PySem.W.mg_none_of X G y_abs
  have z_all := PySem.W.mg_none_of X G y_all
  have z_bool := PySem.W.mg_none_of X G y_bool
  have z_dict := PySem.W.mg_none_of X G y_dict
  have z_int := PySem.W.mg_none_of X G y_int
  have z_isinstance := PySem.W.mg_none_of X G y_isinstance
  have z_len := PySem.W.mg_none_of X G y_len
  have z_list := PySem.W.mg_none_of X G y_list
  have z_range := PySem.W.mg_none_of X G y_range
  have z_sorted := PySem.W.mg_none_of X G y_sorted
  have z_sum := PySem.W.mg_none_of X G y_sum
  have z_tuple := PySem.W.mg_none_of X G y_tuple
  have z_zip := PySem.W.mg_none_of X G y_zip
  have c_MOST_LISTED := PySem.W.mg_of X G x_MOST_LISTED
  have c_MOST_SIDE := PySem.W.mg_of X G x_MOST_SIDE
  have c_MOST_WEIGHT := PySem.W.mg_of X G x_MOST_WEIGHT
  refine ⟨PySem.W.fnOf "law" "law" (defArgs s_law) (defBody s_law) (defScope s_law) .none kV34 dc34 pm34 an34 cd34 ct34, fun s v => .of_eq rfl, fun base _ _ htb => ?_⟩
  have F0 := fun_mk (st := s_is_int) l0 c0 k0
  have b0 := F0.binds (ps := ["value"]) fun _ _ _ _ _ _ us hl => match us, hl with | [_], _ => rfl
  have g_is_int := h_is_int (P := l.prog) (w := w) (base := base) F0 (PySem.W.mg_of X G a0) b0 z_bool z_int z_isinstance
  have F1 := fun_mk (st := s_is_in) l1 c1 k1
  have b1 := F1.binds (ps := ["value", "least", "most"]) fun _ _ _ _ _ _ us hl => match us, hl with | [_, _, _], _ => rfl
  have g_is_in := h_is_in (P := l.prog) (w := w) (base := base) F1 (PySem.W.mg_of X G a1) b1 g_is_int
  have F2 := fun_mk (st := s_need_number) l2 c2 k2
  have b2 := F2.binds (ps := ["value", "least", "most"]) fun _ _ _ _ _ _ us hl => match us, hl with | [_, _, _], _ => rfl
  have g_need_number := h_need_number (P := l.prog) (w := w) (base := base) F2 (PySem.W.mg_of X G a2) b2 g_is_in
  have F3 := fun_mk (st := s_need_board) l3 c3 k3
  have b3 := F3.binds (ps := ["rows", "columns"]) fun _ _ _ _ _ _ us hl => match us, hl with | [_, _], _ => rfl
  have g_need_board := h_need_board (P := l.prog) (w := w) (base := base) F3 (PySem.W.mg_of X G a3) b3 c_MOST_SIDE g_need_number
  have F4 := fun_mk (st := s_are_strokes) l4 c4 k4
  have b4 := F4.binds (ps := ["rows", "columns", "value"]) fun _ _ _ _ _ _ us hl => match us, hl with | [_, _, _], _ => rfl
  have g_are_strokes := h_are_strokes (P := l.prog) (w := w) (base := base) F4 (PySem.W.mg_of X G a4) b4 z_all z_isinstance z_list g_is_in
  have F5 := fun_mk (st := s_need_strokes) l5 c5 k5
  have b5 := F5.binds (ps := ["rows", "columns", "value"]) fun _ _ _ _ _ _ us hl => match us, hl with | [_, _, _], _ => rfl
  have g_need_strokes := h_need_strokes (P := l.prog) (w := w) (base := base) F5 (PySem.W.mg_of X G a5) b5 g_are_strokes
  have F6 := fun_mk (st := s_normal_of) l6 c6 k6
  have b6 := F6.binds (ps := ["rows", "columns", "strokes"]) fun _ _ _ _ _ _ us hl => match us, hl with | [_, _, _], _ => rfl
  have g_normal_of := h_normal_of (P := l.prog) (w := w) (base := base) F6 (PySem.W.mg_of X G a6) b6 z_sorted z_tuple
  have F7 := fun_mk (st := s_effect) l7 c7 k7
  have b7 := F7.binds (ps := ["rows", "columns", "strokes"]) fun _ _ _ _ _ _ us hl => match us, hl with | [_, _, _], _ => rfl
  have g_effect := h_effect (P := l.prog) (w := w) (base := base) F7 (PySem.W.mg_of X G a7) b7 g_need_board g_need_strokes g_normal_of
  have F8 := fun_mk (st := s_is_effect_of) l8 c8 k8
  have b8 := F8.binds (ps := ["rows", "columns", "value"]) fun _ _ _ _ _ _ us hl => match us, hl with | [_, _, _], _ => rfl
  have g_is_effect_of := h_is_effect_of (P := l.prog) (w := w) (base := base) F8 (PySem.W.mg_of X G a8) b8 z_isinstance z_list z_tuple g_are_strokes g_normal_of
  have F9 := fun_mk (st := s_support_of) l9 c9 k9
  have b9 := F9.binds (ps := ["rows", "columns", "lines"]) fun _ _ _ _ _ _ us hl => match us, hl with | [_, _, _], _ => rfl
  have g_support_of := h_support_of (P := l.prog) (w := w) (base := base) F9 (PySem.W.mg_of X G a9) b9 z_len z_range z_sorted z_tuple
  have F10 := fun_mk (st := s_common) l10 c10 k10
  have b10 := F10.binds (ps := ["one", "other"]) fun _ _ _ _ _ _ us hl => match us, hl with | [_, _], _ => rfl
  have g_common := h_common (P := l.prog) (w := w) (base := base) F10 (PySem.W.mg_of X G a10) b10 
  have F11 := fun_mk (st := s_lowered) l11 c11 k11
  have b11 := F11.binds (ps := ["above", "low"]) fun _ _ _ _ _ _ us hl => match us, hl with | [_, _], _ => rfl
  have g_lowered := h_lowered (P := l.prog) (w := w) (base := base) F11 (PySem.W.mg_of X G a11) b11 z_abs g_common
  have F12 := fun_mk (st := s_tidied) l12 c12 k12
  have b12 := F12.binds (ps := ["told"]) fun _ _ _ _ _ _ us hl => match us, hl with | [_], _ => rfl
  have g_tidied := h_tidied (P := l.prog) (w := w) (base := base) F12 (PySem.W.mg_of X G a12) b12 z_sorted z_tuple g_common
  have F13 := fun_mk (st := s_measure) l13 c13 k13
  have b13 := F13.binds (ps := ["rows", "columns", "throws"]) fun _ _ _ _ _ _ us hl => match us, hl with | [_, _, _], _ => rfl
  have g_measure := h_measure (P := l.prog) (w := w) (base := base) F13 (PySem.W.mg_of X G a13) b13 z_isinstance z_len z_list z_tuple c_MOST_LISTED c_MOST_WEIGHT g_is_in g_need_board g_need_strokes g_normal_of g_tidied
  have F14 := fun_mk (st := s_is_measure_of) l14 c14 k14
  have b14 := F14.binds (ps := ["rows", "columns", "value"]) fun _ _ _ _ _ _ us hl => match us, hl with | [_, _, _], _ => rfl
  have g_is_measure_of := h_is_measure_of (P := l.prog) (w := w) (base := base) F14 (PySem.W.mg_of X G a14) b14 z_all z_dict z_isinstance z_len z_tuple z_zip c_MOST_LISTED g_is_effect_of g_is_int g_tidied
  have F15 := fun_mk (st := s_need_measure) l15 c15 k15
  have b15 := F15.binds (ps := ["rows", "columns", "value"]) fun _ _ _ _ _ _ us hl => match us, hl with | [_, _, _], _ => rfl
  have g_need_measure := h_need_measure (P := l.prog) (w := w) (base := base) F15 (PySem.W.mg_of X G a15) b15 g_is_measure_of g_need_board
  have F16 := fun_mk (st := s_weight_of) l16 c16 k16
  have b16 := F16.binds (ps := ["told"]) fun _ _ _ _ _ _ us hl => match us, hl with | [_], _ => rfl
  have g_weight_of := h_weight_of (P := l.prog) (w := w) (base := base) F16 (PySem.W.mg_of X G a16) b16 z_sum
  have F17 := fun_mk (st := s_joins_of) l17 c17 k17
  have b17 := F17.binds (ps := ["rows", "columns", "told"]) fun _ _ _ _ _ _ us hl => match us, hl with | [_, _, _], _ => rfl
  have g_joins_of := h_joins_of (P := l.prog) (w := w) (base := base) F17 (PySem.W.mg_of X G a17) b17 z_len z_list z_sorted c_MOST_LISTED g_support_of
  have F18 := fun_mk (st := s_within_of) l18 c18 k18
  have b18 := F18.binds (ps := ["rows", "columns", "told", "lines"]) fun _ _ _ _ _ _ us hl => match us, hl with | [_, _, _, _], _ => rfl
  have g_within_of := h_within_of (P := l.prog) (w := w) (base := base) F18 (PySem.W.mg_of X G a18) b18 z_all z_sum g_lowered g_support_of g_weight_of
  have F19 := fun_mk (st := s_same_chain) l19 c19 k19
  have b19 := F19.binds (ps := ["rows", "columns", "one", "other"]) fun _ _ _ _ _ _ us hl => match us, hl with | [_, _, _, _], _ => rfl
  have g_same_chain := h_same_chain (P := l.prog) (w := w) (base := base) F19 (PySem.W.mg_of X G a19) b19 g_need_measure
  have F20 := fun_mk (st := s_ordered) l20 c20 k20
  have b20 := F20.binds (ps := ["found"]) fun _ _ _ _ _ _ us hl => match us, hl with | [_], _ => rfl
  have g_ordered := h_ordered (P := l.prog) (w := w) (base := base) l20 c20 k20 (PySem.W.mg_of X G a20) b20 tq_ordered (htb _ (.head _)) z_sorted z_tuple
  have F21 := fun_mk (st := s_least_of) l21 c21 k21
  have b21 := F21.binds (ps := ["rows", "columns", "told"]) fun _ _ _ _ _ _ us hl => match us, hl with | [_, _, _], _ => rfl
  have g_least_of := h_least_of (P := l.prog) (w := w) (base := base) F21 (PySem.W.mg_of X G a21) b21 g_joins_of g_ordered g_within_of
  have F22 := fun_mk (st := s_least_values) l22 c22 k22
  have b22 := F22.binds (ps := ["rows", "columns", "told"]) fun _ _ _ _ _ _ us hl => match us, hl with | [_, _, _], _ => rfl
  have g_least_values := h_least_values (P := l.prog) (w := w) (base := base) F22 (PySem.W.mg_of X G a22) b22 z_tuple g_least_of g_need_measure
  have F23 := fun_mk (st := s__law_taken) l23 c23 k23
  have b23 := F23.binds (ps := ["_law_row", "_law_many"]) fun _ _ _ _ _ _ us hl => match us, hl with | [_, _], _ => rfl
  have g__law_taken := h__law_taken (P := l.prog) (w := w) (base := base) F23 (PySem.W.mg_of X G a23) b23 z_int z_len
  have F24 := fun_mk (st := s__law_pick) l24 c24 k24
  have b24 := F24.binds (ps := ["_law_row", "_law_things"]) fun _ _ _ _ _ _ us hl => match us, hl with | [_, _], _ => rfl
  have g__law_pick := h__law_pick (P := l.prog) (w := w) (base := base) F24 (PySem.W.mg_of X G a24) b24 z_len g__law_taken
  have F25 := fun_mk (st := s__law_whole) l25 c25 k25
  have b25 := F25.binds (ps := ["_law_told"]) fun _ _ _ _ _ _ us hl => match us, hl with | [_], _ => rfl
  have g__law_whole := h__law_whole (P := l.prog) (w := w) (base := base) F25 (PySem.W.mg_of X G a25) b25 z_sum
  have F26 := fun_mk (st := s__law_mixed) l26 c26 k26
  have b26 := F26.binds (ps := ["_law_row", "_law_some"]) fun _ _ _ _ _ _ us hl => match us, hl with | [_, _], _ => rfl
  have g__law_mixed := h__law_mixed (P := l.prog) (w := w) (base := base) F26 (PySem.W.mg_of X G a26) b26 z_len z_list z_range g__law_taken
  have F27 := fun_mk (st := s__law_picture) l27 c27 k27
  have b27 := F27.binds (ps := ["_law_row", "_law_high", "_law_wide"]) fun _ _ _ _ _ _ us hl => match us, hl with | [_, _, _], _ => rfl
  have g__law_picture := h__law_picture (P := l.prog) (w := w) (base := base) F27 (PySem.W.mg_of X G a27) b27 z_range z_tuple g__law_pick
  have F28 := fun_mk (st := s__law_stroke) l28 c28 k28
  have b28 := F28.binds (ps := ["_law_picture_here", "_law_line"]) fun _ _ _ _ _ _ us hl => match us, hl with | [_, _], _ => rfl
  have g__law_stroke := h__law_stroke (P := l.prog) (w := w) (base := base) F28 (PySem.W.mg_of X G a28) b28 z_len z_tuple
  have F29 := fun_mk (st := s__law_strokes) l29 c29 k29
  have b29 := F29.binds (ps := ["_law_picture_here", "_law_lines"]) fun _ _ _ _ _ _ us hl => match us, hl with | [_, _], _ => rfl
  have g__law_strokes := h__law_strokes (P := l.prog) (w := w) (base := base) F29 (PySem.W.mg_of X G a29) b29 g__law_stroke
  have F30 := fun_mk (st := s__law_common) l30 c30 k30
  have b30 := F30.binds (ps := ["_law_one", "_law_other"]) fun _ _ _ _ _ _ us hl => match us, hl with | [_, _], _ => rfl
  have g__law_common := h__law_common (P := l.prog) (w := w) (base := base) F30 (PySem.W.mg_of X G a30) b30 z_abs
  have F31 := fun_mk (st := s__law_share) l31 c31 k31
  have b31 := F31.binds (ps := ["_law_above", "_law_low"]) fun _ _ _ _ _ _ us hl => match us, hl with | [_, _], _ => rfl
  have g__law_share := h__law_share (P := l.prog) (w := w) (base := base) F31 (PySem.W.mg_of X G a31) b31 g__law_common
  have F32 := fun_mk (st := s__law_throws) l32 c32 k32
  have b32 := F32.binds (ps := ["_law_row", "_law_high", "_law_wide", "_law_most"]) fun _ _ _ _ _ _ us hl => match us, hl with | [_, _, _, _], _ => rfl
  have g__law_throws := h__law_throws (P := l.prog) (w := w) (base := base) F32 (PySem.W.mg_of X G a32) b32 z_range g__law_pick g__law_taken
  have F33 := fun_mk (st := s__law_draws) l33 c33 k33
  have b33 := F33.binds (ps := ["_law_told", "_law_start", "_law_many"]) fun _ _ _ _ _ _ us hl => match us, hl with | [_, _, _], _ => rfl
  have g__law_draws := h__law_draws (P := l.prog) (w := w) (base := base) F33 (PySem.W.mg_of X G a33) b33 z_dict z_range g__law_share g__law_strokes g__law_whole
  have F34 := fun_mk (st := s_law) l34 c34 k34
  exact law_end (g_law (P := l.prog) (w := w) (base := base) F34 z_len z_list z_range g__law_draws g__law_mixed g__law_pick g__law_picture g__law_taken g__law_throws g_effect g_least_values g_measure g_same_chain) hF
def tabI (L : List (Addr × Str)) (hn : (L.map (·.1)).Nodup) : TabC := tabsOf L hn fun q => none
end K25
open PySem PySem.W PyProof.Rows
set_option maxRecDepth 100000 in
set_option maxHeartbeats 0 in
theorem PySem.Challenge.cw_chancestrokes_k25_whole_hidden_strokes_holds : PySem.Challenge.rw_chancestrokes_k25_whole_hidden_strokes.Holds := by
  w_on; o_law; k_head; (case hw => w_witness2)
  k_fill
  --PROBE
  letI : PD.TabC := K25.tabI [(226, "ordered.<locals>.<lambda>")] (by decide)
  refine PD.walk_tabs (l := PySem.Challenge.rw_chancestrokes_k25_whole_hidden_strokes) (n := 63) (k := 8) (x := "_law_script") [(230, 226)] rfl (by decide) (by decide) rfl ⟨rfl, by decide, by decide⟩ (fun w h Y => PySem.W.km_in_of Y)
    (fun w mean mg mb h T X p hp => match p, hp with
      | _, .head _ => PySem.W.tab_of (x := "ordered") T X rfl (by kernel_rfl))
    (fun w p hp => match p, hp with
      | _, .head _ => by kernel_rfl)
    (PD.tabs_cs rfl) ?F
  case F =>
    intro w mg fa h KX G hmg
    refine' K25.all_mk KX G hmg ?a0 ?l0 ?c0 ?k0 ?a1 ?l1 ?c1 ?k1 ?a2 ?l2 ?c2 ?k2 ?a3 ?l3 ?c3 ?k3 ?a4 ?l4 ?c4 ?k4 ?a5 ?l5 ?c5 ?k5 ?a6 ?l6 ?c6 ?k6 ?a7 ?l7 ?c7 ?k7 ?a8 ?l8 ?c8 ?k8 ?a9 ?l9 ?c9 ?k9 ?a10 ?l10 ?c10 ?k10 ?a11 ?l11 ?c11 ?k11 ?a12 ?l12 ?c12 ?k12 ?a13 ?l13 ?c13 ?k13 ?a14 ?l14 ?c14 ?k14 ?a15 ?l15 ?c15 ?k15 ?a16 ?l16 ?c16 ?k16 ?a17 ?l17 ?c17 ?k17 ?a18 ?l18 ?c18 ?k18 ?a19 ?l19 ?c19 ?k19 ?a20 ?l20 ?c20 ?k20 ?a21 ?l21 ?c21 ?k21 ?a22 ?l22 ?c22 ?k22 ?a23 ?l23 ?c23 ?k23 ?a24 ?l24 ?c24 ?k24 ?a25 ?l25 ?c25 ?k25 ?a26 ?l26 ?c26 ?k26 ?a27 ?l27 ?c27 ?k27 ?a28 ?l28 ?c28 ?k28 ?a29 ?l29 ?c29 ?k29 ?a30 ?l30 ?c30 ?k30 ?a31 ?l31 ?c31 ?k31 ?a32 ?l32 ?c32 ?k32 ?a33 ?l33 ?c33 ?k33 ?a34 ?l34 ?c34 ?k34 ?y_abs ?y_all ?y_bool ?y_dict ?y_int ?y_isinstance ?y_len ?y_list ?y_range ?y_sorted ?y_sum ?y_tuple ?y_zip ?x_MOST_LISTED ?x_MOST_SIDE ?x_MOST_WEIGHT (.head _) K25.law_true
    (case a0 => k_is)
    (case l0 => k_is)
    (case c0 => k_is)
    (case k0 => k_is)
    (case a1 => k_is)
    (case l1 => k_is)
    (case c1 => k_is)
    (case k1 => k_is)
    (case a2 => k_is)
    (case l2 => k_is)
    (case c2 => k_is)
    (case k2 => k_is)
    (case a3 => k_is)
    (case l3 => k_is)
    (case c3 => k_is)
    (case k3 => k_is)
    (case a4 => k_is)
    (case l4 => k_is)
    (case c4 => k_is)
    (case k4 => k_is)
    (case a5 => k_is)
    (case l5 => k_is)
    (case c5 => k_is)
    (case k5 => k_is)
    (case a6 => k_is)
    (case l6 => k_is)
    (case c6 => k_is)
    (case k6 => k_is)
    (case a7 => k_is)
    (case l7 => k_is)
    (case c7 => k_is)
    (case k7 => k_is)
    (case a8 => k_is)
    (case l8 => k_is)
    (case c8 => k_is)
    (case k8 => k_is)
    (case a9 => k_is)
    (case l9 => k_is)
    (case c9 => k_is)
    (case k9 => k_is)
    (case a10 => k_is)
    (case l10 => k_is)
    (case c10 => k_is)
    (case k10 => k_is)
    (case a11 => k_is)
    (case l11 => k_is)
    (case c11 => k_is)
    (case k11 => k_is)
    (case a12 => k_is)
    (case l12 => k_is)
    (case c12 => k_is)
    (case k12 => k_is)
    (case a13 => k_is)
    (case l13 => k_is)
    (case c13 => k_is)
    (case k13 => k_is)
    (case a14 => k_is)
    (case l14 => k_is)
    (case c14 => k_is)
    (case k14 => k_is)
    (case a15 => k_is)
    (case l15 => k_is)
    (case c15 => k_is)
    (case k15 => k_is)
    (case a16 => k_is)
    (case l16 => k_is)
    (case c16 => k_is)
    (case k16 => k_is)
    (case a17 => k_is)
    (case l17 => k_is)
    (case c17 => k_is)
    (case k17 => k_is)
    (case a18 => k_is)
    (case l18 => k_is)
    (case c18 => k_is)
    (case k18 => k_is)
    (case a19 => k_is)
    (case l19 => k_is)
    (case c19 => k_is)
    (case k19 => k_is)
    (case a20 => k_is)
    (case l20 => k_is)
    (case c20 => k_is)
    (case k20 => k_is)
    (case a21 => k_is)
    (case l21 => k_is)
    (case c21 => k_is)
    (case k21 => k_is)
    (case a22 => k_is)
    (case l22 => k_is)
    (case c22 => k_is)
    (case k22 => k_is)
    (case a23 => k_is)
    (case l23 => k_is)
    (case c23 => k_is)
    (case k23 => k_is)
    (case a24 => k_is)
    (case l24 => k_is)
    (case c24 => k_is)
    (case k24 => k_is)
    (case a25 => k_is)
    (case l25 => k_is)
    (case c25 => k_is)
    (case k25 => k_is)
    (case a26 => k_is)
    (case l26 => k_is)
    (case c26 => k_is)
    (case k26 => k_is)
    (case a27 => k_is)
    (case l27 => k_is)
    (case c27 => k_is)
    (case k27 => k_is)
    (case a28 => k_is)
    (case l28 => k_is)
    (case c28 => k_is)
    (case k28 => k_is)
    (case a29 => k_is)
    (case l29 => k_is)
    (case c29 => k_is)
    (case k29 => k_is)
    (case a30 => k_is)
    (case l30 => k_is)
    (case c30 => k_is)
    (case k30 => k_is)
    (case a31 => k_is)
    (case l31 => k_is)
    (case c31 => k_is)
    (case k31 => k_is)
    (case a32 => k_is)
    (case l32 => k_is)
    (case c32 => k_is)
    (case k32 => k_is)
    (case a33 => k_is)
    (case l33 => k_is)
    (case c33 => k_is)
    (case k33 => k_is)
    (case a34 => k_is)
    (case l34 => k_is)
    (case c34 => k_is)
    (case k34 => k_is)
    (case y_abs => k_is)
    (case y_all => k_is)
    (case y_bool => k_is)
    (case y_dict => k_is)
    (case y_int => k_is)
    (case y_isinstance => k_is)
    (case y_len => k_is)
    (case y_list => k_is)
    (case y_range => k_is)
    (case y_sorted => k_is)
    (case y_sum => k_is)
    (case y_tuple => k_is)
    (case y_zip => k_is)
    (case x_MOST_LISTED => k_is)
    (case x_MOST_SIDE => k_is)
    (case x_MOST_WEIGHT => k_is)
