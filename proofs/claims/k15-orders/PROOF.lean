import PyProof.Rows.All
import Wide.All
import OpenK.AllK
import Wide.FinOn
import HandS.ForMost
import HandS.Flow
import HandS.IsInst
import HandS.TupAny
import HandS.Walk
import HandS.Exc
import HandS.HeadHook1
import HandS.Deep
import HandS.TupLe
import HandS.WordsExc
import HandS.SortInts
import HandS.Conv
import HandS.Defaults
import KE.GoesEnum
import HandS.DictComp
import HandS.WordsDict
import HandS.Codes
import HandS.HeadEnd
import HandS.HeadWalk
import HandS.Head0
import HandS.Head1
import HandS.Head2
import HandS.HeadHook2
import PySem.Challenge.RW_ringbeats_k15_what_orders_stand_for
set_option Elab.async false
set_option linter.all false
set_option maxRecDepth 100000
set_option maxHeartbeats 0
/-! Rb1: values, stores, outcomes; how they lie in the abstract heap. -/
namespace Rb
open PySem PySem.Spec PyProof.Rows L2

abbrev U := PyData
/-- a value of a name: data, or a place in the store -/
inductive W where
  | val (u : U)
  | loc (n : Nat)
/-- an object of the store -/
inductive O where
  | scr (ns : List Int)
  | lst (us : List U)
  | lol (ns : List Nat)
abbrev Store := List O
structure Exc where
  cls : Str
  fs : List (Str × U)
inductive Out (α : Type) where
  | ok (a : α) (S : Store)
  | ex (x : Exc) (S : Store)
  | bad
def Out.bind {α β : Type} : Out α → (α → Store → Out β) → Out β
  | .ok a S, f => f a S
  | .ex x S, _ => .ex x S
  | .bad, _ => .bad
@[simp] theorem Out.bind_ok {α β : Type} (a : α) (S : Store) (f : α → Store → Out β) : (Out.ok a S).bind f = f a S := rfl
@[simp] theorem Out.bind_ex {α β : Type} (x : Exc) (S : Store) (f : α → Store → Out β) : (Out.ex x S).bind f = .ex x S := rfl
@[simp] theorem Out.bind_bad {α β : Type} (f : α → Store → Out β) : (Out.bad : Out α).bind f = .bad := rfl
/-- from an option -/
def Out.opt {α : Type} (o : Option α) (S : Store) : Out α := match o with
  | some a => .ok a S
  | none => .bad
@[simp] theorem Out.opt_some {α : Type} (a : α) (S : Store) : Out.opt (some a) S = .ok a S := rfl
@[simp] theorem Out.opt_none {α : Type} (S : Store) : Out.opt (none : Option α) S = .bad := rfl
abbrev Env := List (Option W)
def eget : Env → Nat → Option W
  | [], _ => none
  | w :: _, 0 => w
  | _ :: r, n + 1 => eget r n
def eset : Env → Nat → Option W → Env
  | [], _, _ => []
  | _ :: r, 0, w => w :: r
  | o :: r, n + 1, w => o :: eset r n w
abbrev M := Env → Store → Out W
abbrev CallO := Str → List W → Store → Out W

theorem eset_length : ∀ (e : Env) (i : Nat) (w : Option W), (eset e i w).length = e.length
  | [], _, _ => rfl
  | _ :: r, 0, w => rfl
  | o :: r, n + 1, w => congrArg (· + 1) (eset_length r n w)
theorem eget_eset_ne : ∀ (e : Env) (i j : Nat) (w : Option W), i ≠ j → eget (eset e i w) j = eget e j
  | [], _, _, _, _ => rfl
  | _ :: r, 0, 0, w, h => absurd rfl h
  | _ :: r, 0, j + 1, w, h => rfl
  | o :: r, n + 1, 0, w, h => rfl
  | o :: r, n + 1, j + 1, w, h => eget_eset_ne r n j w (fun e => h (by rw [e]))
theorem eget_eset_self : ∀ (e : Env) (i : Nat) (w x : W), eget (eset e i (some w)) i = some x → x = w ∧ i < e.length
  | [], i, w, x, h => by cases i <;> cases h
  | _ :: r, 0, w, x, h => ⟨(Option.some.inj h).symm, Nat.succ_pos _⟩
  | o :: r, n + 1, w, x, h => by
    have q := eget_eset_self r n w x h
    exact ⟨q.1, Nat.succ_lt_succ q.2⟩
theorem eget_lt : ∀ (e : Env) (i : Nat) (w : W), eget e i = some w → i < e.length
  | [], i, w, h => by cases i <;> cases h
  | _ :: r, 0, w, h => Nat.succ_pos _
  | _ :: r, n + 1, w, h => Nat.succ_lt_succ (eget_lt r n w h)
theorem eget_none_self : ∀ (e : Env) (i : Nat), eget (eset e i none) i = none
  | [], i => by cases i <;> rfl
  | _ :: r, 0 => rfl
  | o :: r, n + 1 => eget_none_self r n

/-! ### how data lies in the heap: lists of data are nowhere in A -/
mutual
inductive UR (K : PySem.W.Frag) (A : List Addr) (H : Hp) : U → V → Prop
  | non : UR K A H .none .non
  | bl (b : Bool) : UR K A H (.bool b) (.bl b)
  | int (i : Int) : UR K A H (.int i) (.int i)
  | str (x : Str) : UR K A H (.str x) (.str x)
  | tup {a : Addr} {us : List U} {xs : List V} : SqT K H a xs → URs K A H us xs → UR K A H (.tuple us) (.ref a)
  | lst {a : Addr} {us : List U} {xs : List V} : a ∉ A → H a = some (.lst xs) → URs K A H us xs → UR K A H (.list us) (.ref a)
inductive URs (K : PySem.W.Frag) (A : List Addr) (H : Hp) : List U → List V → Prop
  | nil : URs K A H [] []
  | cons {u : U} {v : V} {us : List U} {vs : List V} : UR K A H u v → URs K A H us vs → URs K A H (u :: us) (v :: vs)
end

/-- how the heap may change: all that is tracked stays, but what stands at m -/
structure Ext (m m' : List Addr) (H H' : Hp) : Prop where
  keep : ∀ a o, a ∉ m → H a = some o → H' a = some o
  tups : ∀ a xs, H a = some (.tup xs) → H' a = some (.tup xs)
  frzs : ∀ a o xs, H a = some (.frz o (.tup xs)) → H' a = some (.frz o (.tup xs))
  new : ∀ a, a ∈ m' → a ∈ m ∨ H a = none
  pre : m <+: m'
theorem Ext.refl {m : List Addr} {H : Hp} : Ext m m H H := ⟨fun _ _ _ h => h, fun _ _ h => h, fun _ _ _ h => h, fun _ h => .inl h, List.prefix_refl _⟩
theorem Ext.trans {m m' m'' : List Addr} {H H' H'' : Hp} (e : Ext m m' H H') (f : Ext m' m'' H' H'') : Ext m m'' H H'' where
  keep := fun a o h h1 => f.keep a o (fun z => by
    rcases e.new a z with z | z
    · exact h z
    · rw [h1] at z; cases z) (e.keep a o h h1)
  tups := fun a xs h => f.tups a xs (e.tups a xs h)
  frzs := fun a o u h => f.frzs a o u (e.frzs a o u h)
  new := fun a h => by
    rcases f.new a h with z | z
    · exact e.new a z
    · by_cases q : a ∈ m
      · exact .inl q
      · refine .inr ?_
        cases r : H a with
        | none => rfl
        | some o => have := e.keep a o q r; rw [this] at z; cases z
  pre := e.pre.trans f.pre
/-- a new object beside -/
theorem Ext.push {m : List Addr} {H : Hp} {p : Addr} {o : HO} (h : H p = none) : Ext m m H (upd H p o) where
  keep := fun a o h1 h2 => by rw [upd_ne (ne_of_none h2 h)]; exact h2
  tups := fun a xs h2 => by rw [upd_ne (ne_of_none h2 h)]; exact h2
  frzs := fun a o u h2 => by rw [upd_ne (ne_of_none h2 h)]; exact h2
  new := fun _ h => .inl h
  pre := List.prefix_refl _
/-- fewer are to be written from now on -/
theorem Ext.less {m m' m'' : List Addr} {H H' : Hp} (e : Ext m m' H H') (h1 : m <+: m'') (h2 : m'' <+: m') : Ext m m'' H H' :=
  ⟨e.keep, e.tups, e.frzs, fun a h => e.new a (h2.subset h), h1⟩

theorem SqT.ext {K : PySem.W.Frag} {m m' : List Addr} {H H' : Hp} {a : Addr} {xs : List V} (e : Ext m m' H H') (h : SqT K H a xs) : SqT K H' a xs := by
  rcases h with (h | ⟨o, h⟩) | h
  · exact .inl (.inl (e.tups _ _ h))
  · exact .inl (.inr ⟨o, e.frzs _ _ _ h⟩)
  · exact .inr h
mutual
theorem UR.extn {K : PySem.W.Frag} {m m' A A' : List Addr} {H H' : Hp} (e : Ext m m' H H') (h1 : ∀ a ∈ m, a ∈ A) (h2 : ∀ a ∈ A', a ∈ A ∨ a ∈ m' ∨ H a = none) : ∀ {u : U} {v : V}, UR K A H u v → UR K A' H' u v
  | _, _, .non => .non
  | _, _, .bl b => .bl b
  | _, _, .int i => .int i
  | _, _, .str x => .str x
  | _, _, .tup h q => .tup (SqT.ext e h) (URs.extn e h1 h2 q)
  | _, _, .lst n h q => .lst (fun z => by
      rcases h2 _ z with z | z | z
      · exact n z
      · rcases e.new _ z with z | z
        · exact n (h1 _ z)
        · rw [h] at z; cases z
      · rw [h] at z; cases z) (e.keep _ _ (fun z => n (h1 _ z)) h) (URs.extn e h1 h2 q)
theorem URs.extn {K : PySem.W.Frag} {m m' A A' : List Addr} {H H' : Hp} (e : Ext m m' H H') (h1 : ∀ a ∈ m, a ∈ A) (h2 : ∀ a ∈ A', a ∈ A ∨ a ∈ m' ∨ H a = none) : ∀ {us : List U} {vs : List V}, URs K A H us vs → URs K A' H' us vs
  | _, _, .nil => .nil
  | _, _, .cons h t => .cons (UR.extn e h1 h2 h) (URs.extn e h1 h2 t)
end
theorem UR.ext {K : PySem.W.Frag} {m m' A A' : List Addr} {H H' : Hp} (e : Ext m m' H H') (h1 : ∀ a ∈ m, a ∈ A) (h2 : ∀ a ∈ A', a ∈ A ∨ a ∈ m') {u : U} {v : V} (h : UR K A H u v) : UR K A' H' u v :=
  h.extn e h1 fun a z => (h2 a z).imp id .inl
theorem URs.ext {K : PySem.W.Frag} {m m' A A' : List Addr} {H H' : Hp} (e : Ext m m' H H') (h1 : ∀ a ∈ m, a ∈ A) (h2 : ∀ a ∈ A', a ∈ A ∨ a ∈ m') {us : List U} {vs : List V} (h : URs K A H us vs) : URs K A' H' us vs :=
  h.extn e h1 fun a z => (h2 a z).imp id .inl
mutual
/-- fewer are to be kept away from -/
theorem UR.sub {K : PySem.W.Frag} {A A' : List Addr} {H : Hp} (h2 : ∀ a ∈ A', a ∈ A) : ∀ {u : U} {v : V}, UR K A H u v → UR K A' H u v
  | _, _, .non => .non
  | _, _, .bl b => .bl b
  | _, _, .int i => .int i
  | _, _, .str x => .str x
  | _, _, .tup h q => .tup h (URs.sub h2 q)
  | _, _, .lst n h q => .lst (fun z => n (h2 _ z)) h (URs.sub h2 q)
theorem URs.sub {K : PySem.W.Frag} {A A' : List Addr} {H : Hp} (h2 : ∀ a ∈ A', a ∈ A) : ∀ {us : List U} {vs : List V}, URs K A H us vs → URs K A' H us vs
  | _, _, .nil => .nil
  | _, _, .cons h t => .cons (UR.sub h2 h) (URs.sub h2 t)
end
mutual
theorem UR.dp {K : PySem.W.Frag} {A : List Addr} {H : Hp} : ∀ {u : U} {v : V}, UR K A H u v → Dp K H v u
  | _, _, .non => .non
  | _, _, .bl b => .bl b
  | _, _, .int i => .int i
  | _, _, .str x => .str x
  | _, _, .tup h q => .tup h (URs.dp q)
  | _, _, .lst n h q => .lst (SqL.of h) (URs.dp q)
theorem URs.dp {K : PySem.W.Frag} {A : List Addr} {H : Hp} : ∀ {us : List U} {vs : List V}, URs K A H us vs → DpAll K H vs us
  | _, _, .nil => .nil
  | _, _, .cons h t => .cons (UR.dp h) (URs.dp t)
end
theorem URs.length {K : PySem.W.Frag} {A : List Addr} {H : Hp} : ∀ {us : List U} {vs : List V}, URs K A H us vs → us.length = vs.length
  | _, _, .nil => rfl
  | _, _, .cons _ t => congrArg (· + 1) (URs.length t)
theorem URs.append {K : PySem.W.Frag} {A : List Addr} {H : Hp} : ∀ {us ws : List U} {vs xs : List V}, URs K A H us vs → URs K A H ws xs → URs K A H (us ++ ws) (vs ++ xs)
  | _, _, _, _, .nil, h => h
  | _, _, _, _, .cons h t, q => .cons h (URs.append t q)
theorem URs.get {K : PySem.W.Frag} {A : List Addr} {H : Hp} : ∀ {us : List U} {vs : List V} {i : Nat} {u : U}, URs K A H us vs → us[i]? = some u → ∃ v, vs[i]? = some v ∧ UR K A H u v
  | _, _, i, _, .nil, h => by simp at h
  | _, _, 0, u, .cons h t, q => by simp at q; subst q; exact ⟨_, rfl, h⟩
  | _, _, i + 1, u, .cons h t, q => by simpa using URs.get (i := i) t (by simpa using q)
theorem URs.take {K : PySem.W.Frag} {A : List Addr} {H : Hp} : ∀ {us : List U} {vs : List V} (n : Nat), URs K A H us vs → URs K A H (us.take n) (vs.take n)
  | _, _, 0, _ => by simp; exact .nil
  | _, _, n + 1, .nil => by simp; exact .nil
  | _, _, n + 1, .cons h t => .cons h (URs.take n t)
theorem URs.drop {K : PySem.W.Frag} {A : List Addr} {H : Hp} : ∀ {us : List U} {vs : List V} (n : Nat), URs K A H us vs → URs K A H (us.drop n) (vs.drop n)
  | _, _, 0, h => h
  | _, _, n + 1, .nil => .nil
  | _, _, n + 1, .cons h t => URs.drop n t
theorem URs.eraseIdx {K : PySem.W.Frag} {A : List Addr} {H : Hp} : ∀ {us : List U} {vs : List V} (n : Nat), URs K A H us vs → URs K A H (us.eraseIdx n) (vs.eraseIdx n)
  | _, _, n, .nil => .nil
  | _, _, 0, .cons h t => t
  | _, _, n + 1, .cons h t => .cons h (URs.eraseIdx n t)
theorem URs.set {K : PySem.W.Frag} {A : List Addr} {H : Hp} {u : U} {v : V} (r : UR K A H u v) : ∀ {us : List U} {vs : List V} (n : Nat), URs K A H us vs → URs K A H (us.set n u) (vs.set n v)
  | _, _, n, .nil => .nil
  | _, _, 0, .cons h t => .cons r t
  | _, _, n + 1, .cons h t => .cons h (URs.set r n t)
theorem URs.reverse {K : PySem.W.Frag} {A : List Addr} {H : Hp} {us : List U} {vs : List V} (h : URs K A H us vs) : URs K A H us.reverse vs.reverse := by
  induction us generalizing vs with
  | nil => cases h; exact .nil
  | cons u us ih =>
    cases h with
    | cons h t => rw [List.reverse_cons, List.reverse_cons]; exact (ih t).append (.cons h .nil)
theorem URs.ints {K : PySem.W.Frag} {A : List Addr} {H : Hp} : ∀ {ns : List Int} {vs : List V}, URs K A H (ns.map .int) vs → vs = ns.map V.int
  | [], _, .nil => rfl
  | n :: ns, _, .cons h t => by cases h; rw [URs.ints t]; rfl
theorem URs.of_ints {K : PySem.W.Frag} {A : List Addr} {H : Hp} : ∀ {ns : List Int}, URs K A H (ns.map .int) (ns.map V.int)
  | [] => .nil
  | n :: ns => .cons (.int n) URs.of_ints

/-! ### values of names, the store -/
inductive WR (K : PySem.W.Frag) (Pr m : List Addr) (H : Hp) : W → V → Prop
  | val {u : U} {v : V} : UR K (Pr ++ m) H u v → WR K Pr m H (.val u) v
  | loc {n : Nat} {a : Addr} : m[n]? = some a → WR K Pr m H (.loc n) (.ref a)
inductive WRs (K : PySem.W.Frag) (Pr m : List Addr) (H : Hp) : List W → List V → Prop
  | nil : WRs K Pr m H [] []
  | cons {w : W} {v : V} {ws : List W} {vs : List V} : WR K Pr m H w v → WRs K Pr m H ws vs → WRs K Pr m H (w :: ws) (v :: vs)
theorem pre_get {α : Type} {m m' : List α} {n : Nat} {a : α} (h : m <+: m') (e : m[n]? = some a) : m'[n]? = some a := by
  obtain ⟨t, rfl⟩ := h
  have := (List.getElem?_eq_some_iff.mp e).1
  rw [List.getElem?_append_left this]; exact e
theorem WR.ext {K : PySem.W.Frag} {Pr m m' : List Addr} {H H' : Hp} (e : Ext m m' H H') {w : W} {v : V} (h : WR K Pr m H w v) : WR K Pr m' H' w v := by
  cases h with
  | val h => exact .val (h.ext e (fun a h => List.mem_append_right _ h) fun a h => by
      rcases List.mem_append.mp h with h | h
      · exact .inl (List.mem_append_left _ h)
      · exact .inr h)
  | loc h => exact .loc (pre_get e.pre h)
theorem WRs.ext {K : PySem.W.Frag} {Pr m m' : List Addr} {H H' : Hp} (e : Ext m m' H H') : ∀ {ws : List W} {vs : List V}, WRs K Pr m H ws vs → WRs K Pr m' H' ws vs
  | _, _, .nil => .nil
  | _, _, .cons h t => .cons (h.ext e) (WRs.ext e t)
theorem WRs.length {K : PySem.W.Frag} {Pr m : List Addr} {H : Hp} : ∀ {us : List W} {vs : List V}, WRs K Pr m H us vs → us.length = vs.length
  | _, _, .nil => rfl
  | _, _, .cons _ t => congrArg (· + 1) (WRs.length t)
theorem WRs.get {K : PySem.W.Frag} {Pr m : List Addr} {H : Hp} : ∀ {us : List W} {vs : List V} {i : Nat} {u : W}, WRs K Pr m H us vs → us[i]? = some u → ∃ v, vs[i]? = some v ∧ WR K Pr m H u v
  | _, _, i, _, .nil, h => by simp at h
  | _, _, 0, u, .cons h t, q => by simp at q; subst q; exact ⟨_, rfl, h⟩
  | _, _, i + 1, u, .cons h t, q => by simpa using WRs.get (i := i) t (by simpa using q)
theorem URs.ext' {K : PySem.W.Frag} {Pr m m' : List Addr} {H H' : Hp} (e : Ext m m' H H') {us : List U} {vs : List V} (h : URs K (Pr ++ m) H us vs) : URs K (Pr ++ m') H' us vs :=
  h.ext e (fun a h => List.mem_append_right _ h) fun a h => by
      rcases List.mem_append.mp h with h | h
      · exact .inl (List.mem_append_left _ h)
      · exact .inr h
theorem UR.ext' {K : PySem.W.Frag} {Pr m m' : List Addr} {H H' : Hp} (e : Ext m m' H H') {us : U} {vs : V} (h : UR K (Pr ++ m) H us vs) : UR K (Pr ++ m') H' us vs :=
  h.ext e (fun a h => List.mem_append_right _ h) fun a h => by
      rcases List.mem_append.mp h with h | h
      · exact .inl (List.mem_append_left _ h)
      · exact .inr h
theorem URs.wrs {K : PySem.W.Frag} {Pr m : List Addr} {H : Hp} : ∀ {us : List U} {vs : List V}, URs K (Pr ++ m) H us vs → WRs K Pr m H (us.map .val) vs
  | _, _, .nil => .nil
  | _, _, .cons h t => .cons (.val h) (URs.wrs t)
inductive LR (m : List Addr) : List Nat → List V → Prop
  | nil : LR m [] []
  | cons {n : Nat} {a : Addr} {ns : List Nat} {vs : List V} : m[n]? = some a → LR m ns vs → LR m (n :: ns) (.ref a :: vs)
theorem LR.ext {m m' : List Addr} (h : m <+: m') : ∀ {ns : List Nat} {vs : List V}, LR m ns vs → LR m' ns vs
  | _, _, .nil => .nil
  | _, _, .cons e t => .cons (pre_get h e) (LR.ext h t)
theorem LR.wrs {K : PySem.W.Frag} {Pr m : List Addr} {H : Hp} : ∀ {ns : List Nat} {vs : List V}, LR m ns vs → WRs K Pr m H (ns.map .loc) vs
  | _, _, .nil => .nil
  | _, _, .cons h t => .cons (.loc h) (LR.wrs t)
/-- the object of the store at a -/
inductive OR (K : PySem.W.Frag) (Pr m : List Addr) (H : Hp) : O → Addr → Prop
  | scr {ns : List Int} {a : Addr} {o : Obj} : H a = some (.frz o (.lst (ns.map V.int))) → OR K Pr m H (.scr ns) a
  | lst {us : List U} {a : Addr} {xs : List V} : H a = some (.lst xs) → URs K (Pr ++ m) H us xs → OR K Pr m H (.lst us) a
  | lol {ns : List Nat} {a : Addr} {xs : List V} : H a = some (.lst xs) → LR m ns xs → OR K Pr m H (.lol ns) a
theorem OR.some {K : PySem.W.Frag} {Pr m : List Addr} {H : Hp} {o : O} {a : Addr} (h : OR K Pr m H o a) : ∃ u, H a = some u ∧ (∀ xs, u ≠ .tup xs) ∧ ∀ ob xs, u ≠ .frz ob (.tup xs) := by
  cases h with
  | scr h => exact ⟨_, h, (fun _ z => by cases z), (fun _ _ z => by cases z)⟩
  | lst h _ => exact ⟨_, h, (fun _ z => by cases z), (fun _ _ z => by cases z)⟩
  | lol h _ => exact ⟨_, h, (fun _ z => by cases z), (fun _ _ z => by cases z)⟩
/-- what an object names stands before it -/
def O.olderThan (k : Nat) : O → Bool
  | .lol ns => ns.all fun n => decide (n < k)
  | _ => true
/-- the store in the heap; Pr: objects that are being made -/
structure SR (K : PySem.W.Frag) (Pr m : List Addr) (H : Hp) (S : Store) : Prop where
  len : m.length = S.length
  nd : m.Nodup
  pr : ∀ a ∈ Pr, a ∉ m ∧ H a ≠ none
  obj : ∀ (n : Nat) (o : O) (a : Addr), S[n]? = some o → m[n]? = some a → OR K Pr m H o a
  old : ∀ (n : Nat) (o : O), S[n]? = some o → o.olderThan n = true
theorem SR.at {K : PySem.W.Frag} {Pr m : List Addr} {H : Hp} {S : Store} (s : SR K Pr m H S) {n : Nat} {o : O} (h : S[n]? = some o) : ∃ a, m[n]? = some a ∧ OR K Pr m H o a := by
  have h1 := (List.getElem?_eq_some_iff.mp h).1
  have h2 : m[n]? = some (m[n]'(by rw [s.len]; exact h1)) := List.getElem?_eq_getElem _
  exact ⟨_, h2, s.obj n o _ h h2⟩
theorem SR.tracked {K : PySem.W.Frag} {Pr m : List Addr} {H : Hp} {S : Store} (s : SR K Pr m H S) {a : Addr} (h : a ∈ Pr ++ m) : H a ≠ none := by
  rcases List.mem_append.mp h with h | h
  · exact (s.pr a h).2
  · obtain ⟨n, hn, e⟩ := List.mem_iff_getElem.mp h
    have h2 : m[n]? = some a := by rw [List.getElem?_eq_getElem hn, e]
    obtain ⟨u, h3, _⟩ := (s.obj n _ a (List.getElem?_eq_getElem (by rw [← s.len]; exact hn)) h2).some
    rw [h3]; intro z; cases z
theorem SR.free {K : PySem.W.Frag} {Pr m : List Addr} {H : Hp} {S : Store} (s : SR K Pr m H S) {p : Addr} (h : H p = none) : p ∉ Pr ++ m := fun z => s.tracked z h
/-- tuples stand elsewhere -/
theorem SR.nofrz {K : PySem.W.Frag} {Pr m : List Addr} {H : Hp} {S : Store} (s : SR K Pr m H S) {a : Addr} {ob : Obj} {xs : List V} (h : H a = some (.frz ob (.tup xs))) : a ∉ m := fun z => by
  obtain ⟨n, hn, e⟩ := List.mem_iff_getElem.mp z
  have h2 : m[n]? = some a := by rw [List.getElem?_eq_getElem hn, e]
  obtain ⟨u, h3, _, h4⟩ := (s.obj n _ a (List.getElem?_eq_getElem (by rw [← s.len]; exact hn)) h2).some
  rw [h] at h3; cases h3; exact h4 _ _ rfl
theorem SR.notup {K : PySem.W.Frag} {Pr m : List Addr} {H : Hp} {S : Store} (s : SR K Pr m H S) {a : Addr} {xs : List V} (h : H a = some (.tup xs)) : a ∉ m := fun z => by
  obtain ⟨n, hn, e⟩ := List.mem_iff_getElem.mp z
  have h2 : m[n]? = some a := by rw [List.getElem?_eq_getElem hn, e]
  obtain ⟨u, h3, h4, _⟩ := (s.obj n _ a (List.getElem?_eq_getElem (by rw [← s.len]; exact hn)) h2).some
  rw [h] at h3; cases h3; exact h4 _ rfl
theorem OR.beside {K : PySem.W.Frag} {Pr m : List Addr} {H : Hp} {p : Addr} {o : O} {u : HO} {a : Addr} (h : H p = none) (r : OR K Pr m H o a) : OR K Pr m (upd H p u) o a := by
  cases r with
  | scr e => exact .scr (by rw [upd_ne (ne_of_none e h)]; exact e)
  | lst e q => exact .lst (by rw [upd_ne (ne_of_none e h)]; exact e) (q.ext' (Ext.push h))
  | lol e q => exact .lol (by rw [upd_ne (ne_of_none e h)]; exact e) q
/-- a new object beside the store -/
theorem SR.push {K : PySem.W.Frag} {Pr m : List Addr} {H : Hp} {S : Store} (s : SR K Pr m H S) {p : Addr} {u : HO} (h : H p = none) : SR K Pr m (upd H p u) S where
  len := s.len
  nd := s.nd
  pr := fun a ha => ⟨(s.pr a ha).1, by
    have := (s.pr a ha).2
    by_cases e : a = p
    · subst e; rw [upd_same]; intro z; cases z
    · rw [upd_ne e]; exact this⟩
  obj := fun n o a h1 h2 => (s.obj n o a h1 h2).beside h
  old := s.old
/-- the names -/
structure ER (K : PySem.W.Frag) (Pr m : List Addr) (H : Hp) (env : Env) (σ : L2.St) : Prop where
  len : env.length = σ.length
  at_ : ∀ i w, eget env i = some w → ∃ v, σ[i]? = some (some v) ∧ WR K Pr m H w v
theorem ER.ext {K : PySem.W.Frag} {Pr m m' : List Addr} {H H' : Hp} {env : Env} {σ : L2.St} (e : Ext m m' H H') (h : ER K Pr m H env σ) : ER K Pr m' H' env σ :=
  ⟨h.len, fun i w q => let ⟨v, h1, h2⟩ := h.at_ i w q; ⟨v, h1, h2.ext e⟩⟩
theorem ER.set {K : PySem.W.Frag} {Pr m : List Addr} {H : Hp} {env : Env} {σ : L2.St} (h : ER K Pr m H env σ) {i : Nat} {w : W} {v : V} (r : WR K Pr m H w v) : ER K Pr m H (eset env i (some w)) (σ.set i (some v)) := by
  refine ⟨by rw [eset_length, List.length_set]; exact h.len, fun j x q => ?_⟩
  by_cases e : i = j
  · subst e
    obtain ⟨rfl, hl⟩ := eget_eset_self _ _ _ _ q
    exact ⟨v, List.getElem?_set_self (by rw [← h.len]; exact hl), r⟩
  · rw [eget_eset_ne _ _ _ _ e] at q
    obtain ⟨y, h1, h2⟩ := h.at_ j x q
    exact ⟨y, by rw [List.getElem?_set_ne e]; exact h1, h2⟩
/-! ### what is told of an end -/
/-- w comes, the store is S: from (m, H) on -/
def Ret (K : PySem.W.Frag) (Pr m : List Addr) (H : Hp) (S : Store) (w : W) (Q : VK) : Prop := ∀ m' H' v, Ext m m' H H' → SR K Pr m' H' S → WR K Pr m' H' w v → Q v H'
/-- the exception x, its class at C, its fields in the dict at d -/
inductive XR (K : PySem.W.Frag) (A : List Addr) (H : Hp) : Exc → Value → Option Addr → Prop
  | own {x : Exc} {d : Addr} {vs : List V} : H d = some (.xd ((x.fs.map (·.1)).zip vs)) → URs K A H (x.fs.map (·.2)) vs → XR K A H x (.ref (He.ga K x.cls)) (some d)
def RetX (K : PySem.W.Frag) (Pr m : List Addr) (H : Hp) (S : Store) (x : Exc) (E : XK) : Prop := ∀ m' H' C d, Ext m m' H H' → SR K Pr m' H' S → XR K (Pr ++ m') H' x C d → E C d H'
theorem Ret.ext {K : PySem.W.Frag} {Pr m m' : List Addr} {H H' : Hp} {S : Store} {w : W} {Q : VK} (r : Ret K Pr m H S w Q) (e : Ext m m' H H') : Ret K Pr m' H' S w Q := fun m'' H'' v f s q => r m'' H'' v (e.trans f) s q
theorem RetX.ext {K : PySem.W.Frag} {Pr m m' : List Addr} {H H' : Hp} {S : Store} {x : Exc} {Q : XK} (r : RetX K Pr m H S x Q) (e : Ext m m' H H') : RetX K Pr m' H' S x Q := fun m'' H'' C d f s q => r m'' H'' C d (e.trans f) s q
section
variable {K : PySem.W.Frag} {Pr m : List Addr} {H : Hp} {S : Store} {w : W} {Q : VK}
theorem Ret.here (r : Ret K Pr m H S w Q) (s : SR K Pr m H S) {v : V} (h : WR K Pr m H w v) : Q v H := r m H v .refl s h
theorem Ret.bl {b : Bool} (r : Ret K Pr m H S (.val (.bool b)) Q) (s : SR K Pr m H S) : Q (.bl b) H := r.here s (.val (.bl b))
theorem Ret.int {b : Int} (r : Ret K Pr m H S (.val (.int b)) Q) (s : SR K Pr m H S) : Q (.int b) H := r.here s (.val (.int b))
theorem Ret.str {b : Str} (r : Ret K Pr m H S (.val (.str b)) Q) (s : SR K Pr m H S) : Q (.str b) H := r.here s (.val (.str b))
theorem Ret.non (r : Ret K Pr m H S (.val .none) Q) (s : SR K Pr m H S) : Q .non H := r.here s (.val .non)
theorem Ret.tup {us : List U} {xs : List V} (r : Ret K Pr m H S (.val (.tuple us)) Q) (s : SR K Pr m H S) (h : URs K (Pr ++ m) H us xs) {p : Addr} (hp : H p = none) : Q (.ref p) (upd H p (.tup xs)) :=
  r m _ _ (.push hp) (s.push hp) (.val (.tup (SqT.of upd_same) (h.ext' (.push hp))))
theorem Ret.lst {us : List U} {xs : List V} (r : Ret K Pr m H S (.val (.list us)) Q) (s : SR K Pr m H S) (h : URs K (Pr ++ m) H us xs) {p : Addr} (hp : H p = none) : Q (.ref p) (upd H p (.lst xs)) :=
  r m _ _ (.push hp) (s.push hp) (.val (.lst (s.free hp) upd_same (h.ext' (.push hp))))
end
/-! ### readings -/
def tM (K : PySem.W.Frag) (E : XK) (f : M) : TE := fun σ H Q => ∃ Pr m env S, ER K Pr m H env σ ∧ SR K Pr m H S ∧
  match f env S with
  | .ok w S' => Ret K Pr m H S' w Q
  | .ex x S' => RetX K Pr m H S' x E
  | .bad => False
abbrev MA := Env → Store → Out (List W)
def tMA (K : PySem.W.Frag) (E : XK) (f : MA) : TA := fun σ H Q => ∃ Pr m env S, ER K Pr m H env σ ∧ SR K Pr m H S ∧
  match f env S with
  | .ok ws S' => ∀ m' H' vs, Ext m m' H H' → SR K Pr m' H' S' → WRs K Pr m' H' ws vs → Q vs H'
  | .ex x S' => RetX K Pr m H S' x E
  | .bad => False
theorem PE.weak {X : Cx} {e : Expr} {t t' : TE} (h : PE X e t) (k : ∀ σ H Q, t' σ H Q → t σ H Q) : PE X e t' := ⟨fun pins s σ H Q I q => h.run pins s σ H Q I (k σ H Q q)⟩
theorem PA.weak {X : Cx} {e : List Expr} {t t' : TA} (h : PA X e t) (k : ∀ σ H Q, t' σ H Q → t σ H Q) : PA X e t' := ⟨fun pos pins s σ H Q I q => h.run pos pins s σ H Q I (k σ H Q q)⟩
theorem PT.weak {X : Cx} {e : Expr} {t t' : TT} (h : PT X e t) (k : ∀ σ H Q, t' σ H Q → t σ H Q) : PT X e t' := ⟨fun pins s σ H Q I q => h.run pins s σ H Q I (k σ H Q q)⟩
theorem PW.weak {X : Cx} {e : Expr} {t t' : TT} (h : PW X e t) (k : ∀ σ H Q, t' σ H Q → t σ H Q) : PW X e t' := ⟨fun wh pins s σ H Q I q => h.run wh pins s σ H Q I (k σ H Q q)⟩
theorem PS.weak {X : Cx} {e : Stmt} {t t' : TS} (h : PS X e t) (k : ∀ D σ H, t' D σ H → t D σ H) : PS X e t' := ⟨fun pins s σ H D I q => h.run pins s σ H D I (k D σ H q)⟩
theorem PSs.weak {X : Cx} {e : List Stmt} {t t' : TS} (h : PSs X e t) (k : ∀ D σ H, t' D σ H → t D σ H) : PSs X e t' := ⟨fun pins s σ H D I q => h.run pins s σ H D I (k D σ H q)⟩
end Rb

/-! Rb2: expressions: names, constants, displays, operators, comparisons, tests. -/
namespace Rb
open PySem PySem.Spec PyProof.Rows L2

/-! ### reading the store -/
def oU : Option O → Option U
  | some (.lst us) => some (.list us)
  | _ => none
def rdU (S : Store) : W → Option U
  | .val u => some u
  | .loc n => oU S[n]?
def oS : Option O → Option (Bool × List U)
  | some (.lst us) => some (true, us)
  | _ => none
def uS : U → Option (Bool × List U)
  | .tuple us => some (false, us)
  | .list us => some (true, us)
  | _ => none
def seqU (S : Store) : W → Option (Bool × List U)
  | .val u => uS u
  | .loc n => oS S[n]?
/-- items, of a list of places too -/
def uI : U → Option (Bool × List W)
  | .tuple us => some (false, us.map .val)
  | .list us => some (true, us.map .val)
  | _ => none
def oI : Option O → Option (Bool × List W)
  | some (.lst us) => some (true, us.map .val)
  | some (.lol ns) => some (true, ns.map .loc)
  | some (.scr ns) => some (true, ns.map fun i => .val (.int i))
  | none => none
def itemsW (S : Store) : W → Option (Bool × List W)
  | .val u => uI u
  | .loc n => oI S[n]?
section
variable {K : PySem.W.Frag} {Pr m : List Addr} {H : Hp} {S : Store} {w : W} {v : V}
theorem rdU_ok (s : SR K Pr m H S) (r : WR K Pr m H w v) {u : U} (h : rdU S w = some u) : UR K [] H u v := by
  cases r with
  | val r => cases h; exact r.sub (fun _ z => by simp at z)
  | @loc n a e =>
    have h : oU S[n]? = some u := h
    cases hs : S[n]? with
    | none => rw [hs] at h; cases h
    | some ob =>
      rw [hs] at h
      obtain ⟨a', e', o⟩ := s.at hs
      rw [e] at e'; cases e'
      cases o with
      | lst e1 e2 => cases h; exact .lst (by simp) e1 (e2.sub (fun _ z => by simp at z))
      | _ => cases h
/-- a sequence: a list that is tracked, or a tuple -/
def SqAt (K : PySem.W.Frag) (H : Hp) (b : Bool) (a : Addr) (xs : List V) : Prop := if b = true then H a = some (.lst xs) else SqT K H a xs
theorem SqAt.or {b : Bool} {a : Addr} {xs : List V} (h : SqAt K H b a xs) : SqL K H a xs ∨ SqT K H a xs := by
  cases b with
  | true => exact .inl (SqL.of h)
  | false => exact .inr h
theorem seqU_ok (s : SR K Pr m H S) (r : WR K Pr m H w v) {b : Bool} {us : List U} (h : seqU S w = some (b, us)) : ∃ a xs, v = .ref a ∧ SqAt K H b a xs ∧ URs K (Pr ++ m) H us xs := by
  cases r with
  | val r =>
    cases r with
    | tup h1 h2 => cases h; exact ⟨_, _, rfl, h1, h2⟩
    | lst h0 h1 h2 => cases h; exact ⟨_, _, rfl, h1, h2⟩
    | _ => cases h
  | @loc n a e =>
    have h : oS S[n]? = some (b, us) := h
    cases hs : S[n]? with
    | none => rw [hs] at h; cases h
    | some ob =>
      rw [hs] at h
      obtain ⟨a', e', o⟩ := s.at hs
      rw [e] at e'; cases e'
      cases o with
      | lst e1 e2 => cases h; exact ⟨_, _, rfl, e1, e2⟩
      | _ => cases h
theorem itemsW_ok (s : SR K Pr m H S) (r : WR K Pr m H w v) {b : Bool} {us : List W} (h : itemsW S w = some (b, us)) :
    ∃ a xs, v = .ref a ∧ (if b = true then SqL K H a xs else SqT K H a xs) ∧ WRs K Pr m H us xs := by
  cases r with
  | val r =>
    cases r with
    | tup h1 h2 => cases h; exact ⟨_, _, rfl, h1, h2.wrs⟩
    | lst h0 h1 h2 => cases h; exact ⟨_, _, rfl, SqL.of h1, h2.wrs⟩
    | _ => cases h
  | @loc n a e =>
    have h : oI S[n]? = some (b, us) := h
    cases hs : S[n]? with
    | none => rw [hs] at h; cases h
    | some ob =>
      rw [hs] at h
      obtain ⟨a', e', o⟩ := s.at hs
      rw [e] at e'; cases e'
      cases o with
      | lst e1 e2 => cases h; exact ⟨_, _, rfl, SqL.of e1, e2.wrs⟩
      | lol e1 e2 => cases h; exact ⟨_, _, rfl, SqL.of e1, e2.wrs⟩
      | @scr ns _ ob e1 =>
        cases h
        refine ⟨_, _, rfl, .inl (.inr ⟨_, e1⟩), ?_⟩
        have : URs K (Pr ++ m) H (ns.map .int) (ns.map V.int) := URs.of_ints
        have q := this.wrs
        rw [List.map_map] at q
        exact q
end

/-! ### names and constants -/
def mVar (i : Nat) : M := fun env S => Out.opt (eget env i) S
def mLit (u : U) : M := fun _ S => .ok (.val u) S
section
variable {X : Cx} {E : XK} {pos : Pos}
theorem pe_mVar {i : Nat} {x : Str} (hN : X.N[i]? = some x) (hv : Vis X.env.scope x) (hd : (x == ("__debug__" : Str)) = false) (hcd : (x == ("__classdict__" : Str)) = false) : PE X (.Name x pos) (tM X.K E (mVar i)) := by
  refine PE.weak (pe_var hN hv hd hcd) ?_
  rintro σ H Q ⟨Pr, m, env, S, er, sr, h⟩
  cases e : eget env i with
  | none => simp only [mVar, e, Out.opt_none] at h
  | some w =>
    simp only [mVar, e, Out.opt_some] at h
    obtain ⟨v, h1, h2⟩ := er.at_ i w e
    exact ⟨v, h1, h.here sr h2⟩
theorem pe_mInt {i : Int} {j} : PE X (.Constant (.int i) j pos) (tM X.K E (mLit (.int i))) := PE.weak pe_int (by
  rintro σ H Q ⟨Pr, m, env, S, er, sr, h⟩
  exact Ret.int h sr)
theorem pe_mBl {i : Bool} {j} : PE X (.Constant (.bool i) j pos) (tM X.K E (mLit (.bool i))) := PE.weak pe_bl (by
  rintro σ H Q ⟨Pr, m, env, S, er, sr, h⟩
  exact Ret.bl h sr)
theorem pe_mNon {j} : PE X (.Constant .none j pos) (tM X.K E (mLit .none)) := PE.weak pe_non (by
  rintro σ H Q ⟨Pr, m, env, S, er, sr, h⟩
  exact Ret.non h sr)
theorem pe_mStr {x : Str} {j} : PE X (.Constant (.str x) j pos) (tM X.K E (mLit (.str x))) := PE.weak pe_str (by
  rintro σ H Q ⟨Pr, m, env, S, er, sr, h⟩
  exact Ret.str h sr)
/-- a constant of the module -/
theorem pe_mGlobInt {x : Str} {i : Int} {t : Tok} (hg : Gl X x) (hm : X.mg x = some (.int i t)) (hd : (x == ("__debug__" : Str)) = false) : PE X (.Name x pos) (tM X.K E (mLit (.int i))) :=
  PE.weak (pe_glob (v := .int i) hg hm ⟨t, rfl⟩ hd) (by
  rintro σ H Q ⟨Pr, m, env, S, er, sr, h⟩
  exact Ret.int h sr)
theorem pe_mGlobStr {x : Str} {i : Str} {t : Tok} (hg : Gl X x) (hm : X.mg x = some (.str i t)) (hd : (x == ("__debug__" : Str)) = false) : PE X (.Name x pos) (tM X.K E (mLit (.str i))) :=
  PE.weak (pe_glob (v := .str i) hg hm ⟨t, rfl⟩ hd) (by
  rintro σ H Q ⟨Pr, m, env, S, er, sr, h⟩
  exact Ret.str h sr)
end

/-! ### arguments, displays -/
def mNil : MA := fun _ S => .ok [] S
def mCons (f : M) (g : MA) : MA := fun env S => (f env S).bind fun w S1 => (g env S1).bind fun ws S2 => .ok (w :: ws) S2
/-- all data -/
def allU : List W → Option (List U)
  | [] => some []
  | .val u :: r => (allU r).map (u :: ·)
  | .loc _ :: _ => none
def mTup (f : MA) : M := fun env S => (f env S).bind fun ws S1 => Out.opt ((allU ws).map fun us => .val (.tuple us)) S1
def mLst (f : MA) : M := fun env S => (f env S).bind fun ws S1 => Out.opt ((allU ws).bind fun us => if us.length ≤ 16777216 then some (.val (.list us)) else none) S1
theorem allU_ok {K : PySem.W.Frag} {Pr m : List Addr} {H : Hp} : ∀ {ws : List W} {vs : List V} {us : List U}, WRs K Pr m H ws vs → allU ws = some us → URs K (Pr ++ m) H us vs
  | _, _, _, .nil, h => by cases h; exact .nil
  | _, _, us, .cons (.val r) t, h => by
    simp only [allU, Option.map_eq_some_iff] at h
    obtain ⟨us', h1, rfl⟩ := h
    exact .cons r (allU_ok t h1)
  | _, _, _, .cons (.loc _) t, h => by cases h
section
variable {X : Cx} {E : XK} {pos : Pos} {e : Expr} {es : List Expr} {f : M} {g : MA}
theorem pa_mNil : PA X [] (tMA X.K E mNil) := PA.weak pa_nil (by
  rintro σ H Q ⟨Pr, m, env, S, er, sr, h⟩
  exact h m H [] .refl sr .nil)
theorem pa_mCons (ha : PE X e (tM X.K E f)) (hr : PA X es (tMA X.K E g)) (hs : starEach (e :: es) X.env = (false, eval e X.env) :: starEach es X.env) : PA X (e :: es) (tMA X.K E (mCons f g)) := by
  refine PA.weak (pa_cons ha hr hs) ?_
  rintro σ H Q ⟨Pr, m, env, S, er, sr, h⟩
  refine ⟨Pr, m, env, S, er, sr, ?_⟩
  cases h1 : f env S with
  | bad => simp only [mCons, h1, Out.bind_bad] at h
  | ex x S1 => simp only [mCons, h1, Out.bind_ex] at h; exact h
  | ok w S1 =>
    simp only [mCons, h1, Out.bind_ok] at h
    intro m1 H1 v1 e1 s1 r1
    refine ⟨Pr, m1, env, S1, er.ext e1, s1, ?_⟩
    cases h2 : g env S1 with
    | bad => simp only [h2, Out.bind_bad] at h
    | ex x S2 => simp only [h2, Out.bind_ex] at h; exact h.ext e1
    | ok ws S2 =>
      simp only [h2, Out.bind_ok] at h
      intro m2 H2 vs e2 s2 r2
      exact h m2 H2 (v1 :: vs) (e1.trans e2) s2 (.cons (r1.ext e2) r2)
theorem line_eq : (sizeLine : Nat) = 16777216 := sizeLine_eq
theorem pe_mTup {x1} (hl : es.length ≤ 16777216) (h : PA X es (tMA X.K E g)) : PE X (.Tuple es x1 pos) (tM X.K E (fun env S => (g env S).bind fun ws S1 => Out.opt (if ws.length ≤ 16777216 then (allU ws).map fun us => .val (.tuple us) else none) S1)) := by
  refine PE.weak (pe_tup h) ?_
  rintro σ H Q ⟨Pr, m, env, S, er, sr, h⟩
  refine ⟨Pr, m, env, S, er, sr, ?_⟩
  cases h1 : g env S with
  | bad => simp only [h1, Out.bind_bad] at h
  | ex x S1 => simp only [h1, Out.bind_ex] at h; exact h
  | ok ws S1 =>
    simp only [h1, Out.bind_ok] at h
    intro m1 H1 vs e1 s1 r1
    by_cases hz : ws.length ≤ 16777216
    · rw [if_pos hz] at h
      cases h2 : allU ws with
      | none => simp only [h2, Option.map_none, Out.opt_none] at h
      | some us =>
        simp only [h2, Option.map_some, Out.opt_some] at h
        refine ⟨by rw [← r1.length, line_eq]; exact hz, fun p hp => (h.ext e1).tup s1 (allU_ok r1 h2) hp⟩
    · rw [if_neg hz] at h
      simp only [Out.opt_none] at h
end
end Rb

/-! Rb3: operators, comparisons, truth, tests. -/
namespace Rb
open PySem PySem.Spec PyProof.Rows L2

/-! ### two operands -/
abbrev G2 := Store → W → W → Option W
def m2 (g : G2) (f1 f2 : M) : M := fun env S => (f1 env S).bind fun x S1 => (f2 env S1).bind fun y S2 => Out.opt (g S2 x y) S2
/-- what is asked of two values by g -/
def rG (K : PySem.W.Frag) (g : G2) : R2 := fun v1 v2 H Q => ∃ Pr m S x y w, SR K Pr m H S ∧ WR K Pr m H x v1 ∧ WR K Pr m H y v2 ∧ g S x y = some w ∧ Ret K Pr m H S w Q
theorem OpR.weak {X : Cx} {f : Value → Value → Sem Value} {r r' : R2} (h : OpR X f r) (k : ∀ x y H Q, r' x y H Q → r x y H Q) : OpR X f r' :=
  fun pins s σ H x y v u Q I rx ry q => h pins s σ H x y v u Q I rx ry (k x y H Q q)
/-- the operands, then g: as the reading of an operation by values -/
theorem m2_read {K : PySem.W.Frag} {E : XK} {g : G2} {f1 f2 : M} {r : R2} (hr : ∀ x y H Q, rG K g x y H Q → r x y H Q) : ∀ σ H Q, tM K E (m2 g f1 f2) σ H Q → tOp r (tM K E f1) (tM K E f2) σ H Q := by
  rintro σ H Q ⟨Pr, m, env, S, er, sr, h⟩
  refine ⟨Pr, m, env, S, er, sr, ?_⟩
  cases h1 : f1 env S with
  | bad => simp only [m2, h1, Out.bind_bad] at h
  | ex x S1 => simp only [m2, h1, Out.bind_ex] at h; exact h
  | ok w S1 =>
    simp only [m2, h1, Out.bind_ok] at h
    intro m1 H1 v1 e1 s1 r1
    refine ⟨Pr, m1, env, S1, er.ext e1, s1, ?_⟩
    cases h2 : f2 env S1 with
    | bad => simp only [h2, Out.bind_bad] at h
    | ex x S2 => simp only [h2, Out.bind_ex] at h; exact h.ext e1
    | ok w2 S2 =>
      simp only [h2, Out.bind_ok] at h
      intro m2 H2 v2 e2 s2 r2
      cases h3 : g S2 w w2 with
      | none => simp only [h3, Out.opt_none] at h
      | some z =>
        simp only [h3, Out.opt_some] at h
        exact hr _ _ _ _ ⟨Pr, m2, S2, w, w2, z, s2, r1.ext e2, r2, h3, h.ext (e1.trans e2)⟩
theorem pe_m2 {X : Cx} {E : XK} {a b : Expr} {pos : Pos} {op : Operator} {g : G2} {f1 f2 : M} (ho : OpR X (binaryOp op) (rG X.K g)) (ha : PE X a (tM X.K E f1)) (hb : PE X b (tM X.K E f2)) : PE X (.BinOp a op b pos) (tM X.K E (m2 g f1 f2)) :=
  PE.weak (pe_op ho ha hb) (m2_read fun _ _ _ _ q => q)
theorem pe_m2c {X : Cx} {E : XK} {a b : Expr} {pos : Pos} {op : CmpOp} {g : G2} {f1 f2 : M} (ho : OpR X (compareOp op) (rG X.K g)) (ha : PE X a (tM X.K E f1)) (hb : PE X b (tM X.K E f2)) (hm : behindInMarks op b = false) : PE X (.Compare a [op] [b] pos) (tM X.K E (m2 g f1 f2)) :=
  PE.weak (pe_cmpR ho ha hb hm) (m2_read fun _ _ _ _ q => q)

def uInt : W → Option Int
  | .val (.int i) => some i
  | _ => none
def uStr : W → Option Str
  | .val (.str x) => some x
  | _ => none
theorem uInt_ok {K : PySem.W.Frag} {Pr m : List Addr} {H : Hp} {w : W} {v : V} (r : WR K Pr m H w v) {i : Int} (h : uInt w = some i) : v = .int i := by
  cases r with
  | val r => cases r <;> cases h; rfl
  | loc _ => cases h
theorem uStr_ok {K : PySem.W.Frag} {Pr m : List Addr} {H : Hp} {w : W} {v : V} (r : WR K Pr m H w v) {i : Str} (h : uStr w = some i) : v = .str i := by
  cases r with
  | val r => cases r <;> cases h; rfl
  | loc _ => cases h
/-- ints alone -/
def gI (c : Int → Int → Bool) (f : Int → Int → U) : G2 := fun _ x y => match uInt x, uInt y with
  | some i, some j => if c i j = true then some (.val (f i j)) else none
  | _, _ => none
theorem gI_ok {K : PySem.W.Frag} {c : Int → Int → Bool} {f : Int → Int → U} {v1 v2 : V} {H : Hp} {Q : VK} (h : rG K (gI c f) v1 v2 H Q) : ∃ i j, v1 = .int i ∧ v2 = .int j ∧ c i j = true ∧ ∃ Pr m S, SR K Pr m H S ∧ Ret K Pr m H S (.val (f i j)) Q := by
  obtain ⟨Pr, m, S, x, y, w, s, r1, r2, hg, q⟩ := h
  unfold gI at hg
  cases e1 : uInt x with
  | none => simp only [e1] at hg; cases hg
  | some i =>
    cases e2 : uInt y with
    | none => simp only [e1, e2] at hg; cases hg
    | some j =>
      simp only [e1, e2] at hg
      by_cases hc : c i j = true
      · rw [if_pos hc] at hg; cases hg
        exact ⟨i, j, uInt_ok r1 e1, uInt_ok r2 e2, hc, Pr, m, S, s, q⟩
      · rw [if_neg hc] at hg; cases hg
theorem rI0_of {K : PySem.W.Frag} {g : Int → Int → Int} {v1 v2 : V} {H : Hp} {Q : VK} {c : Int → Int → Bool} (h : rG K (gI c fun i j => .int (g i j)) v1 v2 H Q) : rI0 (fun i j => .int (g i j)) v1 v2 H Q := by
  obtain ⟨i, j, rfl, rfl, _, Pr, m, S, s, q⟩ := gI_ok h
  exact ⟨i, j, rfl, rfl, q.int s⟩
theorem rI_of {K : PySem.W.Frag} {g : Int → Int → Int} {C : Int → Int → Prop} {v1 v2 : V} {H : Hp} {Q : VK} {c : Int → Int → Bool} (hc : ∀ i j, c i j = true → C i j) (h : rG K (gI c fun i j => .int (g i j)) v1 v2 H Q) : rI C (fun i j => .int (g i j)) v1 v2 H Q := by
  obtain ⟨i, j, rfl, rfl, h1, Pr, m, S, s, q⟩ := gI_ok h
  exact ⟨i, j, rfl, rfl, hc i j h1, q.int s⟩
theorem rB_of {K : PySem.W.Frag} {g : Int → Int → Bool} {v1 v2 : V} {H : Hp} {Q : VK} {c : Int → Int → Bool} (h : rG K (gI c fun i j => .bool (g i j)) v1 v2 H Q) : rI0 (fun i j => .bl (g i j)) v1 v2 H Q := by
  obtain ⟨i, j, rfl, rfl, _, Pr, m, S, s, q⟩ := gI_ok h
  exact ⟨i, j, rfl, rfl, q.bl s⟩

/-! ### the operators -/
def okT (_ _ : Int) : Bool := true
def okMul (i j : Int) : Bool := decide (-(2 ^ 64) < i ∧ i < 2 ^ 64) || decide (-(2 ^ 64) < j ∧ j < 2 ^ 64)
def okDiv (_ j : Int) : Bool := decide (0 < j ∧ j < 1073741824)
def okMod (_ j : Int) : Bool := decide (0 < j)
def okPow (i j : Int) : Bool := decide (0 ≤ j ∧ j ≤ 1000000 ∧ i.natAbs < 2 ^ 64)
def okShr (_ j : Int) : Bool := decide (0 ≤ j)
/-- a new sequence -/
def mkSeq (b : Bool) (us : List U) : U := if b = true then .list us else .tuple us
def gCat : G2 := fun S x y => match seqU S x, seqU S y with
  | some (b, us), some (c, ws) => if b = c ∧ us.length + ws.length ≤ 16777216 then some (.val (mkSeq b (us ++ ws))) else none
  | _, _ => none
def gAddS : G2 := fun _ x y => match uStr x, uStr y with
  | some a, some b => if a.length + b.length ≤ 16777216 then some (.val (.str (a ++ b))) else none
  | _, _ => none
def gAdd : G2 := fun S x y => match x with
  | .val (.int _) => gI okT (fun i j => .int (i + j)) S x y
  | .val (.str _) => gAddS S x y
  | _ => gCat S x y
def gRep : G2 := fun S x y => match seqU S x, uInt y with
  | some (true, us), some k => if -(2 ^ 63) ≤ k ∧ k < 2 ^ 63 ∧ us.length * k.toNat ≤ 16777216 then some (.val (.list (List.replicate k.toNat us).flatten)) else none
  | _, _ => none
def gMul : G2 := fun S x y => match x with
  | .val (.int _) => gI okMul (fun i j => .int (i * j)) S x y
  | _ => gRep S x y
def gSub : G2 := gI okT fun i j => .int (i - j)
def gDiv : G2 := gI okDiv fun i j => .int (i / j)
def gMod : G2 := gI okMod fun i j => .int (i % j)
def gPow : G2 := gI okPow fun i j => .int (i ^ j.toNat)
def gShl : G2 := gI okPow fun i j => .int (i * 2 ^ j.toNat)
def gShr : G2 := gI okShr fun i j => .int (i / 2 ^ j.toNat)
def gAnd : G2 := gI okT fun i j => .int (Builtin.bitAnd i j)
def gOr : G2 := gI okT fun i j => .int (Builtin.bitOr i j)
section
variable {X : Cx}
theorem seq_inj {K : PySem.W.Frag} {H : Hp} {a : Addr} {xs ys : List V} {b : Bool} (h : SqAt K H true a xs) (k : H a = some (.lst ys)) : xs = ys := by
  have h : H a = some (.lst xs) := h
  rw [h] at k; cases k; rfl
theorem gCat_ok {v1 v2 : V} {H : Hp} {Q : VK} (h : rG X.K gCat v1 v2 H Q) : rCatA X.K v1 v2 H Q ∨ rCat v1 v2 H Q := by
  obtain ⟨Pr, m, S, x, y, w, s, r1, r2, hg, q⟩ := h
  unfold gCat at hg
  cases e1 : seqU S x with
  | none => simp only [e1] at hg; cases hg
  | some p =>
    obtain ⟨b, us⟩ := p
    cases e2 : seqU S y with
    | none => simp only [e1, e2] at hg; cases hg
    | some p =>
      obtain ⟨c, ws⟩ := p
      simp only [e1, e2] at hg
      by_cases hc : b = c ∧ us.length + ws.length ≤ 16777216
      · rw [if_pos hc] at hg; cases hg
        obtain ⟨rfl, hl⟩ := hc
        obtain ⟨a1, xs, rfl, h1, h2⟩ := seqU_ok s r1 e1
        obtain ⟨a2, ys, rfl, h3, h4⟩ := seqU_ok s r2 e2
        have hz : xs.length + ys.length ≤ sizeLine := by rw [line_eq, ← h2.length, ← h4.length]; exact hl
        cases b with
        | true => exact .inr ⟨a1, a2, xs, ys, rfl, rfl, h1, h3, hz, fun p hp => q.lst s (h2.append h4) hp⟩
        | false =>
          refine .inl ⟨a1, a2, xs, ys, rfl, rfl, h1, h3, hz, fun e => ?_, fun e e' => ?_, fun _ _ p hp => q.tup s (h2.append h4) hp⟩
          · subst e
            cases h2
            exact q.here s (.val (.tup h3 h4))
          · subst e'
            cases h4
            refine q.here s (.val ?_)
            show UR _ _ _ (.tuple (us ++ [])) _
            rw [List.append_nil]
            exact .tup h1 h2
      · rw [if_neg hc] at hg; cases hg
theorem gAddS_ok {v1 v2 : V} {H : Hp} {Q : VK} (h : rG X.K gAddS v1 v2 H Q) : ∃ i j, v1 = .str i ∧ v2 = .str j ∧ i.length + j.length ≤ sizeLine ∧ Q (.str (i ++ j)) H := by
  obtain ⟨Pr, m, S, x, y, w, s, r1, r2, hg, q⟩ := h
  unfold gAddS at hg
  cases e1 : uStr x with
  | none => simp only [e1] at hg; cases hg
  | some i =>
    cases e2 : uStr y with
    | none => simp only [e1, e2] at hg; cases hg
    | some j =>
      simp only [e1, e2] at hg
      by_cases hc : i.length + j.length ≤ 16777216
      · rw [if_pos hc] at hg; cases hg
        exact ⟨i, j, uStr_ok r1 e1, uStr_ok r2 e2, by rw [line_eq]; exact hc, q.str s⟩
      · rw [if_neg hc] at hg; cases hg
theorem og_add : OpR X (binaryOp .Add) (rG X.K gAdd) := by
  refine OpR.weak ((op_add (X := X)).or (op_add_str.or (op_catA.or op_cat))) ?_
  rintro v1 v2 H Q ⟨Pr, m, S, x, y, w, s, r1, r2, hg, q⟩
  have k : ∀ g, g S x y = some w → rG X.K g v1 v2 H Q := fun g hg => ⟨Pr, m, S, x, y, w, s, r1, r2, hg, q⟩
  unfold gAdd at hg
  split at hg
  · exact .inl (rI0_of (k _ hg))
  · exact .inr (.inl (gAddS_ok (k _ hg)))
  · exact .inr (.inr (gCat_ok (k _ hg)))
theorem gRep_ok {v1 v2 : V} {H : Hp} {Q : VK} (h : rG X.K gRep v1 v2 H Q) : rRep v1 v2 H Q := by
  obtain ⟨Pr, m, S, x, y, w, s, r1, r2, hg, q⟩ := h
  unfold gRep at hg
  cases e1 : seqU S x with
  | none => simp only [e1] at hg; cases hg
  | some p =>
    obtain ⟨b, us⟩ := p
    cases b with
    | false => simp only [e1] at hg; cases hg
    | true =>
      cases e2 : uInt y with
      | none => simp only [e1, e2] at hg; cases hg
      | some k =>
        simp only [e1, e2] at hg
        by_cases hc : -(2 ^ 63) ≤ k ∧ k < 2 ^ 63 ∧ us.length * k.toNat ≤ 16777216
        · rw [if_pos hc] at hg; cases hg
          obtain ⟨a1, xs, rfl, h1, h2⟩ := seqU_ok s r1 e1
          have hz : xs.length * k.toNat ≤ sizeLine := by rw [line_eq, ← h2.length]; exact hc.2.2
          refine ⟨a1, k, xs, rfl, uInt_ok r2 e2, h1, hc.1, hc.2.1, hz, fun p hp => q.lst s ?_ hp⟩
          generalize k.toNat = n
          induction n with
          | zero => exact .nil
          | succ n ih => rw [List.replicate_succ, List.replicate_succ, List.flatten_cons, List.flatten_cons]; exact h2.append ih
        · rw [if_neg hc] at hg; cases hg
theorem og_mul : OpR X (binaryOp .Mult) (rG X.K gMul) := by
  refine OpR.weak ((op_mul (X := X)).or op_rep) ?_
  rintro v1 v2 H Q ⟨Pr, m, S, x, y, w, s, r1, r2, hg, q⟩
  have k : ∀ g, g S x y = some w → rG X.K g v1 v2 H Q := fun g hg => ⟨Pr, m, S, x, y, w, s, r1, r2, hg, q⟩
  unfold gMul at hg
  split at hg
  · refine .inl (rI_of (fun i j h => ?_) (k _ hg))
    unfold okMul at h
    simp only [Bool.or_eq_true, decide_eq_true_eq] at h
    exact h
  · exact .inr (gRep_ok (k _ hg))
theorem og_sub : OpR X (binaryOp .Sub) (rG X.K gSub) := OpR.weak op_sub fun _ _ _ _ h => rI0_of h
theorem og_div : OpR X (binaryOp .FloorDiv) (rG X.K gDiv) := OpR.weak op_fdiv fun _ _ _ _ h => rI_of (fun i j h => of_decide_eq_true (p := 0 < j ∧ j < 1073741824) h) h
theorem og_mod : OpR X (binaryOp .Mod) (rG X.K gMod) := OpR.weak op_mod fun _ _ _ _ h => rI_of (fun i j h => of_decide_eq_true (p := 0 < j) h) h
theorem og_pow : OpR X (binaryOp .Pow) (rG X.K gPow) := OpR.weak op_pow fun _ _ _ _ h => rI_of (fun i j h => of_decide_eq_true (p := 0 ≤ j ∧ j ≤ 1000000 ∧ i.natAbs < 2 ^ 64) h) h
theorem og_shl : OpR X (binaryOp .LShift) (rG X.K gShl) := OpR.weak op_shl fun _ _ _ _ h => rI_of (fun i j h => of_decide_eq_true (p := 0 ≤ j ∧ j ≤ 1000000 ∧ i.natAbs < 2 ^ 64) h) h
theorem og_shr : OpR X (binaryOp .RShift) (rG X.K gShr) := OpR.weak op_shr fun _ _ _ _ h => rI_of (fun i j h => of_decide_eq_true (p := 0 ≤ j) h) h
theorem og_and : OpR X (binaryOp .BitAnd) (rG X.K gAnd) := OpR.weak op_and fun _ _ _ _ h => rI0_of h
theorem og_or : OpR X (binaryOp .BitOr) (rG X.K gOr) := OpR.weak op_or fun _ _ _ _ h => rI0_of h
end
def gBin : Operator → Option G2
  | .Add => some gAdd
  | .Sub => some gSub
  | .Mult => some gMul
  | .FloorDiv => some gDiv
  | .Mod => some gMod
  | .Pow => some gPow
  | .LShift => some gShl
  | .RShift => some gShr
  | .BitAnd => some gAnd
  | .BitOr => some gOr
  | _ => none
theorem gBin_ok {X : Cx} {op : Operator} {g : G2} (h : gBin op = some g) : OpR X (binaryOp op) (rG X.K g) := by
  cases op <;> cases h
  all_goals first | exact og_add | exact og_sub | exact og_mul | exact og_mod | exact og_pow | exact og_shl | exact og_shr | exact og_or | exact og_and | exact og_div

/-! ### comparisons -/
def gLtI : G2 := gI okT fun i j => .bool (decide (i < j))
def intsU : List U → Option (List Int)
  | [] => some []
  | .int i :: r => (intsU r).map (i :: ·)
  | _ :: _ => none
theorem intsU_eq : ∀ {us : List U} {ns : List Int}, intsU us = some ns → us = ns.map .int
  | [], ns, h => by cases h; rfl
  | .int i :: r, ns, h => by
    simp only [intsU, Option.map_eq_some_iff] at h
    obtain ⟨ns', h1, rfl⟩ := h
    rw [intsU_eq h1]; rfl
  | .none :: _, _, h => by cases h
  | .bool _ :: _, _, h => by cases h
  | .str _ :: _, _, h => by cases h
  | .list _ :: _, _, h => by cases h
  | .tuple _ :: _, _, h => by cases h
  | .dict _ :: _, _, h => by cases h
theorem intsU_map : ∀ ns : List Int, intsU (ns.map .int) = some ns
  | [] => rfl
  | n :: ns => by show (intsU (ns.map .int)).map _ = _; rw [intsU_map ns]; rfl
def gLtT : G2 := fun _ x y => match x, y with
  | .val (.tuple us), .val (.tuple ws) => (match intsU us, intsU ws with
    | some ns, some ms => some (.val (.bool (HT.lexLt ns ms)))
    | _, _ => none)
  | _, _ => none
def gLt : G2 := fun S x y => match x with
  | .val (.int _) => gLtI S x y
  | _ => gLtT S x y
def gLe : G2 := gI okT fun i j => .bool (decide (i ≤ j))
def gGt : G2 := gI okT fun i j => .bool (decide (j < i))
def gGe : G2 := gI okT fun i j => .bool (decide (j ≤ i))
def gEq : G2 := fun S x y => match rdU S x, rdU S y with
  | some a, some b => if (SeqAt.shaped a && SeqAt.shaped b) = true then some (.val (.bool (PyData.eqv a b))) else none
  | _, _ => none
def gNe : G2 := fun S x y => match rdU S x, rdU S y with
  | some a, some b => if (SeqAt.shaped a && SeqAt.shaped b) = true then some (.val (.bool (!PyData.eqv a b))) else none
  | _, _ => none
def isNon : W → Bool
  | .val .none => true
  | _ => false
def gIs : G2 := fun _ x y => match y with
  | .val .none => some (.val (.bool (isNon x)))
  | _ => none
def gIsN : G2 := fun _ x y => match y with
  | .val .none => some (.val (.bool (!isNon x)))
  | _ => none
def gInQ (neg : Bool) : G2 := fun S x y => match rdU S x, seqU S y with
  | some d, some (_, ds) => if (SeqAt.shaped d && PyData.canLayAll0 ds) = true then some (.val (.bool (neg != ds.any fun z => PyData.eqv z d))) else none
  | _, _ => none
def gInS (neg : Bool) : G2 := fun _ x y => match uStr x, uStr y with
  | some i, some j => some (.val (.bool (neg != !(Builtin.Str.occurrences j i 0 j.length 1).isEmpty)))
  | _, _ => none
def gInN (neg : Bool) : G2 := fun S x y => match y with
  | .val (.str _) => gInS neg S x y
  | _ => gInQ neg S x y
theorem isNon_ok {K : PySem.W.Frag} {Pr m : List Addr} {H : Hp} {w : W} {v : V} (r : WR K Pr m H w v) : decide (v = .non) = isNon w := by
  cases r with
  | val r => cases r <;> rfl
  | loc _ => rfl
section
variable {X : Cx}
theorem oc_lt (hu : X.A.units < cLine) : OpR X (compareOp .Lt) (rG X.K gLt) := by
  refine OpR.weak ((op_lt (X := X)).or (op_ltT hu)) ?_
  rintro v1 v2 H Q ⟨Pr, m, S, x, y, w, s, r1, r2, hg, q⟩
  have k : ∀ g, g S x y = some w → rG X.K g v1 v2 H Q := fun g hg => ⟨Pr, m, S, x, y, w, s, r1, r2, hg, q⟩
  unfold gLt at hg
  split at hg
  · exact .inl (rB_of (k _ hg))
  · unfold gLtT at hg
    split at hg
    · rename_i us ws _
      cases e1 : intsU us with
      | none => simp only [e1] at hg; cases hg
      | some ns =>
        cases e2 : intsU ws with
        | none => simp only [e1, e2] at hg; cases hg
        | some ms =>
          simp only [e1, e2] at hg
          cases hg
          cases r1 with
          | val r1 =>
            cases r1 with
            | tup h1 h2 =>
              cases r2 with
              | val r2 =>
                cases r2 with
                | tup h3 h4 =>
                  rw [intsU_eq e1] at h2
                  rw [intsU_eq e2] at h4
                  rw [h2.ints] at h1
                  rw [h4.ints] at h3
                  exact .inr ⟨_, _, ns, ms, rfl, rfl, h1, h3, q.bl s⟩
    · cases hg
theorem oc_le : OpR X (compareOp .LtE) (rG X.K gLe) := OpR.weak op_le fun _ _ _ _ h => rB_of h
theorem oc_gt : OpR X (compareOp .Gt) (rG X.K gGt) := OpR.weak op_gt fun _ _ _ _ h => rB_of h
theorem oc_ge : OpR X (compareOp .GtE) (rG X.K gGe) := OpR.weak op_ge fun _ _ _ _ h => rB_of h
theorem oc_eq (hu : X.A.units + 64 < cLine) : OpR X (compareOp .Eq) (rG X.K gEq) := by
  refine OpR.weak (op_eqD hu) ?_
  rintro v1 v2 H Q ⟨Pr, m, S, x, y, w, s, r1, r2, hg, q⟩
  unfold gEq at hg
  cases e1 : rdU S x with
  | none => simp only [e1] at hg; cases hg
  | some a =>
    cases e2 : rdU S y with
    | none => simp only [e1, e2] at hg; cases hg
    | some b =>
      simp only [e1, e2] at hg
      by_cases hc : (SeqAt.shaped a && SeqAt.shaped b) = true
      · rw [if_pos hc] at hg; cases hg
        rw [Bool.and_eq_true] at hc
        exact ⟨a, b, (rdU_ok s r1 e1).dp, (rdU_ok s r2 e2).dp, hc.1, hc.2, q.bl s⟩
      · rw [if_neg hc] at hg; cases hg
theorem oc_ne (hu : X.A.units + 64 < cLine) : OpR X (compareOp .NotEq) (rG X.K gNe) := by
  refine OpR.weak (op_neD hu) ?_
  rintro v1 v2 H Q ⟨Pr, m, S, x, y, w, s, r1, r2, hg, q⟩
  unfold gNe at hg
  cases e1 : rdU S x with
  | none => simp only [e1] at hg; cases hg
  | some a =>
    cases e2 : rdU S y with
    | none => simp only [e1, e2] at hg; cases hg
    | some b =>
      simp only [e1, e2] at hg
      by_cases hc : (SeqAt.shaped a && SeqAt.shaped b) = true
      · rw [if_pos hc] at hg; cases hg
        rw [Bool.and_eq_true] at hc
        exact ⟨a, b, (rdU_ok s r1 e1).dp, (rdU_ok s r2 e2).dp, hc.1, hc.2, q.bl s⟩
      · rw [if_neg hc] at hg; cases hg
theorem oc_is : OpR X (compareOp .Is) (rG X.K gIs) := by
  refine OpR.weak op_isN ?_
  rintro v1 v2 H Q ⟨Pr, m, S, x, y, w, s, r1, r2, hg, q⟩
  unfold gIs at hg
  split at hg
  · cases hg
    cases r2 with
    | val r2 => cases r2; exact ⟨rfl, by rw [isNon_ok r1]; exact q.bl s⟩
  · cases hg
theorem oc_isN : OpR X (compareOp .IsNot) (rG X.K gIsN) := by
  refine OpR.weak op_notN ?_
  rintro v1 v2 H Q ⟨Pr, m, S, x, y, w, s, r1, r2, hg, q⟩
  unfold gIsN at hg
  split at hg
  · cases hg
    cases r2 with
    | val r2 => cases r2; exact ⟨rfl, by rw [isNon_ok r1]; exact q.bl s⟩
  · cases hg
/-- in, not in, by data of any depth -/
def rInX (K : PySem.W.Frag) (neg : Bool) : R2 := fun x y H Q => ∃ d ds, Dp K H x d ∧ (Dp K H y (.list ds) ∨ Dp K H y (.tuple ds)) ∧ SeqAt.shaped d = true ∧ PyData.canLayAll0 ds = true ∧ Q (.bl (neg != ds.any fun z => PyData.eqv z d)) H
theorem op_inX (hu : X.A.units + 65 < cLine) : OpR X (compareOp .In) (rInX X.K false) := by
  intro pins s σ H x y v u Q I rx ry h
  obtain ⟨d, ds, hd, he, sd, se, q⟩ := h
  rw [Bool.false_bne] at q
  obtain ⟨as, r1⟩ := Dp.reads I d x v hd rx
  rcases he with he | he
  · obtain ⟨bs, r2⟩ := Dp.reads I (.list ds) y u he ry
    exact SeqAt.in_list_reads r2 r1 se (SeqAt.canLay_of_shaped sd) (room_in_shaped sd hu) ⟨.bl _, H, I, rfl, q⟩
  · obtain ⟨bs, r2⟩ := Dp.reads I (.tuple ds) y u he ry
    exact SeqAt.in_tuple_reads r2 r1 se (SeqAt.canLay_of_shaped sd) (room_in_shaped sd hu) ⟨.bl _, H, I, rfl, q⟩
theorem op_notInX (hu : X.A.units + 65 < cLine) : OpR X (compareOp .NotIn) (rInX X.K true) := by
  intro pins s σ H x y v u Q I rx ry h
  obtain ⟨d, ds, hd, he, sd, se, q⟩ := h
  rw [Bool.true_bne] at q
  obtain ⟨as, r1⟩ := Dp.reads I d x v hd rx
  rcases he with he | he
  · obtain ⟨bs, r2⟩ := Dp.reads I (.list ds) y u he ry
    exact SeqAt.notIn_list_reads r2 r1 se (SeqAt.canLay_of_shaped sd) (room_in_shaped sd hu) ⟨.bl _, H, I, rfl, q⟩
  · obtain ⟨bs, r2⟩ := Dp.reads I (.tuple ds) y u he ry
    exact SeqAt.notIn_tuple_reads r2 r1 se (SeqAt.canLay_of_shaped sd) (room_in_shaped sd hu) ⟨.bl _, H, I, rfl, q⟩
theorem seqU_dp {Pr m : List Addr} {H : Hp} {S : Store} {w : W} {v : V} {b : Bool} {ds : List U} (s : SR X.K Pr m H S) (r : WR X.K Pr m H w v) (h : seqU S w = some (b, ds)) : Dp X.K H v (.list ds) ∨ Dp X.K H v (.tuple ds) := by
  obtain ⟨a, xs, rfl, h1, h2⟩ := seqU_ok s r h
  cases b with
  | true => exact .inl (.lst (SqL.of h1) h2.dp)
  | false => exact .inr (.tup h1 h2.dp)
theorem gInQ_ok {neg : Bool} {v1 v2 : V} {H : Hp} {Q : VK} (h : rG X.K (gInQ neg) v1 v2 H Q) : rInX X.K neg v1 v2 H Q := by
  obtain ⟨Pr, m, S, x, y, w, s, r1, r2, hg, q⟩ := h
  unfold gInQ at hg
  cases e1 : rdU S x with
  | none => simp only [e1] at hg; cases hg
  | some d =>
    cases e2 : seqU S y with
    | none => simp only [e1, e2] at hg; cases hg
    | some p =>
      obtain ⟨b, ds⟩ := p
      simp only [e1, e2] at hg
      by_cases hc : (SeqAt.shaped d && PyData.canLayAll0 ds) = true
      · rw [if_pos hc] at hg; cases hg
        rw [Bool.and_eq_true] at hc
        exact ⟨d, ds, (rdU_ok s r1 e1).dp, seqU_dp s r2 e2, hc.1, hc.2, q.bl s⟩
      · rw [if_neg hc] at hg; cases hg
theorem gInS_ok {neg : Bool} {v1 v2 : V} {H : Hp} {Q : VK} (h : rG X.K (gInS neg) v1 v2 H Q) : ∃ i j, v1 = .str i ∧ v2 = .str j ∧ Q (.bl (neg != !(Builtin.Str.occurrences j i 0 j.length 1).isEmpty)) H := by
  obtain ⟨Pr, m, S, x, y, w, s, r1, r2, hg, q⟩ := h
  unfold gInS at hg
  cases e1 : uStr x with
  | none => simp only [e1] at hg; cases hg
  | some d =>
    cases e2 : uStr y with
    | none => simp only [e1, e2] at hg; cases hg
    | some p => simp only [e1, e2] at hg; cases hg; exact ⟨d, p, uStr_ok r1 e1, uStr_ok r2 e2, q.bl s⟩
theorem oc_in (hu : X.A.units + 65 < cLine) : OpR X (compareOp .In) (rG X.K (gInN false)) := by
  refine OpR.weak ((op_in_str (X := X)).or (op_inX hu)) ?_
  rintro v1 v2 H Q ⟨Pr, m, S, x, y, w, s, r1, r2, hg, q⟩
  have k : ∀ g, g S x y = some w → rG X.K g v1 v2 H Q := fun g hg => ⟨Pr, m, S, x, y, w, s, r1, r2, hg, q⟩
  unfold gInN at hg
  split at hg
  · have z := gInS_ok (k _ hg)
    simp only [Bool.false_bne] at z
    exact .inl z
  · exact .inr (gInQ_ok (k _ hg))
theorem oc_notIn (hu : X.A.units + 65 < cLine) : OpR X (compareOp .NotIn) (rG X.K (gInN true)) := by
  refine OpR.weak ((op_notIn_str (X := X)).or (op_notInX hu)) ?_
  rintro v1 v2 H Q ⟨Pr, m, S, x, y, w, s, r1, r2, hg, q⟩
  have k : ∀ g, g S x y = some w → rG X.K g v1 v2 H Q := fun g hg => ⟨Pr, m, S, x, y, w, s, r1, r2, hg, q⟩
  unfold gInN at hg
  split at hg
  · have z := gInS_ok (k _ hg)
    simp only [Bool.true_bne] at z
    exact .inl z
  · exact .inr (gInQ_ok (k _ hg))
end
def gCmp : CmpOp → Option G2
  | .Lt => some gLt
  | .LtE => some gLe
  | .Gt => some gGt
  | .GtE => some gGe
  | .Eq => some gEq
  | .NotEq => some gNe
  | .Is => some gIs
  | .IsNot => some gIsN
  | .In => some (gInN false)
  | .NotIn => some (gInN true)
theorem gCmp_ok {X : Cx} (hu : X.A.units + 65 < cLine) {op : CmpOp} {g : G2} (h : gCmp op = some g) : OpR X (compareOp op) (rG X.K g) := by
  have h1 : X.A.units < cLine := by omega
  have h2 : X.A.units + 64 < cLine := by omega
  cases op <;> cases h
  all_goals first | exact oc_lt h1 | exact oc_le | exact oc_gt | exact oc_ge | exact oc_eq h2 | exact oc_ne h2 | exact oc_is | exact oc_isN | exact oc_in hu | exact oc_notIn hu
end Rb

/-! Rb4: not, -, and, or, if-expressions, tests, chains, subscripts, slices. -/
namespace Rb
open PySem PySem.Spec PyProof.Rows L2

/-! ### truth -/
def trU : U → Option Bool
  | .none => some false
  | .bool b => some b
  | .int i => some (i != 0)
  | .str y => if y.length ≤ 16777216 then some ((y.length : Int) != 0) else none
  | .tuple us => some (!us.isEmpty)
  | .list us => some (!us.isEmpty)
  | .dict _ => none
def trO : Option O → Option Bool
  | some (.lst us) => some (!us.isEmpty)
  | some (.lol ns) => some (!ns.isEmpty)
  | _ => none
def tru (S : Store) : W → Option Bool
  | .val u => trU u
  | .loc n => trO S[n]?
theorem URs.empty {K : PySem.W.Frag} {A : List Addr} {H : Hp} {us : List U} {vs : List V} (h : URs K A H us vs) : (!us.isEmpty) = !vs.isEmpty := by cases h <;> rfl
theorem tru_V {K : PySem.W.Frag} {Pr m : List Addr} {H : Hp} {S : Store} {w : W} {v : V} {b : Bool} (s : SR K Pr m H S) (r : WR K Pr m H w v) (h : tru S w = some b) : TruV K v H b := by
  cases r with
  | val r =>
    have h : trU _ = some b := h
    cases r with
    | non => cases h; rfl
    | bl c => cases h; rfl
    | int i => cases h; rfl
    | str y =>
      have h : (if y.length ≤ 16777216 then some ((y.length : Int) != 0) else none) = some b := h
      by_cases z : y.length ≤ 16777216
      · rw [if_pos z] at h; cases h
        exact ⟨by rw [line_eq]; exact z, rfl⟩
      · rw [if_neg z] at h; cases h
    | tup h1 h2 => cases h; exact .inr (.inl ⟨_, h1, h2.empty⟩)
    | lst h0 h1 h2 => cases h; exact .inl ⟨_, SqL.of h1, h2.empty⟩
  | @loc n a e =>
    have h : trO S[n]? = some b := h
    cases hs : S[n]? with
    | none => rw [hs] at h; cases h
    | some ob =>
      rw [hs] at h
      obtain ⟨a', e', o⟩ := s.at hs
      rw [e] at e'; cases e'
      cases o with
      | lst e1 e2 => cases h; exact .inl ⟨_, SqL.of e1, e2.empty⟩
      | lol e1 e2 => cases h; exact .inl ⟨_, SqL.of e1, by cases e2 <;> rfl⟩
      | scr e1 => cases h

/-! ### not, - -/
abbrev G1 := Store → W → Option W
def m1 (g : G1) (f : M) : M := fun env S => (f env S).bind fun x S1 => Out.opt (g S1 x) S1
def rG1 (K : PySem.W.Frag) (g : G1) : V → Hp → VK → Prop := fun v H Q => ∃ Pr m S x w, SR K Pr m H S ∧ WR K Pr m H x v ∧ g S x = some w ∧ Ret K Pr m H S w Q
theorem m1_read {K : PySem.W.Frag} {E : XK} {g : G1} {f : M} {r : V → Hp → VK → Prop} (hr : ∀ x H Q, rG1 K g x H Q → r x H Q) {σ : L2.St} {H : Hp} {Q : VK} (h : tM K E (m1 g f) σ H Q) : tM K E f σ H fun x H' => r x H' Q := by
  obtain ⟨Pr, m, env, S, er, sr, h⟩ := h
  refine ⟨Pr, m, env, S, er, sr, ?_⟩
  cases h1 : f env S with
  | bad => simp only [m1, h1, Out.bind_bad] at h
  | ex x S1 => simp only [m1, h1, Out.bind_ex] at h; exact h
  | ok w S1 =>
    simp only [m1, h1, Out.bind_ok] at h
    intro m1' H1 v1 e1 s1 r1
    cases h3 : g S1 w with
    | none => simp only [h3, Out.opt_none] at h
    | some z =>
      simp only [h3, Out.opt_some] at h
      exact hr _ _ _ ⟨Pr, m1', S1, w, z, s1, r1, h3, h.ext e1⟩
def gNot : G1 := fun S x => (tru S x).map fun b => .val (.bool (!b))
def gNeg : G1 := fun _ x => (uInt x).map fun i => .val (.int (-i))
section
variable {X : Cx} {E : XK} {a b c : Expr} {rest : List Expr} {pos : Pos} {fa fb fc : M}
theorem pe_mNot (ha : PE X a (tM X.K E fa)) : PE X (.UnaryOp .Not a pos) (tM X.K E (m1 gNot fa)) := by
  refine PE.weak (pe_notT ha) fun σ H Q h => m1_read (r := fun x H1 Q => ∃ k, TruV X.K x H1 k ∧ Q (.bl (!k)) H1) ?_ h
  rintro v H Q ⟨Pr, m, S, x, w, s, r, hg, q⟩
  unfold gNot at hg
  cases e : tru S x with
  | none => simp only [e] at hg; cases hg
  | some b => simp only [e] at hg; cases hg; exact ⟨b, tru_V s r e, q.bl s⟩
theorem pe_mNeg (ha : PE X a (tM X.K E fa)) : PE X (.UnaryOp .USub a pos) (tM X.K E (m1 gNeg fa)) := by
  refine PE.weak (pe_un un_neg ha) fun σ H Q h => m1_read (r := rU fun i => .int (-i)) ?_ h
  rintro v H Q ⟨Pr, m, S, x, w, s, r, hg, q⟩
  unfold gNeg at hg
  cases e : uInt x with
  | none => simp only [e] at hg; cases hg
  | some b => simp only [e] at hg; cases hg; exact ⟨b, uInt_ok r e, q.int s⟩

/-! ### and, or as values -/
def mAnd (f g : M) : M := fun env S => (f env S).bind fun x S1 => match tru S1 x with
  | some true => g env S1
  | some false => .ok x S1
  | none => .bad
def mOr (f g : M) : M := fun env S => (f env S).bind fun x S1 => match tru S1 x with
  | some true => .ok x S1
  | some false => g env S1
  | none => .bad
theorem pe_mOne {op} (ha : PE X a (tM X.K E fa)) : PE X (.BoolOp op [a] pos) (tM X.K E fa) := pe_one ha
theorem pe_mAnd (ha : PE X a (tM X.K E fa)) (hb : PE X (.BoolOp .And (b :: rest) pos) (tM X.K E fb)) : PE X (.BoolOp .And (a :: b :: rest) pos) (tM X.K E (mAnd fa fb)) := by
  refine PE.weak (pe_andT ha hb) ?_
  rintro σ H Q ⟨Pr, m, env, S, er, sr, h⟩
  refine ⟨Pr, m, env, S, er, sr, ?_⟩
  cases h1 : fa env S with
  | bad => simp only [mAnd, h1, Out.bind_bad] at h
  | ex x S1 => simp only [mAnd, h1, Out.bind_ex] at h; exact h
  | ok w S1 =>
    simp only [mAnd, h1, Out.bind_ok] at h
    intro m1' H1 v1 e1 s1 r1
    cases h2 : tru S1 w with
    | none => simp only [h2] at h
    | some k =>
      simp only [h2] at h
      refine ⟨k, tru_V s1 r1 h2, ?_⟩
      cases k with
      | true =>
        rw [if_pos rfl]
        refine ⟨Pr, m1', env, S1, er.ext e1, s1, ?_⟩
        cases h3 : fb env S1 with
        | bad => simp only [h3] at h
        | ex x S2 => simp only [h3] at h; exact h.ext e1
        | ok z S2 => simp only [h3] at h; exact h.ext e1
      | false => rw [if_neg (by decide)]; exact (h.ext e1).here s1 r1
theorem pe_mOr (ha : PE X a (tM X.K E fa)) (hb : PE X (.BoolOp .Or (b :: rest) pos) (tM X.K E fb)) : PE X (.BoolOp .Or (a :: b :: rest) pos) (tM X.K E (mOr fa fb)) := by
  refine PE.weak (pe_orT ha hb) ?_
  rintro σ H Q ⟨Pr, m, env, S, er, sr, h⟩
  refine ⟨Pr, m, env, S, er, sr, ?_⟩
  cases h1 : fa env S with
  | bad => simp only [mOr, h1, Out.bind_bad] at h
  | ex x S1 => simp only [mOr, h1, Out.bind_ex] at h; exact h
  | ok w S1 =>
    simp only [mOr, h1, Out.bind_ok] at h
    intro m1' H1 v1 e1 s1 r1
    cases h2 : tru S1 w with
    | none => simp only [h2] at h
    | some k =>
      simp only [h2] at h
      refine ⟨k, tru_V s1 r1 h2, ?_⟩
      cases k with
      | false =>
        rw [if_neg (by decide)]
        refine ⟨Pr, m1', env, S1, er.ext e1, s1, ?_⟩
        cases h3 : fb env S1 with
        | bad => simp only [h3] at h
        | ex x S2 => simp only [h3] at h; exact h.ext e1
        | ok z S2 => simp only [h3] at h; exact h.ext e1
      | true => rw [if_pos rfl]; exact (h.ext e1).here s1 r1

/-! ### tests -/
def tT (K : PySem.W.Frag) (E : XK) (f : M) : TT := fun σ H Q => ∃ Pr m env S, ER K Pr m H env σ ∧ SR K Pr m H S ∧
  match f env S with
  | .ok w S' => (match tru S' w with
    | some b => ∀ m' H', Ext m m' H H' → SR K Pr m' H' S' → Q b H'
    | none => False)
  | .ex x S' => RetX K Pr m H S' x E
  | .bad => False
theorem PT.ofPE (ha : PE X a (tM X.K E fa)) (he : ∀ whole, isTrue a X.env whole = (do let v ← whole; standAt a.pos; holding [v] (truthy v))) : PT X a (tT X.K E fa) := by
  refine PT.weak (pt_truth ha he) ?_
  rintro σ H Q ⟨Pr, m, env, S, er, sr, h⟩
  refine ⟨Pr, m, env, S, er, sr, ?_⟩
  cases h1 : fa env S with
  | bad => simp only [h1] at h
  | ex x S1 => simp only [h1] at h; exact h
  | ok w S1 =>
    simp only [h1] at h
    intro m1' H1 v1 e1 s1 r1
    cases h2 : tru S1 w with
    | none => simp only [h2] at h
    | some k => simp only [h2] at h; exact ⟨k, tru_V s1 r1 h2, h _ _ e1 s1⟩
/-- the operation's end as a test: its value is a bool -/
theorem pt_m2c {op : CmpOp} {g : G2} (hb' : ∀ S x y w, g S x y = some w → ∃ b, w = .val (.bool b)) (ho : OpR X (compareOp op) (rG X.K g)) (ha : PE X a (tM X.K E fa)) (hb : PE X b (tM X.K E fb)) (hm : behindInMarks op b = false) :
    PT X (.Compare a [op] [b] pos) (tT X.K E (m2 g fa fb)) := by
  refine PT.weak (pt_cmpR ho ha hb hm) ?_
  rintro σ H Q ⟨Pr, m, env, S, er, sr, h⟩
  refine m2_read (g := g) (r := rG X.K g) (fun _ _ _ _ q => q) σ H _ ⟨Pr, m, env, S, er, sr, ?_⟩
  unfold m2 at h ⊢
  cases h1 : fa env S with
  | bad => simp only [h1, Out.bind_bad] at h
  | ex x S1 => simp only [h1, Out.bind_ex] at h ⊢; exact h
  | ok w S1 =>
    simp only [h1, Out.bind_ok] at h ⊢
    cases h2 : fb env S1 with
    | bad => simp only [h2, Out.bind_bad] at h
    | ex x S2 => simp only [h2, Out.bind_ex] at h ⊢; exact h
    | ok w2 S2 =>
      simp only [h2, Out.bind_ok] at h ⊢
      cases h3 : g S2 w w2 with
      | none => simp only [h3, Out.opt_none] at h
      | some z =>
        obtain ⟨k, rfl⟩ := hb' _ _ _ _ h3
        simp only [h3, Out.opt_some, tru, trU] at h ⊢
        intro m' H' v e' s' r'
        cases r' with
        | val r' => cases r'; exact ⟨k, rfl, h _ _ e' s'⟩
theorem pt_mNot (ha : PT X a (tT X.K E fa)) : PT X (.UnaryOp .Not a pos) (tT X.K E (m1 gNot fa)) := by
  refine PT.weak (pt_not ha) ?_
  rintro σ H Q ⟨Pr, m, env, S, er, sr, h⟩
  refine ⟨Pr, m, env, S, er, sr, ?_⟩
  unfold m1 at h
  cases h1 : fa env S with
  | bad => simp only [h1, Out.bind_bad] at h
  | ex x S1 => simp only [h1, Out.bind_ex] at h ⊢; exact h
  | ok w S1 =>
    simp only [h1, Out.bind_ok, gNot] at h ⊢
    cases h2 : tru S1 w with
    | none => simp only [h2, Option.map_none, Out.opt_none] at h
    | some k =>
      rw [h2] at h
      simp only
      exact h
theorem pw_mOne {op} (hop : op = .And ∨ op = .Or) (ha : PT X a (tT X.K E fa)) : PW X (.BoolOp op [a] pos) (tT X.K E fa) := by
  rcases hop with rfl | rfl
  · exact pw_and1 ha
  · exact pw_or1 ha
theorem pw_mAnd (ha : PT X a (tT X.K E fa)) (hb : PW X (.BoolOp .And (b :: rest) pos) (tT X.K E fb)) : PW X (.BoolOp .And (a :: b :: rest) pos) (tT X.K E (mAnd fa fb)) := by
  refine PW.weak (pw_and ha hb) ?_
  rintro σ H Q ⟨Pr, m, env, S, er, sr, h⟩
  refine ⟨Pr, m, env, S, er, sr, ?_⟩
  cases h1 : fa env S with
  | bad => simp only [mAnd, h1, Out.bind_bad] at h
  | ex x S1 => simp only [mAnd, h1, Out.bind_ex] at h ⊢; exact h
  | ok w S1 =>
    simp only [mAnd, h1, Out.bind_ok] at h ⊢
    cases h2 : tru S1 w with
    | none => simp only [h2] at h
    | some k =>
      cases k with
      | true =>
        simp only [h2] at h ⊢
        intro m' H' e' s'
        simp only [reduceIte, Bool.false_eq_true]
        refine ⟨Pr, m', env, S1, er.ext e', s', ?_⟩
        cases h3 : fb env S1 with
        | bad => simp only [h3] at h
        | ex x S2 => simp only [h3] at h; exact h.ext e'
        | ok z S2 =>
          simp only [h3] at h ⊢
          cases h4 : tru S2 z with
          | none => simp only [h4] at h
          | some j => simp only [h4] at h ⊢; exact fun m2' H2 e2 s2 => h m2' H2 (e'.trans e2) s2
      | false =>
        simp only [h2] at h ⊢
        intro m' H' e' s'
        simp only [reduceIte, Bool.false_eq_true]
        exact h m' H' e' s'
theorem pw_mOr (ha : PT X a (tT X.K E fa)) (hb : PW X (.BoolOp .Or (b :: rest) pos) (tT X.K E fb)) : PW X (.BoolOp .Or (a :: b :: rest) pos) (tT X.K E (mOr fa fb)) := by
  refine PW.weak (pw_or ha hb) ?_
  rintro σ H Q ⟨Pr, m, env, S, er, sr, h⟩
  refine ⟨Pr, m, env, S, er, sr, ?_⟩
  cases h1 : fa env S with
  | bad => simp only [mOr, h1, Out.bind_bad] at h
  | ex x S1 => simp only [mOr, h1, Out.bind_ex] at h ⊢; exact h
  | ok w S1 =>
    simp only [mOr, h1, Out.bind_ok] at h ⊢
    cases h2 : tru S1 w with
    | none => simp only [h2] at h
    | some k =>
      cases k with
      | false =>
        simp only [h2] at h ⊢
        intro m' H' e' s'
        simp only [reduceIte, Bool.false_eq_true]
        refine ⟨Pr, m', env, S1, er.ext e', s', ?_⟩
        cases h3 : fb env S1 with
        | bad => simp only [h3] at h
        | ex x S2 => simp only [h3] at h; exact h.ext e'
        | ok z S2 =>
          simp only [h3] at h ⊢
          cases h4 : tru S2 z with
          | none => simp only [h4] at h
          | some j => simp only [h4] at h ⊢; exact fun m2' H2 e2 s2 => h m2' H2 (e'.trans e2) s2
      | true =>
        simp only [h2] at h ⊢
        intro m' H' e' s'
        simp only [reduceIte, Bool.false_eq_true]
        exact h m' H' e' s'
def mIte (c f g : M) : M := fun env S => (c env S).bind fun x S1 => match tru S1 x with
  | some true => f env S1
  | some false => g env S1
  | none => .bad
theorem pe_mIte (hc : PT X c (tT X.K E fc)) (ha : PE X a (tM X.K E fa)) (hb : PE X b (tM X.K E fb)) : PE X (.IfExp c a b pos) (tM X.K E (mIte fc fa fb)) := by
  refine PE.weak (pe_ifExp hc ha hb) ?_
  rintro σ H Q ⟨Pr, m, env, S, er, sr, h⟩
  refine ⟨Pr, m, env, S, er, sr, ?_⟩
  cases h1 : fc env S with
  | bad => simp only [mIte, h1, Out.bind_bad] at h
  | ex x S1 => simp only [mIte, h1, Out.bind_ex] at h ⊢; exact h
  | ok w S1 =>
    simp only [mIte, h1, Out.bind_ok] at h ⊢
    cases h2 : tru S1 w with
    | none => simp only [h2] at h
    | some k =>
      have go : ∀ {f : M}, (match f env S1 with | .ok w S' => Ret X.K Pr m H S' w Q | .ex x S' => RetX X.K Pr m H S' x E | .bad => False) → ∀ m' H', Ext m m' H H' → SR X.K Pr m' H' S1 → tM X.K E f σ H' Q := by
        intro f h m' H' e' s'
        refine ⟨Pr, m', env, S1, er.ext e', s', ?_⟩
        cases h3 : f env S1 with
        | bad => simp only [h3] at h
        | ex x S2 => simp only [h3] at h; exact h.ext e'
        | ok z S2 => simp only [h3] at h; exact h.ext e'
      cases k with
      | true =>
        simp only [h2] at h ⊢
        intro m' H' e' s'
        simp only [reduceIte, Bool.false_eq_true]
        exact go h m' H' e' s'
      | false =>
        simp only [h2] at h ⊢
        intro m' H' e' s'
        simp only [reduceIte, Bool.false_eq_true]
        exact go h m' H' e' s'
end
end Rb

/-! Rb5: chains, subscripts, slices, calls of defs and of built-ins. -/
namespace Rb
open PySem PySem.Spec PyProof.Rows L2

/-! ### a op b op' c -/
def isBl : W → Option Bool
  | .val (.bool b) => some b
  | _ => none
def mChain (g g' : G2) (fa fb fc : M) : M := fun env S => (fa env S).bind fun x S1 => (fb env S1).bind fun y S2 => match g S2 x y with
  | some z => (match isBl z with
    | some true => (fc env S2).bind fun c S3 => Out.opt (g' S3 y c) S3
    | some false => .ok (.val (.bool false)) S2
    | none => .bad)
  | none => .bad
theorem isBl_eq {w : W} {b : Bool} (h : isBl w = some b) : w = .val (.bool b) := by
  cases w with
  | loc _ => cases h
  | val u => cases u <;> cases h; rfl
section
variable {X : Cx} {E : XK} {a b c : Expr} {pos : Pos} {fa fb fc : M}
theorem chain_read {K : PySem.W.Frag} {g g' : G2} {σ : L2.St} {H : Hp} {Q : VK} (h : tM K E (mChain g g' fa fb fc) σ H Q) : tChain (rG K g) (rG K g') (tM K E fa) (tM K E fb) (tM K E fc) σ H Q := by
  obtain ⟨Pr, m, env, S, er, sr, h⟩ := h
  refine ⟨Pr, m, env, S, er, sr, ?_⟩
  cases h1 : fa env S with
  | bad => simp only [mChain, h1, Out.bind_bad] at h
  | ex x S1 => simp only [mChain, h1, Out.bind_ex] at h; exact h
  | ok x S1 =>
    simp only [mChain, h1, Out.bind_ok] at h
    intro m1 H1 v1 e1 s1 r1
    refine ⟨Pr, m1, env, S1, er.ext e1, s1, ?_⟩
    cases h2 : fb env S1 with
    | bad => simp only [h2, Out.bind_bad] at h
    | ex x S2 => simp only [h2, Out.bind_ex] at h; exact h.ext e1
    | ok y S2 =>
      simp only [h2, Out.bind_ok] at h
      intro m2 H2 v2 e2 s2 r2
      cases h3 : g S2 x y with
      | none => simp only [h3] at h
      | some z =>
        cases h4 : isBl z with
        | none => simp only [h3, h4] at h
        | some k =>
          refine ⟨Pr, m2, S2, x, y, z, s2, r1.ext e2, r2, h3, ?_⟩
          intro m3 H3 v3 e3 s3 r3
          have hz := isBl_eq h4
          subst hz
          have hv : v3 = .bl k := by
            cases r3 with
            | val r3 => cases r3; rfl
          refine ⟨k, hv, ?_⟩
          have e13 := (e1.trans e2).trans e3
          cases k with
          | false =>
            simp only [h3, h4] at h
            simp only [reduceIte, Bool.false_eq_true]
            exact (h.ext e13).bl s3
          | true =>
            simp only [h3, h4] at h
            simp only [reduceIte]
            refine ⟨Pr, m3, env, S2, er.ext e13, s3, ?_⟩
            cases h5 : fc env S2 with
            | bad => simp only [h5, Out.bind_bad] at h
            | ex x S3 => simp only [h5, Out.bind_ex] at h; exact h.ext e13
            | ok c S3 =>
              simp only [h5, Out.bind_ok] at h
              intro m4 H4 v4 e4 s4 r4
              cases h6 : g' S3 y c with
              | none => simp only [h6, Out.opt_none] at h
              | some z' =>
                simp only [h6, Out.opt_some] at h
                exact ⟨Pr, m4, S3, y, c, z', s4, (r2.ext e3).ext e4, r4, h6, h.ext (e13.trans e4)⟩
theorem pe_mChain {op op' : CmpOp} {g g' : G2} (ho : OpR X (compareOp op) (rG X.K g)) (ho' : OpR X (compareOp op') (rG X.K g')) (ha : PE X a (tM X.K E fa)) (hb : PE X b (tM X.K E fb)) (hc : PE X c (tM X.K E fc))
    (hm : lastMarks [op, op'] [b, c] = false) : PE X (.Compare a [op, op'] [b, c] pos) (tM X.K E (mChain g g' fa fb fc)) :=
  PE.weak (pe_chain ho ho' ha hb hc hm) fun _ _ _ h => chain_read h
theorem pt_mChain {op op' : CmpOp} {g g' : G2} (hb' : ∀ S x y w, g' S x y = some w → ∃ b, w = .val (.bool b)) (ho : OpR X (compareOp op) (rG X.K g)) (ho' : OpR X (compareOp op') (rG X.K g')) (ha : PE X a (tM X.K E fa)) (hb : PE X b (tM X.K E fb)) (hc : PE X c (tM X.K E fc))
    (hm : lastMarks [op, op'] [b, c] = false) : PT X (.Compare a [op, op'] [b, c] pos) (tT X.K E (mChain g g' fa fb fc)) := by
  refine PT.weak (pt_chain ho ho' ha hb hc hm) ?_
  rintro σ H Q ⟨Pr, m, env, S, er, sr, h⟩
  refine chain_read ⟨Pr, m, env, S, er, sr, ?_⟩
  unfold mChain at h ⊢
  cases h1 : fa env S with
  | bad => simp only [h1, Out.bind_bad] at h
  | ex x S1 => simp only [h1, Out.bind_ex] at h ⊢; exact h
  | ok x S1 =>
    simp only [h1, Out.bind_ok] at h ⊢
    cases h2 : fb env S1 with
    | bad => simp only [h2, Out.bind_bad] at h
    | ex x S2 => simp only [h2, Out.bind_ex] at h ⊢; exact h
    | ok y S2 =>
      simp only [h2, Out.bind_ok] at h ⊢
      cases h3 : g S2 x y with
      | none => simp only [h3] at h
      | some z =>
        simp only [h3] at h ⊢
        cases h4 : isBl z with
        | none => simp only [h4] at h
        | some k =>
          cases k with
          | false =>
            simp only [h4, tru, trU] at h ⊢
            intro m' H' v e' s' r'
            cases r' with
            | val r' => cases r'; exact ⟨false, rfl, h _ _ e' s'⟩
          | true =>
            simp only [h4] at h ⊢
            cases h5 : fc env S2 with
            | bad => simp only [h5, Out.bind_bad] at h
            | ex x S3 => simp only [h5, Out.bind_ex] at h ⊢; exact h
            | ok c S3 =>
              simp only [h5, Out.bind_ok] at h ⊢
              cases h6 : g' S3 y c with
              | none => simp only [h6, Out.opt_none] at h
              | some z' =>
                obtain ⟨j, rfl⟩ := hb' _ _ _ _ h6
                simp only [h6, Out.opt_some, tru, trU] at h ⊢
                intro m' H' v e' s' r'
                cases r' with
                | val r' => cases r'; exact ⟨j, rfl, h _ _ e' s'⟩
end
theorem gI_bool {f : Int → Int → Bool} {c} : ∀ S x y w, gI c (fun i j => .bool (f i j)) S x y = some w → ∃ b, w = .val (.bool b) := by
  intro S x y w h
  unfold gI at h
  split at h
  · split at h
    · cases h; exact ⟨_, rfl⟩
    · cases h
  · cases h
theorem gCmp_bool {op : CmpOp} {g : G2} (h : gCmp op = some g) : ∀ S x y w, g S x y = some w → ∃ b, w = .val (.bool b) := by
  cases op <;> cases h <;> intro S x y w hw
  · unfold gEq at hw; split at hw
    · split at hw <;> cases hw; exact ⟨_, rfl⟩
    · cases hw
  · unfold gNe at hw; split at hw
    · split at hw <;> cases hw; exact ⟨_, rfl⟩
    · cases hw
  · unfold gLt at hw; split at hw
    · exact gI_bool _ _ _ _ hw
    · unfold gLtT at hw; split at hw
      · split at hw <;> cases hw; exact ⟨_, rfl⟩
      · cases hw
  · exact gI_bool _ _ _ _ hw
  · exact gI_bool _ _ _ _ hw
  · exact gI_bool _ _ _ _ hw
  · unfold gIs at hw; split at hw <;> cases hw; exact ⟨_, rfl⟩
  · unfold gIsN at hw; split at hw <;> cases hw; exact ⟨_, rfl⟩
  all_goals
    unfold gInN at hw; split at hw
    · unfold gInS at hw; split at hw <;> cases hw; exact ⟨_, rfl⟩
    · unfold gInQ at hw; split at hw
      · split at hw <;> cases hw; exact ⟨_, rfl⟩
      · cases hw

/-! ### a[i] -/
def gIxQ : G2 := fun S x y => match itemsW S x, uInt y with
  | some (_, ws), some i => atI ws i
  | _, _ => none
def gIxS : G2 := fun _ x y => match uStr x, uInt y with
  | some z, some i => if z.length ≤ 16777216 then (atI z.cps.toList i).map fun c => .val (.str ⟨#[c]⟩) else none
  | _, _ => none
def gIx : G2 := fun S x y => match x with
  | .val (.str _) => gIxS S x y
  | _ => gIxQ S x y
theorem WRs.atI {K : PySem.W.Frag} {Pr m : List Addr} {H : Hp} {ws : List W} {vs : List V} (h : WRs K Pr m H ws vs) {i : Int} {w : W} (e : atI ws i = some w) : ∃ v, L2.atI vs i = some v ∧ WR K Pr m H w v := by
  unfold L2.atI at e ⊢
  rw [h.length] at e
  cases q : ixN vs.length i with
  | none => rw [q] at e; cases e
  | some j => rw [q] at e; exact h.get (i := j) e
section
variable {X : Cx} {E : XK} {a b c : Expr} {pos : Pos} {fa fb fc : M}
theorem ix_g : IxR X (rG X.K gIx) := by
  intro value slice pins s σ H x y v u Q I rx ry h hs
  have hz : rIx X.K x y H Q := by
    obtain ⟨Pr, m, S, wx, wy, w, sr, r1, r2, hg, q⟩ := h
    have go : gIxQ S wx wy = some w → rIx X.K x y H Q := by
      intro hg
      unfold gIxQ at hg
      cases e1 : itemsW S wx with
      | none => simp only [e1] at hg; cases hg
      | some p =>
        obtain ⟨b, ws⟩ := p
        cases e2 : uInt wy with
        | none => simp only [e1, e2] at hg; cases hg
        | some i =>
          simp only [e1, e2] at hg
          obtain ⟨a, xs, rfl, h1, h2⟩ := itemsW_ok sr r1 e1
          obtain ⟨v', h3, h4⟩ := h2.atI hg
          have hy := uInt_ok r2 e2
          cases b with
          | true => exact .inl ⟨a, xs, i, v', rfl, hy, h1, h3, q.here sr h4⟩
          | false => exact .inr (.inl ⟨a, xs, i, v', rfl, hy, h1, h3, q.here sr h4⟩)
    unfold gIx at hg
    split at hg
    · unfold gIxS at hg
      rename_i z
      cases e2 : uInt wy with
      | none => simp only [uStr, e2] at hg; cases hg
      | some i =>
        simp only [uStr, e2] at hg
        by_cases hz : z.length ≤ 16777216
        · rw [if_pos hz] at hg
          cases e3 : L2.atI z.cps.toList i with
          | none => rw [e3] at hg; cases hg
          | some c =>
            rw [e3] at hg; cases hg
            cases r1 with
            | val r1 =>
              cases r1
              exact .inr (.inr ⟨z, i, c, rfl, uInt_ok r2 e2, by rw [line_eq]; exact hz, e3, q.str sr⟩)
        · rw [if_neg hz] at hg; cases hg
    · exact go hg
  exact ix_seq value slice pins s σ H x y v u Q I rx ry hz hs
theorem pe_mIx (ha : PE X a (tM X.K E fa)) (hb : PE X b (tM X.K E fb)) (hs : PlainIx b) : PE X (.Subscript a b pos) (tM X.K E (m2 gIx fa fb)) :=
  PE.weak (pe_ix ix_g ha hb hs) (m2_read fun _ _ _ _ q => q)
end
end Rb

/-! Rb6: slices, calls of defs, built-ins. -/
namespace Rb
open PySem PySem.Spec PyProof.Rows L2

/-! ### slices -/
abbrev MO := Env → Store → Out (Option Int)
def mNo : MO := fun _ S => .ok none S
def mPart (f : M) : MO := fun env S => (f env S).bind fun w S1 => match uInt w with
  | some i => .ok (some i) S1
  | none => .bad
def tO (K : PySem.W.Frag) (E : XK) (f : MO) : TO := fun σ H Q => ∃ Pr m env S, ER K Pr m H env σ ∧ SR K Pr m H S ∧
  match f env S with
  | .ok o S' => ∀ m' H', Ext m m' H H' → SR K Pr m' H' S' → Q o H'
  | .ex x S' => RetX K Pr m H S' x E
  | .bad => False
def cutU (us : List U) (lo hi : Option Int) : List U := (us.drop (HT.sIx us.length 0 lo)).take (HT.sIx us.length us.length hi - HT.sIx us.length 0 lo)
def gSlS (z : Str) (lo hi : Option Int) : Option W := if z.length ≤ 16777216 then some (.val (.str (cutS z lo hi))) else none
def gSlQ (S : Store) (x : W) (lo hi : Option Int) : Option W := (seqU S x).map fun p => .val (mkSeq p.1 (cutU p.2 lo hi))
def gSl (S : Store) (x : W) (lo hi : Option Int) : Option W := match x with
  | .val (.str z) => gSlS z lo hi
  | _ => gSlQ S x lo hi
def mSl (f : M) (fl fh : MO) : M := fun env S => (f env S).bind fun x S1 => (fl env S1).bind fun lo S2 => (fh env S2).bind fun hi S3 => Out.opt (gSl S3 x lo hi) S3
section
variable {X : Cx} {E : XK} {a : Expr} {lo hi : Option Expr} {pos p2 : Pos} {fa : M} {fl fh : MO}
theorem po_no : PO X none (tO X.K E mNo) := ⟨fun pins s σ H Q I h => po_none.run pins s σ H Q I (by
  obtain ⟨Pr, m, env, S, er, sr, h⟩ := h
  exact h m H .refl sr)⟩
theorem po_part (h : PE X a (tM X.K E fa)) : PO X (some a) (tO X.K E (mPart fa)) := ⟨fun pins s σ H Q I hw => (po_some h).run pins s σ H Q I (by
  obtain ⟨Pr, m, env, S, er, sr, h⟩ := hw
  refine ⟨Pr, m, env, S, er, sr, ?_⟩
  unfold mPart at h
  cases h1 : fa env S with
  | bad => simp only [h1, Out.bind_bad] at h
  | ex x S1 => simp only [h1, Out.bind_ex] at h ⊢; exact h
  | ok w S1 =>
    simp only [h1, Out.bind_ok] at h ⊢
    intro m1 H1 v e1 s1 r1
    cases h2 : uInt w with
    | none => simp only [h2] at h
    | some i => simp only [h2] at h; exact ⟨i, uInt_ok r1 h2, h m1 H1 e1 s1⟩)⟩
theorem URs.cut {K : PySem.W.Frag} {A : List Addr} {H : Hp} {us : List U} {vs : List V} (h : URs K A H us vs) (lo hi : Option Int) : URs K A H (cutU us lo hi) (cutV vs lo hi) := by
  unfold cutU cutV
  rw [h.length]
  exact (h.drop _).take _
theorem cut_whole {us : List U} {lo hi : Option Int} (h : HT.sIx us.length 0 lo = 0 ∧ HT.sIx us.length us.length hi = us.length) : cutU us lo hi = us := by
  unfold cutU
  rw [h.1, h.2]
  simp
theorem pe_mSl (ha : PE X a (tM X.K E fa)) (hl : PO X lo (tO X.K E fl)) (hh : PO X hi (tO X.K E fh)) : PE X (.Subscript a (.Slice lo hi none p2) pos) (tM X.K E (mSl fa fl fh)) := by
  refine PE.weak (pe_slice ((sl_str (X := X)).or (sl_tupA.or sl_list)) ha hl hh) ?_
  rintro σ H Q ⟨Pr, m, env, S, er, sr, h⟩
  refine ⟨Pr, m, env, S, er, sr, ?_⟩
  unfold mSl at h
  cases h1 : fa env S with
  | bad => simp only [h1, Out.bind_bad] at h
  | ex x S1 => simp only [h1, Out.bind_ex] at h ⊢; exact h
  | ok x S1 =>
    simp only [h1, Out.bind_ok] at h ⊢
    intro m1 H1 v e1 s1 r1
    refine ⟨Pr, m1, env, S1, er.ext e1, s1, ?_⟩
    cases h2 : fl env S1 with
    | bad => simp only [h2, Out.bind_bad] at h
    | ex x S2 => simp only [h2, Out.bind_ex] at h ⊢; exact h.ext e1
    | ok lo S2 =>
      simp only [h2, Out.bind_ok] at h ⊢
      intro m2 H2 e2 s2
      refine ⟨Pr, m2, env, S2, (er.ext e1).ext e2, s2, ?_⟩
      cases h3 : fh env S2 with
      | bad => simp only [h3, Out.bind_bad] at h
      | ex x S3 => simp only [h3, Out.bind_ex] at h ⊢; exact h.ext (e1.trans e2)
      | ok hi S3 =>
        simp only [h3, Out.bind_ok] at h ⊢
        intro m3 H3 e3 s3
        have r3 := (r1.ext e2).ext e3
        have e13 := (e1.trans e2).trans e3
        have go : ∀ w, gSlQ S3 x lo hi = some w → Ret X.K Pr m3 H3 S3 w Q → rSlA X.K v lo hi H3 Q ∨ rSlL X.K v lo hi H3 Q := by
          intro w hg q
          unfold gSlQ at hg
          cases h4 : seqU S3 x with
          | none => rw [h4] at hg; cases hg
          | some p =>
            obtain ⟨b, us⟩ := p
            rw [h4] at hg; cases hg
            obtain ⟨a, xs, rfl, k1, k2⟩ := seqU_ok s3 r3 h4
            cases b with
            | true => exact .inr ⟨a, xs, rfl, SqL.of k1, fun p hp => q.lst s3 (k2.cut lo hi) hp⟩
            | false =>
              refine .inl ⟨a, xs, rfl, k1, fun hw => q.here s3 (.val ?_), fun _ p hp => q.tup s3 (k2.cut lo hi) hp⟩
              show UR _ _ _ (.tuple (cutU us lo hi)) _
              rw [← k2.length] at hw
              rw [cut_whole hw]
              exact .tup k1 k2
        cases h4 : gSl S3 x lo hi with
        | none => simp only [h4, Out.opt_none] at h
        | some w =>
          simp only [h4, Out.opt_some] at h
          have q := h.ext e13
          unfold gSl at h4
          split at h4
          · rename_i z
            unfold gSlS at h4
            by_cases hz : z.length ≤ 16777216
            · rw [if_pos hz] at h4; cases h4
              cases r3 with
              | val r3 => cases r3; exact .inl ⟨z, rfl, by rw [line_eq]; exact hz, q.str s3⟩
            · rw [if_neg hz] at h4; cases h4
          · exact .inr (go w h4 q)
end

/-! ### calls of defs -/
def mCall (cl : CallO) (f : Str) (n : Nat) (g : MA) : M := fun env S => (g env S).bind fun ws S1 => if ws.length = n then cl f ws S1 else .bad
/-- what a def promises: what cl says -/
def spM (K : PySem.W.Frag) (cl : CallO) (f : Str) (n : Nat) : Sp := fun vs H Q E => vs.length = n ∧ ∃ Pr m S ws, SR K Pr m H S ∧ WRs K Pr m H ws vs ∧
  match cl f ws S with
  | .ok w S' => Ret K Pr m H S' w Q
  | .ex x S' => RetX K Pr m H S' x E
  | .bad => False
/-- a def that is called by its name -/
structure CO (P : Program) (w : World) (K : PySem.W.Frag) (mg : Str → Option Value) (base : Heap) (k : Nat) (cl : CallO) (f : Str) (n : Nat) : Prop where
  ex : ∃ (fa : Addr) (fd : FuncData) (ps : List Str), FnOk P w K mg base (L2.CX P w) k fa fd ps (spM K cl f n) ∧ ps.length = n ∧ mg f = some (.ref fa) ∧ PySem.W.keepIn K (.ref fa) = true ∧ Binds K fd ps []
section
variable {X : Cx} {E : XK} {a : Expr} {es : List Expr} {x : Str} {pos p : Pos} {g : MA} {cl : CallO} {n k : Nat}
theorem call_read {K : PySem.W.Frag} {σ : L2.St} {H : Hp} {Q : VK} (h : tM K E (mCall cl x n g) σ H Q) : tCall (spM K cl x n) [] E (tMA K E g) σ H Q := by
  obtain ⟨Pr, m, env, S, er, sr, h⟩ := h
  refine ⟨Pr, m, env, S, er, sr, ?_⟩
  unfold mCall at h
  cases h1 : g env S with
  | bad => simp only [h1, Out.bind_bad] at h
  | ex x S1 => simp only [h1, Out.bind_ex] at h ⊢; exact h
  | ok ws S1 =>
    simp only [h1, Out.bind_ok] at h ⊢
    intro m1 H1 vs e1 s1 r1
    by_cases hn : ws.length = n
    · rw [if_pos hn] at h
      rw [List.append_nil]
      refine ⟨by rw [← r1.length]; exact hn, Pr, m1, S1, ws, s1, r1, ?_⟩
      cases h2 : cl x ws S1 with
      | bad => simp only [h2] at h
      | ex x S2 => simp only [h2] at h ⊢; exact h.ext e1
      | ok w S2 => simp only [h2] at h ⊢; exact h.ext e1
    · rw [if_neg hn] at h; exact h.elim
theorem pe_mCall (c : CO X.prog X.w X.K X.mg X.base k cl x n) (hr : Room k X.A) (hg : Gl X x) (hx : Passes (L2.CX X.prog X.w) X E) (ha : PA X (a :: es) (tMA X.K E g))
    (hdb : (x == ("__debug__" : Str)) = false) (he : starEach (a :: es) X.env = (false, eval a X.env) :: starEach es X.env) (hpl : (backTo pos (starEach es X.env)).any (·.1) = false) :
    PE X (.Call (.Name x p) (a :: es) [] pos) (tM X.K E (mCall cl x n g)) := by
  obtain ⟨fa, fd, ps, F, hn, hm, hk, hb⟩ := c.ex
  exact PE.weak (pe_call F hr hg hm hk hb .nil hx ha hdb he hpl) fun _ _ _ h => call_read h
end

/-! ### built-ins -/
abbrev GL := Store → List W → Option W
def mBi (g : GL) (f : MA) : M := fun env S => (f env S).bind fun ws S1 => Out.opt (g S1 ws) S1
def rGL (K : PySem.W.Frag) (g : GL) : List V → Hp → VK → Prop := fun vs H Q => ∃ Pr m S ws w, SR K Pr m H S ∧ WRs K Pr m H ws vs ∧ g S ws = some w ∧ Ret K Pr m H S w Q
theorem bi_read {K : PySem.W.Frag} {E : XK} {g : GL} {f : MA} {σ : L2.St} {H : Hp} {Q : VK} (h : tM K E (mBi g f) σ H Q) : tCB (rGL K g) (tMA K E f) σ H Q := by
  obtain ⟨Pr, m, env, S, er, sr, h⟩ := h
  refine ⟨Pr, m, env, S, er, sr, ?_⟩
  unfold mBi at h
  cases h1 : f env S with
  | bad => simp only [h1, Out.bind_bad] at h
  | ex x S1 => simp only [h1, Out.bind_ex] at h ⊢; exact h
  | ok ws S1 =>
    simp only [h1, Out.bind_ok] at h ⊢
    intro m1 H1 vs e1 s1 r1
    cases h2 : g S1 ws with
    | none => simp only [h2, Out.opt_none] at h
    | some w => simp only [h2, Out.opt_some] at h; exact ⟨Pr, m1, S1, ws, w, s1, r1, h2, h.ext e1⟩
theorem CallR.weak {X : Cx} {f : Value} {r r' : List V → Hp → VK → Prop} (h : CallR X f r) (k : ∀ vs H Q, r' vs H Q → r vs H Q) : CallR X f r' := fun pins s σ H xs us Q I rx q => h pins s σ H xs us Q I rx (k xs H Q q)
section
variable {X : Cx} {E : XK} {a : Expr} {es : List Expr} {x : Str} {pos p : Pos} {f : MA} {g : GL} {id T : String}
theorem pe_mBi (hc : CallR X (.builtin id) (rGL X.K g)) (hg : Gl X x) (hm : X.mg x = none) (hv : bootBuiltins x = some (.builtin id)) (ha : PA X (a :: es) (tMA X.K E f)) (hn : x ≠ "__name__") (hdb : (x == ("__debug__" : Str)) = false)
    (he : starEach (a :: es) X.env = (false, eval a X.env) :: starEach es X.env) (hpl : (backTo pos (starEach es X.env)).any (·.1) = false) : PE X (.Call (.Name x p) (a :: es) [] pos) (tM X.K E (mBi g f)) :=
  PE.weak (pe_callB hc hg hm hv ha hn hdb he hpl) fun _ _ _ h => bi_read h
theorem pe_mTy (hc : CallR X (.type T) (rGL X.K g)) (hg : Gl X x) (hm : X.mg x = none) (hv : bootBuiltins x = some (.type T)) (ha : PA X (a :: es) (tMA X.K E f)) (hn : x ≠ "__name__") (hdb : (x == ("__debug__" : Str)) = false)
    (he : starEach (a :: es) X.env = (false, eval a X.env) :: starEach es X.env) (hpl : (backTo pos (starEach es X.env)).any (·.1) = false) : PE X (.Call (.Name x p) (a :: es) [] pos) (tM X.K E (mBi g f)) :=
  PE.weak (pe_callTy hc hg hm hv ha hn hdb he hpl) fun _ _ _ h => bi_read h
end
/-- one argument -/
def on1 (g : Store → W → Option W) : GL := fun S ws => match ws with
  | [w] => g S w
  | _ => none
def on2 (g : Store → W → W → Option W) : GL := fun S ws => match ws with
  | [x, y] => g S x y
  | _ => none
theorem on1_ok {K : PySem.W.Frag} {g : Store → W → Option W} {vs : List V} {H : Hp} {Q : VK} (h : rGL K (on1 g) vs H Q) : ∃ Pr m S x v w, vs = [v] ∧ SR K Pr m H S ∧ WR K Pr m H x v ∧ g S x = some w ∧ Ret K Pr m H S w Q := by
  obtain ⟨Pr, m, S, ws, w, s, r, hg, q⟩ := h
  unfold on1 at hg
  split at hg
  · cases r with
    | cons r t => cases t; exact ⟨Pr, m, S, _, _, w, rfl, s, r, hg, q⟩
  · cases hg
theorem on2_ok {K : PySem.W.Frag} {g : Store → W → W → Option W} {vs : List V} {H : Hp} {Q : VK} (h : rGL K (on2 g) vs H Q) : ∃ Pr m S x y v1 v2 w, vs = [v1, v2] ∧ SR K Pr m H S ∧ WR K Pr m H x v1 ∧ WR K Pr m H y v2 ∧ g S x y = some w ∧ Ret K Pr m H S w Q := by
  obtain ⟨Pr, m, S, ws, w, s, r, hg, q⟩ := h
  unfold on2 at hg
  split at hg
  · cases r with
    | cons r t =>
      cases t with
      | cons r' t => cases t; exact ⟨Pr, m, S, _, _, _, _, w, rfl, s, r, r', hg, q⟩
  · cases hg
def bLen : Store → W → Option W := fun S x => match x with
  | .val (.str z) => if z.length ≤ 16777216 then some (.val (.int z.length)) else none
  | _ => (itemsW S x).map fun p => .val (.int p.2.length)
def bTup : Store → W → Option W := fun S x => (seqU S x).map fun p => .val (.tuple p.2)
/-- the data of a list, of the script too -/
def lstU (S : Store) (x : W) : Option (List U) := (itemsW S x).bind fun p => allU p.2
def bLst : Store → W → Option W := fun S x => (lstU S x).map fun us => .val (.list us)
def blsU : List U → Option (List Bool)
  | [] => some []
  | .bool b :: r => (blsU r).map (b :: ·)
  | _ :: _ => none
def bAll : Store → W → Option W := fun S x => (seqU S x).bind fun p => if p.1 = true then (blsU p.2).map fun bs => .val (.bool (bs.all id)) else none
def bAny : Store → W → Option W := fun S x => (seqU S x).bind fun p => if p.1 = true then (blsU p.2).map fun bs => .val (.bool (bs.any id)) else none
def bSum : Store → W → Option W := fun S x => (seqU S x).bind fun p => if p.1 = true then (intsU p.2).map fun ns => .val (.int ns.sum) else none
def bAbs : Store → W → Option W := fun _ x => (uInt x).map fun i => .val (.int (if i < 0 then -i else i))
def bInt : Store → W → Option W := fun _ x => match x with
  | .val (.int i) => some (.val (.int i))
  | .val (.bool k) => some (.val (.int (if k then 1 else 0)))
  | _ => none
def bMin2 : Store → W → W → Option W := fun _ x y => match uInt x, uInt y with
  | some i, some j => some (.val (.int (if j < i then j else i)))
  | _, _ => none
def bMax2 : Store → W → W → Option W := fun _ x y => match uInt x, uInt y with
  | some i, some j => some (.val (.int (if j > i then j else i)))
  | _, _ => none
/-- ints in order -/
def insI (i : Int) : List Int → List Int
  | [] => [i]
  | j :: r => if i ≤ j then i :: j :: r else j :: insI i r
def sortI : List Int → List Int
  | [] => []
  | i :: r => insI i (sortI r)
theorem blsU_eq : ∀ {us : List U} {ns : List Bool}, blsU us = some ns → us = ns.map .bool
  | [], ns, h => by cases h; rfl
  | .bool i :: r, ns, h => by
    simp only [blsU, Option.map_eq_some_iff] at h
    obtain ⟨ns', h1, rfl⟩ := h
    rw [blsU_eq h1]; rfl
  | .none :: _, _, h => by cases h
  | .int _ :: _, _, h => by cases h
  | .str _ :: _, _, h => by cases h
  | .list _ :: _, _, h => by cases h
  | .tuple _ :: _, _, h => by cases h
  | .dict _ :: _, _, h => by cases h
theorem URs.bls {K : PySem.W.Frag} {A : List Addr} {H : Hp} : ∀ {ns : List Bool} {vs : List V}, URs K A H (ns.map .bool) vs → vs = ns.map V.bl
  | [], _, .nil => rfl
  | n :: ns, _, .cons h t => by cases h; rw [URs.bls t]; rfl
theorem insI_perm (i : Int) : ∀ r : List Int, (insI i r).Perm (i :: r)
  | [] => .refl _
  | j :: r => by
    unfold insI
    split
    · exact .refl _
    · exact ((insI_perm i r).cons j).trans (.swap _ _ _)
theorem sortI_perm : ∀ r : List Int, (sortI r).Perm r
  | [] => .refl _
  | i :: r => (insI_perm i (sortI r)).trans ((sortI_perm r).cons i)
theorem insI_pw (i : Int) : ∀ {r : List Int}, r.Pairwise (· ≤ ·) → (insI i r).Pairwise (· ≤ ·)
  | [], _ => by simp [insI]
  | j :: r, h => by
    unfold insI
    rw [List.pairwise_cons] at h
    split
    · rename_i hij
      refine List.pairwise_cons.mpr ⟨fun x hx => ?_, List.pairwise_cons.mpr h⟩
      rcases List.mem_cons.mp hx with e | hx
      · rw [e]; exact hij
      · exact Int.le_trans hij (h.1 x hx)
    · rename_i hij
      refine List.pairwise_cons.mpr ⟨fun x hx => ?_, insI_pw i h.2⟩
      rcases List.mem_cons.mp ((insI_perm i r).mem_iff.mp hx) with e | hx
      · rw [e]; omega
      · exact h.1 x hx
theorem sortI_pw : ∀ r : List Int, (sortI r).Pairwise (· ≤ ·)
  | [] => List.Pairwise.nil
  | i :: r => insI_pw i (sortI_pw r)
theorem sorted_one : ∀ {a b : List Int}, a.Perm b → a.Pairwise (· ≤ ·) → b.Pairwise (· ≤ ·) → a = b
  | [], b, p, _, _ => (p.symm.eq_nil).symm
  | x :: a, [], p, _, _ => absurd p.eq_nil (by simp)
  | x :: a, y :: b, p, ha, hb => by
    rw [List.pairwise_cons] at ha hb
    have e : x = y := by
      have h1 : x ∈ y :: b := p.mem_iff.mp List.mem_cons_self
      have h2 : y ∈ x :: a := p.mem_iff.mpr List.mem_cons_self
      rcases List.mem_cons.mp h1 with e | h1
      · exact e
      · rcases List.mem_cons.mp h2 with e | h2
        · exact e.symm
        · exact Int.le_antisymm (ha.1 y h2) (hb.1 x h1)
    subst e
    rw [sorted_one (List.Perm.cons_inv p) ha.2 hb.2]
def bSortI : Store → W → Option W := fun S x => (seqU S x).bind fun p => if p.1 = true then (intsU p.2).map fun ns => .val (.list ((sortI ns).map .int)) else none
section
variable {X : Cx}
theorem cb_len : CallR X (.builtin "len") (rGL X.K (on1 bLen)) := by
  refine CallR.weak call_len ?_
  intro vs H Q h
  obtain ⟨Pr, m, S, x, v, w, rfl, s, r, hg, q⟩ := on1_ok h
  have go : ∀ {w}, ((itemsW S x).map fun p => W.val (.int p.2.length)) = some w → Ret X.K Pr m H S w Q → ∃ y n, [v] = [y] ∧ LenV X.K y H n ∧ Q (.int n) H := by
    intro w hg q
    cases e : itemsW S x with
    | none => rw [e] at hg; cases hg
    | some p =>
      obtain ⟨b, ws⟩ := p
      rw [e] at hg; cases hg
      obtain ⟨a, xs, rfl, h1, h2⟩ := itemsW_ok s r e
      refine ⟨_, ws.length, rfl, ?_, q.int s⟩
      cases b with
      | true => exact .inl ⟨xs, h1, h2.length⟩
      | false => exact .inr ⟨xs, h1, h2.length⟩
  unfold bLen at hg
  split at hg
  · rename_i z
    by_cases hz : z.length ≤ 16777216
    · rw [if_pos hz] at hg; cases hg
      cases r with
      | val r => cases r; exact ⟨_, z.length, rfl, ⟨by rw [line_eq]; exact hz, rfl⟩, q.int s⟩
    · rw [if_neg hz] at hg; cases hg
  · exact go hg q
theorem cb_tup : CallR X (.type "tuple") (rGL X.K (on1 bTup)) := by
  refine CallR.weak call_tuple_of ?_
  intro vs H Q h
  obtain ⟨Pr, m, S, x, v, w, rfl, s, r, hg, q⟩ := on1_ok h
  unfold bTup at hg
  cases e : seqU S x with
  | none => rw [e] at hg; cases hg
  | some p =>
    obtain ⟨b, us⟩ := p
    rw [e] at hg; cases hg
    obtain ⟨a, xs, rfl, h1, h2⟩ := seqU_ok s r e
    refine ⟨a, xs, rfl, ?_⟩
    cases b with
    | true => exact .inl ⟨SqL.of h1, fun p hp => q.tup s h2 hp⟩
    | false => exact .inr ⟨h1, q.here s (.val (.tup h1 h2))⟩
theorem cb_lst : CallR X (.type "list") (rGL X.K (on1 bLst)) := by
  refine CallR.weak call_list_of ?_
  intro vs H Q h
  obtain ⟨Pr, m, S, x, v, w, rfl, s, r, hg, q⟩ := on1_ok h
  unfold bLst lstU at hg
  cases e : itemsW S x with
  | none => rw [e] at hg; cases hg
  | some p =>
    obtain ⟨b, ws⟩ := p
    rw [e] at hg
    cases e2 : allU ws with
    | none => simp only [Option.bind_some, e2] at hg; cases hg
    | some us =>
      simp only [Option.bind_some, e2] at hg; cases hg
      obtain ⟨a, xs, rfl, h1, h2⟩ := itemsW_ok s r e
      refine ⟨a, xs, rfl, ?_, fun p hp => q.lst s (allU_ok h2 e2) hp⟩
      cases b with
      | true => exact .inl h1
      | false => exact .inr h1
theorem seq_list {Pr m : List Addr} {H : Hp} {S : Store} {x : W} {v : V} {us : List U} (s : SR X.K Pr m H S) (r : WR X.K Pr m H x v) (e : seqU S x = some (true, us)) : ∃ a xs, v = .ref a ∧ SqL X.K H a xs ∧ URs X.K (Pr ++ m) H us xs := by
  obtain ⟨a, xs, rfl, h1, h2⟩ := seqU_ok s r e
  exact ⟨a, xs, rfl, SqL.of h1, h2⟩
theorem cb_all (hc : X.calm = true) : CallR X (.builtin "all") (rGL X.K (on1 bAll)) := by
  refine CallR.weak (cr_all hc) ?_
  intro vs H Q h
  obtain ⟨Pr, m, S, x, v, w, rfl, s, r, hg, q⟩ := on1_ok h
  unfold bAll at hg
  cases e : seqU S x with
  | none => rw [e] at hg; cases hg
  | some p =>
    obtain ⟨b, us⟩ := p
    cases b with
    | false => simp only [e, Option.bind_some, Bool.false_eq_true, reduceIte] at hg; cases hg
    | true =>
      simp only [e, Option.bind_some, reduceIte] at hg
      cases e2 : blsU us with
      | none => rw [e2] at hg; cases hg
      | some bs =>
        rw [e2] at hg; cases hg
        obtain ⟨a, xs, rfl, h1, h2⟩ := seq_list s r e
        rw [blsU_eq e2] at h2
        rw [h2.bls] at h1
        exact ⟨a, bs, rfl, h1, q.bl s⟩
theorem cb_any (hc : X.calm = true) : CallR X (.builtin "any") (rGL X.K (on1 bAny)) := by
  refine CallR.weak (cr_any hc) ?_
  intro vs H Q h
  obtain ⟨Pr, m, S, x, v, w, rfl, s, r, hg, q⟩ := on1_ok h
  unfold bAny at hg
  cases e : seqU S x with
  | none => rw [e] at hg; cases hg
  | some p =>
    obtain ⟨b, us⟩ := p
    cases b with
    | false => simp only [e, Option.bind_some, Bool.false_eq_true, reduceIte] at hg; cases hg
    | true =>
      simp only [e, Option.bind_some, reduceIte] at hg
      cases e2 : blsU us with
      | none => rw [e2] at hg; cases hg
      | some bs =>
        rw [e2] at hg; cases hg
        obtain ⟨a, xs, rfl, h1, h2⟩ := seq_list s r e
        rw [blsU_eq e2] at h2
        rw [h2.bls] at h1
        exact ⟨a, bs, rfl, h1, q.bl s⟩
theorem cb_sum (hc : X.calm = true) : CallR X (.builtin "sum") (rGL X.K (on1 bSum)) := by
  refine CallR.weak (cr_sum hc) ?_
  intro vs H Q h
  obtain ⟨Pr, m, S, x, v, w, rfl, s, r, hg, q⟩ := on1_ok h
  unfold bSum at hg
  cases e : seqU S x with
  | none => rw [e] at hg; cases hg
  | some p =>
    obtain ⟨b, us⟩ := p
    cases b with
    | false => simp only [e, Option.bind_some, Bool.false_eq_true, reduceIte] at hg; cases hg
    | true =>
      simp only [e, Option.bind_some, reduceIte] at hg
      cases e2 : intsU us with
      | none => rw [e2] at hg; cases hg
      | some bs =>
        rw [e2] at hg; cases hg
        obtain ⟨a, xs, rfl, h1, h2⟩ := seq_list s r e
        rw [intsU_eq e2] at h2
        rw [h2.ints] at h1
        exact ⟨a, bs, rfl, h1, q.int s⟩
theorem cb_sortI : CallR X (.builtin "sorted") (rGL X.K (on1 bSortI)) := by
  refine CallR.weak cr_sortedI ?_
  intro vs H Q h
  obtain ⟨Pr, m, S, x, v, w, rfl, s, r, hg, q⟩ := on1_ok h
  unfold bSortI at hg
  cases e : seqU S x with
  | none => rw [e] at hg; cases hg
  | some p =>
    obtain ⟨b, us⟩ := p
    cases b with
    | false => simp only [e, Option.bind_some, Bool.false_eq_true, reduceIte] at hg; cases hg
    | true =>
      simp only [e, Option.bind_some, reduceIte] at hg
      cases e2 : intsU us with
      | none => rw [e2] at hg; cases hg
      | some bs =>
        rw [e2] at hg; cases hg
        obtain ⟨a, xs, rfl, h1, h2⟩ := seq_list s r e
        rw [intsU_eq e2] at h2
        rw [h2.ints] at h1
        refine ⟨a, bs, rfl, h1, fun ns' p k1 k2 hp => ?_⟩
        rw [sorted_one (k1.trans (sortI_perm bs).symm) k2 (sortI_pw bs)]
        exact q.lst s URs.of_ints hp
theorem cb_abs : CallR X (.builtin "abs") (rGL X.K (on1 bAbs)) := by
  refine CallR.weak call_abs ?_
  intro vs H Q h
  obtain ⟨Pr, m, S, x, v, w, rfl, s, r, hg, q⟩ := on1_ok h
  unfold bAbs at hg
  cases e : uInt x with
  | none => rw [e] at hg; cases hg
  | some i => rw [e] at hg; cases hg; exact ⟨i, by rw [uInt_ok r e], q.int s⟩
theorem cb_int : CallR X (.type "int") (rGL X.K (on1 bInt)) := by
  refine CallR.weak call_int1 ?_
  intro vs H Q h
  obtain ⟨Pr, m, S, x, v, w, rfl, s, r, hg, q⟩ := on1_ok h
  unfold bInt at hg
  split at hg
  · cases hg
    cases r with
    | val r => cases r; exact .inl ⟨_, rfl, q.int s⟩
  · cases hg
    cases r with
    | val r => cases r; exact .inr ⟨_, rfl, q.int s⟩
  · cases hg
theorem cb_min2 (hc : X.calm = true) : CallR X (.builtin "min") (rGL X.K (on2 bMin2)) := by
  refine CallR.weak (call_min2 hc) ?_
  intro vs H Q h
  obtain ⟨Pr, m, S, x, y, v1, v2, w, rfl, s, r1, r2, hg, q⟩ := on2_ok h
  unfold bMin2 at hg
  cases e : uInt x with
  | none => simp only [e] at hg; cases hg
  | some i =>
    cases e' : uInt y with
    | none => simp only [e, e'] at hg; cases hg
    | some j => simp only [e, e'] at hg; cases hg; exact ⟨i, j, by rw [uInt_ok r1 e, uInt_ok r2 e'], q.int s⟩
theorem cb_max2 (hc : X.calm = true) : CallR X (.builtin "max") (rGL X.K (on2 bMax2)) := by
  refine CallR.weak (call_max2 hc) ?_
  intro vs H Q h
  obtain ⟨Pr, m, S, x, y, v1, v2, w, rfl, s, r1, r2, hg, q⟩ := on2_ok h
  unfold bMax2 at hg
  cases e : uInt x with
  | none => simp only [e] at hg; cases hg
  | some i =>
    cases e' : uInt y with
    | none => simp only [e, e'] at hg; cases hg
    | some j => simp only [e, e'] at hg; cases hg; exact ⟨i, j, by rw [uInt_ok r1 e, uInt_ok r2 e'], q.int s⟩
end
/-! ### isinstance -/
def tyU : U → String
  | .none => "NoneType"
  | .bool _ => "bool"
  | .int _ => "int"
  | .str _ => "str"
  | .tuple _ => "tuple"
  | .list _ => "list"
  | .dict _ => "dict"
def tyO : Option O → Option String
  | some (.lst _) => some "list"
  | some (.lol _) => some "list"
  | some (.scr _) => some "list"
  | _ => none
def tyW (S : Store) : W → Option String
  | .val u => some (tyU u)
  | .loc n => tyO S[n]?
def isT (T t : String) : Bool := t == T || (t == "bool" && T == "int")
def gIsi (T : String) : G1 := fun S x => (tyW S x).map fun t => .val (.bool (isT T t))
theorem tyW_ok {K : PySem.W.Frag} {Pr m : List Addr} {H : Hp} {S : Store} {w : W} {v : V} (s : SR K Pr m H S) (r : WR K Pr m H w v) {t : String} (h : tyW S w = some t) : TyX K H v (.type t) ∧ t ∈ ["NoneType", "bool", "int", "str", "tuple", "list"] := by
  cases r with
  | val r =>
    cases r with
    | non => cases h; exact ⟨.base .non, by simp [tyU]⟩
    | bl b => cases h; exact ⟨.base (.bl b), by simp [tyU]⟩
    | int b => cases h; exact ⟨.base (.int b), by simp [tyU]⟩
    | str b => cases h; exact ⟨.base (.str b), by simp [tyU]⟩
    | tup h1 h2 =>
      cases h
      refine ⟨?_, by simp [tyU]⟩
      rcases h1 with (h1 | ⟨o, h1⟩) | ⟨o, its, n, h1, h2, _⟩
      · exact .base (.tup h1)
      · exact .fTuple h1
      · exact .kTuple h1 h2
    | lst h0 h1 h2 => cases h; exact ⟨.base (.lst h1), by simp [tyU]⟩
  | @loc n a e =>
    have h : tyO S[n]? = some t := h
    cases hs : S[n]? with
    | none => rw [hs] at h; cases h
    | some ob =>
      rw [hs] at h
      obtain ⟨a', e', o⟩ := s.at hs
      rw [e] at e'; cases e'
      cases o with
      | lst e1 e2 => cases h; exact ⟨.base (.lst e1), by simp [tyU]⟩
      | lol e1 e2 => cases h; exact ⟨.base (.lst e1), by simp [tyU]⟩
      | scr e1 => cases h; exact ⟨.base (.frz e1), by simp [tyU]⟩
theorem kit_tab : ∀ t ∈ ["NoneType", "bool", "int", "str", "tuple", "list"], ∀ T ∈ ["int", "bool", "str", "tuple", "list"], kitB t T = some (isT T t) := by decide +kernel
section
variable {X : Cx} {E : XK} {a : Expr} {x : Str} {pos p p2 : Pos} {fa : M} {T : String}
theorem pe_mIsi (hT : T ∈ ["int", "bool", "str", "tuple", "list"]) (ha : PE X a (tM X.K E fa)) (hg : Gl X "isinstance") (hm : X.mg "isinstance" = none) (hg2 : Gl X x) (hm2 : X.mg x = none) (hv2 : bootBuiltins x = some (.type T)) (hn : x ≠ "__name__") (hdb : (x == ("__debug__" : Str)) = false)
    (he : starEach [a, .Name x p2] X.env = (false, eval a X.env) :: starEach [.Name x p2] X.env) : PE X (.Call (.Name "isinstance" p) [a, .Name x p2] [] pos) (tM X.K E (m1 (gIsi T) fa)) := by
  refine PE.weak (pe_callB call_isi hg hm (by decide +kernel) (pa_cons ha (pa_cons (pe_bltn (v := .ty T) hg2 hm2 hv2 rfl hn hdb) pa_nil rfl) he) (by decide) (by decide) he rfl) ?_
  intro σ H Q h
  refine m1_read (r := fun v H Q => rIsi X.K [v, .ty T] H Q) ?_ h
  rintro v H Q ⟨Pr, m, S, w, z, s, r, hg, q⟩
  unfold gIsi at hg
  cases e : tyW S w with
  | none => rw [e] at hg; cases hg
  | some t =>
    rw [e] at hg; cases hg
    obtain ⟨h1, h2⟩ := tyW_ok s r e
    exact ⟨v, .ty T, .type t, .type T, isT T t, rfl, .ty T, h1, kit_ty (kit_tab t h2 T hT), q.bl s⟩
end
end Rb

/-! Rb7: targets, new lists (as data, as places of the store), what is walked, comprehensions. -/
namespace Rb
open PySem PySem.Spec PyProof.Rows L2

/-! ### targets -/
inductive Tg where
  | nm (i : Nat)
  | tp (ts : List Tg)
mutual
def asg : Tg → W → Env → Option Env
  | .nm i, w, env => some (eset env i (some w))
  | .tp ts, .val (.tuple us), env => asgs ts us env
  | .tp _, _, _ => none
def asgs : List Tg → List U → Env → Option Env
  | [], [], env => some env
  | t :: ts, u :: us, env => (asg t (.val u) env).bind fun env' => asgs ts us env'
  | _, _, _ => none
end
mutual
def slotsT : Tg → List Nat
  | .nm i => [i]
  | .tp ts => slotsTs ts
def slotsTs : List Tg → List Nat
  | [] => []
  | t :: ts => slotsT t ++ slotsTs ts
end
def wipeE (env : Env) : List Nat → Env
  | [] => env
  | v :: vs => eset (wipeE env vs) v none
theorem wipe_set {σ : L2.St} {i : Nat} {x : Option V} : ∀ {vs : List Nat}, i ∈ vs → wipe (σ.set i x) vs = wipe σ vs
  | [], h => by simp at h
  | v :: vs, h => by
    show (wipe (σ.set i x) vs).set v none = (wipe σ vs).set v none
    by_cases hv : i ∈ vs
    · rw [wipe_set hv]
    · have e : i = v := by
        rcases List.mem_cons.mp h with e | h
        · exact e
        · exact absurd h hv
      subst e
      have go : ∀ {ws : List Nat}, i ∉ ws → wipe (σ.set i x) ws = (wipe σ ws).set i x := by
        intro ws
        induction ws with
        | nil => intro _; rfl
        | cons w ws ih =>
          intro hw
          simp only [List.mem_cons, not_or] at hw
          show (wipe (σ.set i x) ws).set w none = ((wipe σ ws).set w none).set i x
          rw [ih hw.2, List.set_comm _ _ hw.1]
      rw [go hv, List.set_set]
theorem eget_wipe : ∀ {vs : List Nat} {env : Env} {i : Nat} {w : W}, eget (wipeE env vs) i = some w → eget env i = some w ∧ i ∉ vs
  | [], env, i, w, h => ⟨h, by simp⟩
  | v :: vs, env, i, w, h => by
    have h : eget (eset (wipeE env vs) v none) i = some w := h
    by_cases e : v = i
    · subst e; rw [eget_none_self] at h; cases h
    · rw [eget_eset_ne _ _ _ _ e] at h
      obtain ⟨h1, h2⟩ := eget_wipe h
      exact ⟨h1, by simp only [List.mem_cons, not_or]; exact ⟨fun z => e z.symm, h2⟩⟩
theorem wipeE_length : ∀ (vs : List Nat) (env : Env), (wipeE env vs).length = env.length
  | [], env => rfl
  | v :: vs, env => by show (eset _ _ _).length = _; rw [eset_length, wipeE_length vs env]
theorem ER.wipe {K : PySem.W.Frag} {Pr m : List Addr} {H : Hp} {env : Env} {σ : L2.St} (h : ER K Pr m H env σ) (vs : List Nat) : ER K Pr m H (wipeE env vs) (L2.wipe σ vs) := by
  refine ⟨by rw [wipeE_length, wipe_length]; exact h.len, fun i w q => ?_⟩
  obtain ⟨h1, h2⟩ := eget_wipe q
  obtain ⟨v, h3, h4⟩ := h.at_ i w h1
  exact ⟨v, by rw [wipe_out h2]; exact h3, h4⟩
/-- a target takes w -/
def gM (K : PySem.W.Frag) (t : Tg) : TG := fun v σ H Q => ∃ Pr m env S w, ER K Pr m H env σ ∧ SR K Pr m H S ∧ WR K Pr m H w v ∧
  match asg t w env with
  | some env' => ∀ σ', ER K Pr m H env' σ' → (∀ vs, (∀ i ∈ slotsT t, i ∈ vs) → L2.wipe σ' vs = L2.wipe σ vs) → Q σ' H
  | none => False
def gMs (K : PySem.W.Frag) (ts : List Tg) : TGs := fun xs σ H Q => ∃ Pr m env S us, ER K Pr m H env σ ∧ SR K Pr m H S ∧ URs K (Pr ++ m) H us xs ∧
  match asgs ts us env with
  | some env' => ∀ σ', ER K Pr m H env' σ' → (∀ vs, (∀ i ∈ slotsTs ts, i ∈ vs) → L2.wipe σ' vs = L2.wipe σ vs) → Q σ' H
  | none => False
theorem PG.weak {X : Cx} {e : Expr} {t t' : TG} (h : PG X e t) (k : ∀ v σ H Q, t' v σ H Q → t v σ H Q) : PG X e t' := ⟨fun pins s σ H v u Q I r q => h.run pins s σ H v u Q I r (k v σ H Q q)⟩
theorem PGs.weak {X : Cx} {e : List Expr} {t t' : TGs} (h : PGs X e t) (k : ∀ v σ H Q, t' v σ H Q → t v σ H Q) : PGs X e t' := ⟨fun pins s σ H v u Q I r q => h.run pins s σ H v u Q I r (k v σ H Q q)⟩
section
variable {X : Cx} {x : Str} {pos : Pos} {i : Nat} {e : Expr} {es : List Expr} {t : Tg} {ts : List Tg}
theorem pg_mName (hN : X.N.Nodup) (hi : X.N[i]? = some x) (hx : Loc X.env.scope x) (hf : X.fn x = true ∨ X.env.scope.names.lookup x = some .local) : PG X (.Name x pos) (gM X.K (.nm i)) := by
  refine PG.weak (pg_name hN hi hx hf) ?_
  rintro v σ H Q ⟨Pr, m, env, S, w, er, sr, r, h⟩
  simp only [asg] at h
  exact h _ (er.set r) fun vs hv => wipe_set (hv i (by simp [slotsT]))
theorem pgs_mNil : PGs X [] (gMs X.K []) := by
  refine PGs.weak pgs_nil ?_
  rintro v σ H Q ⟨Pr, m, env, S, us, er, sr, r, h⟩
  cases r with
  | nil => simp only [asgs] at h; exact ⟨rfl, h σ er fun _ _ => rfl⟩
  | cons _ _ => simp only [asgs] at h
theorem pgs_mCons (h1 : PG X e (gM X.K t)) (h2 : PGs X es (gMs X.K ts)) (hs : (assignEach (e :: es) X.env).map (·.2) = assign e X.env :: (assignEach es X.env).map (·.2)) : PGs X (e :: es) (gMs X.K (t :: ts)) := by
  refine PGs.weak (pgs_cons h1 h2 hs) ?_
  rintro xs σ H Q ⟨Pr, m, env, S, us, er, sr, r, h⟩
  cases r with
  | nil => simp only [asgs] at h
  | @cons u v us vs r rr =>
    simp only [asgs] at h
    refine ⟨v, vs, rfl, Pr, m, env, S, .val u, er, sr, .val r, ?_⟩
    cases h3 : asg t (.val u) env with
    | none => rw [h3] at h; simp only [Option.bind_none] at h
    | some env' =>
      rw [h3] at h
      simp only [Option.bind_some] at h
      intro σ' er' hw
      refine ⟨Pr, m, env', S, us, er', sr, rr, ?_⟩
      cases h4 : asgs ts us env' with
      | none => rw [h4] at h; exact h
      | some env'' =>
        rw [h4] at h
        intro σ'' er'' hw'
        refine h σ'' er'' fun vs hv => ?_
        rw [hw' vs fun i hi => hv i (by simp [slotsTs, hi]), hw vs fun i hi => hv i (by simp [slotsTs, hi])]
theorem asgs_len : ∀ {ts : List Tg} {us : List U} {env env' : Env}, asgs ts us env = some env' → us.length = ts.length
  | [], [], _, _, _ => rfl
  | [], _ :: _, _, _, h => by simp [asgs] at h
  | _ :: _, [], _, _, h => by simp [asgs] at h
  | t :: ts, u :: us, env, env', h => by
    simp only [asgs] at h
    obtain ⟨e1, _, h2⟩ := Option.bind_eq_some_iff.mp h
    exact congrArg (· + 1) (asgs_len h2)
theorem pg_mTup {k : Nat} (hc : X.calm = true) (h : PGs X es (gMs X.K ts)) (hn : (assignEach es X.env).length = ts.length) (hst : (assignEach es X.env).findIdx? (·.1) = none) : PG X (.Tuple es k pos) (gM X.K (.tp ts)) := by
  refine PG.weak (pg_tup hc h hn hst) ?_
  rintro v σ H Q ⟨Pr, m, env, S, w, er, sr, r, h⟩
  cases r with
  | loc _ => simp only [asg] at h
  | val r =>
    cases r with
    | tup h1 h2 =>
      rename_i a us xs
      simp only [asg] at h
      cases h3 : asgs ts us env with
      | none => rw [h3] at h; exact h.elim
      | some env' =>
        rw [h3] at h
        refine ⟨a, xs, rfl, h1, by rw [← h2.length]; exact asgs_len h3, Pr, m, env, S, us, er, sr, h2, ?_⟩
        rw [h3]
        exact h
    | _ => simp only [asg] at h
end

/-! ### new lists -/
abbrev MF := Env → Store → Out (List W)
def tF (K : PySem.W.Frag) (E : XK) (f : MF) : TE := fun σ H Q => ∃ Pr m env S, ER K Pr m H env σ ∧ SR K Pr m H S ∧
  match f env S with
  | .ok ws S' => ∀ m' H' a xs, Ext m m' H H' → H a = none → a ∉ Pr → SR K (a :: Pr) m' H' S' → H' a = some (.lst xs) → WRs K (a :: Pr) m' H' ws xs → Q (.ref a) H'
  | .ex x S' => RetX K Pr m H S' x E
  | .bad => False
mutual
theorem UR.fresh {K : PySem.W.Frag} {A : List Addr} {H : Hp} {p : Addr} {o : HO} (hp : H p = none) : ∀ {u : U} {v : V}, UR K A H u v → UR K (p :: A) (upd H p o) u v
  | _, _, .non => .non
  | _, _, .bl b => .bl b
  | _, _, .int i => .int i
  | _, _, .str x => .str x
  | _, _, .tup h q => .tup (SqT.ext (Ext.push (m := []) hp) h) (URs.fresh hp q)
  | _, _, .lst n h q => .lst (by simp only [List.mem_cons, not_or]; exact ⟨ne_of_none h hp, n⟩) (by rw [upd_ne (ne_of_none h hp)]; exact h) (URs.fresh hp q)
theorem URs.fresh {K : PySem.W.Frag} {A : List Addr} {H : Hp} {p : Addr} {o : HO} (hp : H p = none) : ∀ {us : List U} {vs : List V}, URs K A H us vs → URs K (p :: A) (upd H p o) us vs
  | _, _, .nil => .nil
  | _, _, .cons h t => .cons (UR.fresh hp h) (URs.fresh hp t)
end
theorem WR.fresh {K : PySem.W.Frag} {Pr m : List Addr} {H : Hp} {p : Addr} {o : HO} (hp : H p = none) {w : W} {v : V} (h : WR K Pr m H w v) : WR K (p :: Pr) m (upd H p o) w v := by
  cases h with
  | val h => exact .val (h.fresh hp)
  | loc h => exact .loc h
theorem WRs.fresh {K : PySem.W.Frag} {Pr m : List Addr} {H : Hp} {p : Addr} {o : HO} (hp : H p = none) : ∀ {ws : List W} {vs : List V}, WRs K Pr m H ws vs → WRs K (p :: Pr) m (upd H p o) ws vs
  | _, _, .nil => .nil
  | _, _, .cons h t => .cons (h.fresh hp) (WRs.fresh hp t)
theorem WR.sub {K : PySem.W.Frag} {Pr m : List Addr} {H : Hp} {p : Addr} {w : W} {v : V} (h : WR K (p :: Pr) m H w v) : WR K Pr m H w v := by
  cases h with
  | val h => exact .val (h.sub fun a z => List.mem_cons_of_mem _ z)
  | loc h => exact .loc h
theorem WRs.sub {K : PySem.W.Frag} {Pr m : List Addr} {H : Hp} {p : Addr} : ∀ {ws : List W} {vs : List V}, WRs K (p :: Pr) m H ws vs → WRs K Pr m H ws vs
  | _, _, .nil => .nil
  | _, _, .cons h t => .cons h.sub (WRs.sub t)
theorem OR.sub {K : PySem.W.Frag} {Pr m : List Addr} {H : Hp} {p a : Addr} {o : O} (h : OR K (p :: Pr) m H o a) : OR K Pr m H o a := by
  cases h with
  | scr h => exact .scr h
  | lst h q => exact .lst h (q.sub fun a z => List.mem_cons_of_mem _ z)
  | lol h q => exact .lol h q
theorem SR.unpr {K : PySem.W.Frag} {Pr m : List Addr} {H : Hp} {S : Store} {p : Addr} (s : SR K (p :: Pr) m H S) : SR K Pr m H S :=
  ⟨s.len, s.nd, fun a h => s.pr a (List.mem_cons_of_mem _ h), fun n o a h1 h2 => (s.obj n o a h1 h2).sub, s.old⟩
theorem OR.fresh {K : PySem.W.Frag} {Pr m : List Addr} {H : Hp} {p a : Addr} {o : O} {u : HO} (hp : H p = none) (h : OR K Pr m H o a) : OR K (p :: Pr) m (upd H p u) o a := by
  cases h with
  | scr e => exact .scr (by rw [upd_ne (ne_of_none e hp)]; exact e)
  | lst e q => exact .lst (by rw [upd_ne (ne_of_none e hp)]; exact e) (q.fresh hp)
  | lol e q => exact .lol (by rw [upd_ne (ne_of_none e hp)]; exact e) q
theorem SR.fresh {K : PySem.W.Frag} {Pr m : List Addr} {H : Hp} {S : Store} {p : Addr} {u : HO} (s : SR K Pr m H S) (hp : H p = none) : SR K (p :: Pr) m (upd H p u) S :=
  ⟨s.len, s.nd, fun a h => by
    rcases List.mem_cons.mp h with e | h
    · subst e
      refine ⟨fun z => s.free hp (List.mem_append_right _ z), by rw [upd_same]; intro z; cases z⟩
    · exact (s.push hp).pr a h, fun n o a h1 h2 => (s.obj n o a h1 h2).fresh hp, s.old⟩
/-- the new list as data -/
def mSnap (f : MF) : M := fun env S => (f env S).bind fun ws S1 => Out.opt ((allU ws).map fun us => .val (.list us)) S1
def allL : List W → Option (List Nat)
  | [] => some []
  | .loc n :: r => (allL r).map (n :: ·)
  | .val _ :: _ => none
theorem allL_ok {K : PySem.W.Frag} {Pr m : List Addr} {H : Hp} : ∀ {ws : List W} {vs : List V} {us : List Nat}, WRs K Pr m H ws vs → allL ws = some us → LR m us vs
  | _, _, _, .nil, h => by cases h; exact .nil
  | _, _, us, .cons (.loc r) t, h => by
    simp only [allL, Option.map_eq_some_iff] at h
    obtain ⟨us', h1, rfl⟩ := h
    exact .cons r (allL_ok t h1)
  | _, _, _, .cons (.val _) t, h => by cases h
/-- the object that a new list is -/
def mkO (ws : List W) : Option O := match allU ws with
  | some us => some (.lst us)
  | none => (allL ws).map .lol
/-- the new list in the store -/
def mBox (f : MF) : M := fun env S => (f env S).bind fun ws S1 => match mkO ws with
  | some o => .ok (.loc S1.length) (S1 ++ [o])
  | none => .bad
theorem snap_read {K : PySem.W.Frag} {E : XK} {f : MF} {σ : L2.St} {H : Hp} {Q : VK} (h : tM K E (mSnap f) σ H Q) : tF K E f σ H Q := by
  obtain ⟨Pr, m, env, S, er, sr, h⟩ := h
  refine ⟨Pr, m, env, S, er, sr, ?_⟩
  unfold mSnap at h
  cases h1 : f env S with
  | bad => simp only [h1, Out.bind_bad] at h
  | ex x S1 => simp only [h1, Out.bind_ex] at h ⊢; exact h
  | ok ws S1 =>
    simp only [h1, Out.bind_ok] at h ⊢
    intro m' H' a xs e _ ha s' hx r
    cases h2 : allU ws with
    | none => simp only [h2, Option.map_none, Out.opt_none] at h
    | some us =>
      simp only [h2, Option.map_some, Out.opt_some] at h
      have q := allU_ok r h2
      refine h m' H' _ e s'.unpr (.val (.lst ?_ hx (q.sub fun a z => List.mem_cons_of_mem _ z)))
      intro z
      rcases List.mem_append.mp z with z | z
      · exact ha z
      · exact (s'.pr a List.mem_cons_self).1 z
theorem mem_swap {Pr m : List Addr} {a : Addr} : ∀ b ∈ Pr ++ (m ++ [a]), b ∈ a :: Pr ++ m := by
  intro b h
  simp only [List.mem_append, List.mem_cons, List.mem_singleton, List.cons_append, List.not_mem_nil, or_false] at h ⊢
  rcases h with h | h | h
  · exact .inr (.inl h)
  · exact .inr (.inr h)
  · exact .inl h
theorem OR.boxed {K : PySem.W.Frag} {Pr m : List Addr} {H : Hp} {p a : Addr} {o : O} (h : OR K (p :: Pr) m H o a) : OR K Pr (m ++ [p]) H o a := by
  cases h with
  | scr h => exact .scr h
  | lst h q => exact .lst h (q.sub mem_swap)
  | lol h q => exact .lol h (q.ext (List.prefix_append _ _))
theorem mkO_ok {K : PySem.W.Frag} {Pr m : List Addr} {H : Hp} {a : Addr} {ws : List W} {xs : List V} {o : O} (r : WRs K (a :: Pr) m H ws xs) (hx : H a = some (.lst xs)) (h : mkO ws = some o) : OR K (a :: Pr) m H o a := by
  unfold mkO at h
  cases h2 : allU ws with
  | some us => rw [h2] at h; cases h; exact .lst hx (allU_ok r h2)
  | none =>
    rw [h2] at h
    cases h3 : allL ws with
    | none => rw [h3] at h; cases h
    | some ns => rw [h3] at h; cases h; exact .lol hx (allL_ok r h3)
theorem LR.older {m : List Addr} : ∀ {ns : List Nat} {vs : List V}, LR m ns vs → ns.all (fun n => decide (n < m.length)) = true
  | _, _, .nil => rfl
  | _, _, .cons h t => by
    rw [List.all_cons, LR.older t, Bool.and_true]
    exact decide_eq_true (List.getElem?_eq_some_iff.mp h).1
theorem OR.older {K : PySem.W.Frag} {Pr m : List Addr} {H : Hp} {o : O} {a : Addr} (h : OR K Pr m H o a) : o.olderThan m.length = true := by
  cases h with
  | scr _ => rfl
  | lst _ _ => rfl
  | lol _ q => exact q.older
theorem SR.box {K : PySem.W.Frag} {Pr m : List Addr} {H : Hp} {S : Store} {a : Addr} {o : O} (s : SR K (a :: Pr) m H S) (ha : a ∉ Pr) (h : OR K (a :: Pr) m H o a) : SR K Pr (m ++ [a]) H (S ++ [o]) where
  len := by rw [List.length_append, List.length_append, s.len]; rfl
  nd := List.nodup_append.mpr ⟨s.nd, by simp, fun x hx y hy e => by
    have : y = a := by simpa using hy
    subst this; subst e
    exact (s.pr x List.mem_cons_self).1 hx⟩
  pr := fun b hb => by
    obtain ⟨h1, h2⟩ := s.pr b (List.mem_cons_of_mem _ hb)
    refine ⟨fun z => ?_, h2⟩
    rcases List.mem_append.mp z with z | z
    · exact h1 z
    · have : b = a := by simpa using z
      subst this; exact ha hb
  obj := fun n o' b h1 h2 => by
    by_cases hn : n < S.length
    · rw [List.getElem?_append_left hn] at h1
      rw [List.getElem?_append_left (by rw [s.len]; exact hn)] at h2
      exact (s.obj n o' b h1 h2).boxed
    · have hn' : n = S.length := by
        have := (List.getElem?_eq_some_iff.mp h1).1
        rw [List.length_append] at this
        have h3 : ([o] : List O).length = 1 := rfl
        omega
      subst hn'
      rw [List.getElem?_append_right (Nat.le_refl _)] at h1
      rw [← s.len, List.getElem?_append_right (Nat.le_refl _)] at h2
      simp only [Nat.sub_self, List.getElem?_cons_zero, Option.some.injEq] at h1 h2
      subst h1 h2
      exact h.boxed
  old := fun n o' h1 => by
    by_cases hn : n < S.length
    · rw [List.getElem?_append_left hn] at h1
      exact s.old n o' h1
    · have hn' : n = S.length := by
        have := (List.getElem?_eq_some_iff.mp h1).1
        rw [List.length_append] at this
        have h3 : ([o] : List O).length = 1 := rfl
        omega
      subst hn'
      rw [List.getElem?_append_right (Nat.le_refl _)] at h1
      simp only [Nat.sub_self, List.getElem?_cons_zero, Option.some.injEq] at h1
      subst h1
      rw [← s.len]
      exact h.older
theorem box_read {K : PySem.W.Frag} {E : XK} {f : MF} {σ : L2.St} {H : Hp} {Q : VK} (h : tM K E (mBox f) σ H Q) : tF K E f σ H Q := by
  obtain ⟨Pr, m, env, S, er, sr, h⟩ := h
  refine ⟨Pr, m, env, S, er, sr, ?_⟩
  unfold mBox at h
  cases h1 : f env S with
  | bad => simp only [h1, Out.bind_bad] at h
  | ex x S1 => simp only [h1, Out.bind_ex] at h ⊢; exact h
  | ok ws S1 =>
    simp only [h1, Out.bind_ok] at h ⊢
    intro m' H' a xs e hnew ha s' hx r
    cases h2 : mkO ws with
    | none => simp only [h2] at h
    | some o =>
      simp only [h2] at h
      refine h (m' ++ [a]) H' _ ⟨e.keep, e.tups, e.frzs, fun b hb => ?_, e.pre.trans (List.prefix_append _ _)⟩ (s'.box ha (mkO_ok r hx h2)) (.loc ?_)
      · rcases List.mem_append.mp hb with hb | hb
        · exact e.new b hb
        · have : b = a := by simpa using hb
          subst this; exact .inr hnew
      · rw [← s'.len, List.getElem?_append_right (Nat.le_refl _)]
        simp
/-- what is new now was new before -/
theorem Ext.new0 {K : PySem.W.Frag} {Pr m m' : List Addr} {H H' : Hp} {S : Store} (e : Ext m m' H H') (s : SR K Pr m' H' S) {p : Addr} (hp : H' p = Option.none) : H p = Option.none := by
  cases h : H p with
  | none => rfl
  | some o =>
    by_cases q : p ∈ m
    · exact absurd hp (s.tracked (List.mem_append_right _ (e.pre.subset q)))
    · rw [e.keep p o q h] at hp; cases hp
section
variable {X : Cx} {E : XK} {es : List Expr} {pos : Pos} {g : MA}
/-- a list display -/
theorem pf_lst (h : PA X es (tMA X.K E g)) : PE X (.List es pos) (tF X.K E fun env S => (g env S).bind fun ws S1 => if ws.length ≤ 16777216 then .ok ws S1 else .bad) := by
  refine PE.weak (pe_lst h) ?_
  rintro σ H Q ⟨Pr, m, env, S, er, sr, h⟩
  refine ⟨Pr, m, env, S, er, sr, ?_⟩
  cases h1 : g env S with
  | bad => simp only [h1, Out.bind_bad] at h
  | ex x S1 => simp only [h1, Out.bind_ex] at h ⊢; exact h
  | ok ws S1 =>
    simp only [h1, Out.bind_ok] at h ⊢
    intro m1 H1 vs e1 s1 r1
    by_cases hz : ws.length ≤ 16777216
    · simp only [if_pos hz] at h
      refine ⟨by rw [← r1.length, line_eq]; exact hz, fun p hp => ?_⟩
      have hn := e1.new0 s1 hp
      exact h m1 _ p vs (e1.trans (.push hp)) hn (fun z => s1.free hp (List.mem_append_left _ z)) (s1.fresh hp) upd_same (r1.fresh hp)
    · simp only [if_neg hz] at h
end
end Rb

/-! Rb8: what is walked; comprehensions. -/
namespace Rb
open PySem PySem.Spec PyProof.Rows L2

inductive Itx where
  | fix (ws : List W)
  | live (n : Nat)
abbrev MI := Env → Store → Out Itx
def nextW : Itx → Nat → Store → Option (Option W)
  | .fix ws, i, _ => if i ≤ ws.length then some ws[i]? else none
  | .live n, i, S => (oI S[n]?).map fun p => p.2[i]?
/-- (Pr, m, H) and later -/
structure Lt (Pr m : List Addr) (H : Hp) (Pr' m' : List Addr) (H' : Hp) : Prop where
  ext : Ext m m' H H'
  pr : ∀ d ∈ Pr', d ∈ Pr ∨ H d = none
theorem Lt.trans {Pr m Pr' m' Pr'' m'' : List Addr} {H H' H'' : Hp} (a : Lt Pr m H Pr' m' H') (b : Lt Pr' m' H' Pr'' m'' H'') (hn : ∀ p, H' p = none → H p = none) : Lt Pr m H Pr'' m'' H'' :=
  ⟨a.ext.trans b.ext, fun d h => by
    rcases b.pr d h with z | z
    · exact a.pr d z
    · exact .inr (hn d z)⟩
theorem URs.later {K : PySem.W.Frag} {Pr m Pr' m' : List Addr} {H H' : Hp} (l : Lt Pr m H Pr' m' H') {us : List U} {vs : List V} (h : URs K (Pr ++ m) H us vs) : URs K (Pr' ++ m') H' us vs :=
  h.extn l.ext (fun a z => List.mem_append_right _ z) fun a z => by
    rcases List.mem_append.mp z with z | z
    · rcases l.pr a z with z | z
      · exact .inl (List.mem_append_left _ z)
      · exact .inr (.inr z)
    · exact .inr (.inl z)
theorem UR.later {K : PySem.W.Frag} {Pr m Pr' m' : List Addr} {H H' : Hp} (l : Lt Pr m H Pr' m' H') {us : U} {vs : V} (h : UR K (Pr ++ m) H us vs) : UR K (Pr' ++ m') H' us vs :=
  h.extn l.ext (fun a z => List.mem_append_right _ z) fun a z => by
    rcases List.mem_append.mp z with z | z
    · rcases l.pr a z with z | z
      · exact .inl (List.mem_append_left _ z)
      · exact .inr (.inr z)
    · exact .inr (.inl z)
theorem WR.later {K : PySem.W.Frag} {Pr m Pr' m' : List Addr} {H H' : Hp} (l : Lt Pr m H Pr' m' H') {w : W} {v : V} (h : WR K Pr m H w v) : WR K Pr' m' H' w v := by
  cases h with
  | val h => exact .val (h.later l)
  | loc h => exact .loc (pre_get l.ext.pre h)
theorem WRs.later {K : PySem.W.Frag} {Pr m Pr' m' : List Addr} {H H' : Hp} (l : Lt Pr m H Pr' m' H') : ∀ {ws : List W} {vs : List V}, WRs K Pr m H ws vs → WRs K Pr' m' H' ws vs
  | _, _, .nil => .nil
  | _, _, .cons h t => .cons (h.later l) (WRs.later l t)
theorem ER.later {K : PySem.W.Frag} {Pr m Pr' m' : List Addr} {H H' : Hp} {env : Env} {σ : L2.St} (l : Lt Pr m H Pr' m' H') (h : ER K Pr m H env σ) : ER K Pr' m' H' env σ :=
  ⟨h.len, fun i w q => let ⟨v, h1, h2⟩ := h.at_ i w q; ⟨v, h1, h2.later l⟩⟩
/-- an iterator's turns are those of itr -/
def StepOk (K : PySem.W.Frag) (Pr m : List Addr) (H : Hp) (itr : Itx) (J : It) : Prop := ∀ i Pr' m' H' S', Lt Pr m H Pr' m' H' → SR K Pr' m' H' S' →
  (nextW itr i S' = some none → J.stop i H') ∧ ∀ w, nextW itr i S' = some (some w) → J.go i H' ∧ ∀ x H'', J.yld i H' x H'' → Ext m' m' H' H'' ∧ SR K Pr' m' H'' S' ∧ WR K Pr' m' H'' w x
def tI (K : PySem.W.Frag) (E : XK) (it : MI) : TI := fun σ H R => ∃ Pr m env S, ER K Pr m H env σ ∧ SR K Pr m H S ∧
  match it env S with
  | .ok itr S' => ∀ m' H' J, Ext m m' H H' → SR K Pr m' H' S' → StepOk K Pr m' H' itr J → R J H'
  | .ex x S' => RetX K Pr m H S' x E
  | .bad => False
theorem PI.weak {X : Cx} {tg e : Expr} {t t' : TI} (h : PI X tg e t) (k : ∀ σ H R, t' σ H R → t σ H R) : PI X tg e t' := ⟨fun pins s σ H R I q => h.run pins s σ H R I (k σ H R q)⟩

/-! ### a sequence, a range -/
def itSeq (b : Bool) (f : M) : MI := fun env S => (f env S).bind fun w S1 => match w with
  | .val u => (match uI u with
    | some (c, ws) => if c = b then .ok (.fix ws) S1 else .bad
    | none => .bad)
  | .loc n => if b = true then .ok (.live n) S1 else .bad
theorem nextW_fix {ws : List W} {i : Nat} {S : Store} {o : Option W} (h : nextW (.fix ws) i S = some o) : ws[i]? = o := by
  have h : (if i ≤ ws.length then some ws[i]? else none) = some o := h
  by_cases hi : i ≤ ws.length
  · rw [if_pos hi] at h; exact Option.some.inj h
  · rw [if_neg hi] at h; cases h
theorem nextW_live {n i : Nat} {S : Store} {o : Option W} (h : nextW (.live n) i S = some o) : ∃ p, oI S[n]? = some p ∧ p.2[i]? = o := by
  have h : ((oI S[n]?).map fun p => p.2[i]?) = some o := h
  exact Option.map_eq_some_iff.mp h
theorem step_list {K : PySem.W.Frag} {Pr m : List Addr} {H : Hp} {ws : List W} {a : Addr} {xs : List V} (ha : a ∉ m) (h : H a = some (.lst xs)) (r : WRs K Pr m H ws xs) : StepOk K Pr m H (.fix ws) (Itl K a) := by
  intro i Pr' m' H' S' l s
  have h' : SqL K H' a xs := SqL.of (l.ext.keep a _ ha h)
  refine ⟨fun e => ?_, fun w e => ?_⟩
  · have e := nextW_fix e
    exact ⟨xs, h', by rw [← r.length]; exact List.getElem?_eq_none_iff.mp e⟩
  · have e := nextW_fix e
    obtain ⟨v, h1, h2⟩ := r.get e
    refine ⟨⟨xs, v, h', h1⟩, fun x H'' y => ?_⟩
    obtain ⟨rfl, hy⟩ := y
    have := hy xs h'
    rw [h1] at this; cases this
    exact ⟨.refl, s, h2.later l⟩
theorem step_tup {K : PySem.W.Frag} {Pr m : List Addr} {H : Hp} {ws : List W} {a : Addr} {xs : List V} (h : SqT K H a xs) (r : WRs K Pr m H ws xs) : StepOk K Pr m H (.fix ws) (Itt K a) := by
  intro i Pr' m' H' S' l s
  have h' : SqT K H' a xs := Rb.SqT.ext l.ext h
  refine ⟨fun e => ?_, fun w e => ?_⟩
  · have e := nextW_fix e
    exact ⟨xs, h', by rw [← r.length]; exact List.getElem?_eq_none_iff.mp e⟩
  · have e := nextW_fix e
    obtain ⟨v, h1, h2⟩ := r.get e
    refine ⟨⟨xs, v, h', h1⟩, fun x H'' y => ?_⟩
    obtain ⟨rfl, hy⟩ := y
    have := hy xs h'
    rw [h1] at this; cases this
    exact ⟨.refl, s, h2.later l⟩
theorem items_live {K : PySem.W.Frag} {Pr m : List Addr} {H : Hp} {S : Store} {n : Nat} {a : Addr} {p : Bool × List W} (s : SR K Pr m H S) (ha : m[n]? = some a) (h : oI S[n]? = some p) : ∃ xs, SqL K H a xs ∧ WRs K Pr m H p.2 xs := by
  have hb : p.1 = true := by
    cases q : S[n]? with
    | none => rw [q] at h; cases h
    | some o => rw [q] at h; cases o <;> cases h <;> rfl
  obtain ⟨b, ws⟩ := p
  obtain ⟨a', xs, e, h1, h2⟩ := itemsW_ok (b := b) (us := ws) s (.loc ha) h
  cases e
  simp only at hb
  subst hb
  exact ⟨xs, h1, h2⟩
theorem step_live {K : PySem.W.Frag} {Pr m : List Addr} {H : Hp} {n : Nat} {a : Addr} (ha : m[n]? = some a) : StepOk K Pr m H (.live n) (Itl K a) := by
  intro i Pr' m' H' S' l s
  have ha' := pre_get l.ext.pre ha
  refine ⟨fun e => ?_, fun w e => ?_⟩
  · obtain ⟨p, q, e⟩ := nextW_live e
    obtain ⟨xs, h1, h2⟩ := items_live s ha' q
    exact ⟨xs, h1, by rw [← h2.length]; exact List.getElem?_eq_none_iff.mp e⟩
  · obtain ⟨p, q, e⟩ := nextW_live e
    obtain ⟨xs, h1, h2⟩ := items_live s ha' q
    obtain ⟨v, h3, h4⟩ := h2.get e
    refine ⟨⟨xs, v, h1, h3⟩, fun x H'' y => ?_⟩
    obtain ⟨rfl, hy⟩ := y
    have := hy xs h1
    rw [h3] at this; cases this
    exact ⟨.refl, s, h4⟩
section
variable {X : Cx} {E : XK} {tg a b : Expr} {es : List Expr} {pos p : Pos} {f : M} {g : MA}
/-- a list (data, or of the store) -/
theorem pi_mList (ha : PE X a (tM X.K E f)) : PI X tg a (tI X.K E (itSeq true f)) := by
  refine PI.weak (pi_list ha) ?_
  rintro σ H R ⟨Pr, m, env, S, er, sr, h⟩
  refine ⟨Pr, m, env, S, er, sr, ?_⟩
  unfold itSeq at h
  cases h1 : f env S with
  | bad => simp only [h1, Out.bind_bad] at h
  | ex x S1 => simp only [h1, Out.bind_ex] at h ⊢; exact h
  | ok w S1 =>
    simp only [h1, Out.bind_ok] at h ⊢
    intro m1 H1 v e1 s1 r1
    cases r1 with
    | @loc n a q =>
      simp only [reduceIte] at h
      obtain ⟨u, hu, _⟩ : ∃ u, H1 a = some u ∧ True := by
        have hn : n < S1.length := by rw [← s1.len]; exact (List.getElem?_eq_some_iff.mp q).1
        obtain ⟨u, hu, _⟩ := (s1.obj n _ a (List.getElem?_eq_getElem hn) q).some
        exact ⟨u, hu, trivial⟩
      have hn : n < S1.length := by rw [← s1.len]; exact (List.getElem?_eq_some_iff.mp q).1
      have ho := s1.obj n _ a (List.getElem?_eq_getElem hn) q
      refine ⟨a, rfl, ?_, h m1 H1 _ e1 s1 (step_live q)⟩
      revert ho
      generalize S1[n] = o
      intro ho
      cases ho with
      | scr h => exact ⟨_, .inl (.inr ⟨_, h⟩)⟩
      | lst h _ => exact ⟨_, SqL.of h⟩
      | lol h _ => exact ⟨_, SqL.of h⟩
    | val r1 =>
      cases r1 with
      | lst k1 k2 k3 =>
        simp only [uI, reduceIte] at h
        exact ⟨_, rfl, ⟨_, SqL.of k2⟩, h m1 H1 _ e1 s1 (step_list (fun z => k1 (List.mem_append_right _ z)) k2 k3.wrs)⟩
      | tup k1 k2 => simp only [uI, reduceIte, Bool.false_eq_true] at h
      | _ => simp only [uI] at h
theorem pi_mTup (ha : PE X a (tM X.K E f)) : PI X tg a (tI X.K E (itSeq false f)) := by
  refine PI.weak (pi_tup ha) ?_
  rintro σ H R ⟨Pr, m, env, S, er, sr, h⟩
  refine ⟨Pr, m, env, S, er, sr, ?_⟩
  unfold itSeq at h
  cases h1 : f env S with
  | bad => simp only [h1, Out.bind_bad] at h
  | ex x S1 => simp only [h1, Out.bind_ex] at h ⊢; exact h
  | ok w S1 =>
    simp only [h1, Out.bind_ok] at h ⊢
    intro m1 H1 v e1 s1 r1
    cases r1 with
    | loc q => simp only [reduceIte, Bool.false_eq_true] at h
    | val r1 =>
      cases r1 with
      | tup k1 k2 =>
        simp only [uI, reduceIte] at h
        exact ⟨_, rfl, ⟨_, k1⟩, h m1 H1 _ e1 s1 (step_tup k1 k2.wrs)⟩
      | lst k1 k2 k3 => simp only [uI, reduceIte, Bool.true_eq_false] at h
      | _ => simp only [uI] at h
/-- ints lo, lo + 1, .. -/
def rgW (lo : Int) (n : Nat) : List W := (List.range n).map fun i => .val (.int (lo + (i : Nat)))
theorem step_rng {K : PySem.W.Frag} {Pr m : List Addr} {H : Hp} {lo : Int} {n : Nat} : StepOk K Pr m H (.fix (rgW lo n)) (L2.Itr lo n) := by
  intro i Pr' m' H' S' l s
  have hl : (rgW lo n).length = n := by unfold rgW; simp
  refine ⟨fun e => ?_, fun w e => ?_⟩
  · have e := nextW_fix e
    have := List.getElem?_eq_none_iff.mp e
    rw [hl] at this
    exact this
  · have e := nextW_fix e
    have hi := (List.getElem?_eq_some_iff.mp e).1
    rw [hl] at hi
    refine ⟨hi, fun x H'' y => ?_⟩
    obtain ⟨rfl, rfl⟩ := y
    refine ⟨.refl, s, ?_⟩
    unfold rgW at e
    rw [List.getElem?_map, List.getElem?_range hi] at e
    cases e
    exact .val (.int _)
def okR (i : Int) : Bool := decide (-(2 ^ 62) ≤ i ∧ i < 2 ^ 62)
def itR1 (f : MA) : MI := fun env S => (f env S).bind fun ws S1 => match ws with
  | [w] => (match uInt w with
    | some j => if okR j = true then .ok (.fix (rgW 0 j.toNat)) S1 else .bad
    | none => .bad)
  | _ => .bad
def itR2 (f : MA) : MI := fun env S => (f env S).bind fun ws S1 => match ws with
  | [w, w'] => (match uInt w, uInt w' with
    | some i, some j => if (okR i && okR j) = true then .ok (.fix (rgW i (j - i).toNat)) S1 else .bad
    | _, _ => .bad)
  | _ => .bad
theorem pi_mR1 (hg : Gl X "range") (hm : X.mg "range" = none) (ha : PA X [a] (tMA X.K E g)) (hs : starEach [a] X.env = [(false, eval a X.env)]) : PI X tg (.Call (.Name "range" p) [a] [] pos) (tI X.K E (itR1 g)) := by
  refine PI.weak (pi_range1 hg hm ha hs) ?_
  rintro σ H R ⟨Pr, m, env, S, er, sr, h⟩
  refine ⟨Pr, m, env, S, er, sr, ?_⟩
  unfold itR1 at h
  cases h1 : g env S with
  | bad => simp only [h1, Out.bind_bad] at h
  | ex x S1 => simp only [h1, Out.bind_ex] at h ⊢; exact h
  | ok ws S1 =>
    simp only [h1, Out.bind_ok] at h ⊢
    intro m1 H1 vs e1 s1 r1
    cases r1 with
    | nil => simp only at h
    | cons r t =>
      cases t with
      | cons r' t => simp only at h
      | nil =>
        rename_i w v
        cases h2 : uInt w with
        | none => simp only [h2] at h
        | some j =>
          by_cases h3 : okR j = true
          · simp only [h2, if_pos h3] at h
            have h4 := of_decide_eq_true (p := -(2 ^ 62) ≤ j ∧ j < 2 ^ 62) h3
            exact ⟨j, by rw [uInt_ok r h2], h4.1, h4.2, h m1 H1 _ e1 s1 step_rng⟩
          · simp only [h2, if_neg h3] at h
theorem pi_mR2 (hg : Gl X "range") (hm : X.mg "range" = none) (ha : PA X [a, b] (tMA X.K E g)) (hs : starEach [a, b] X.env = [(false, eval a X.env), (false, eval b X.env)]) (hs2 : starEach [b] X.env = [(false, eval b X.env)]) : PI X tg (.Call (.Name "range" p) [a, b] [] pos) (tI X.K E (itR2 g)) := by
  refine PI.weak (pi_range2 hg hm ha hs hs2) ?_
  rintro σ H R ⟨Pr, m, env, S, er, sr, h⟩
  refine ⟨Pr, m, env, S, er, sr, ?_⟩
  unfold itR2 at h
  cases h1 : g env S with
  | bad => simp only [h1, Out.bind_bad] at h
  | ex x S1 => simp only [h1, Out.bind_ex] at h ⊢; exact h
  | ok ws S1 =>
    simp only [h1, Out.bind_ok] at h ⊢
    intro m1 H1 vs e1 s1 r1
    cases r1 with
    | nil => simp only at h
    | cons r t =>
      cases t with
      | nil => simp only at h
      | cons r' t =>
        cases t with
        | cons r'' t => simp only at h
        | nil =>
          rename_i w v w' v'
          cases h2 : uInt w with
          | none => simp only [h2] at h
          | some i =>
            cases h2' : uInt w' with
            | none => simp only [h2, h2'] at h
            | some j =>
              by_cases h3 : (okR i && okR j) = true
              · simp only [h2, h2', if_pos h3] at h
                rw [Bool.and_eq_true] at h3
                have h4 := of_decide_eq_true (p := -(2 ^ 62) ≤ i ∧ i < 2 ^ 62) h3.1
                have h5 := of_decide_eq_true (p := -(2 ^ 62) ≤ j ∧ j < 2 ^ 62) h3.2
                exact ⟨i, j, by rw [uInt_ok r h2, uInt_ok r' h2'], ⟨h4.1, h4.2, h5.1, h5.2⟩, h m1 H1 _ e1 s1 step_rng⟩
              · simp only [h2, h2', if_neg h3] at h
end

/-! ### comprehensions -/
def noEx {α : Type} : Out α → Out α
  | .ok a S => .ok a S
  | _ => .bad
@[simp] theorem noEx_ok {α : Type} (a : α) (S : Store) : noEx (.ok a S) = .ok a S := rfl
@[simp] theorem noEx_bad {α : Type} : noEx (.bad : Out α) = .bad := rfl
@[simp] theorem noEx_ex {α : Type} (x : Exc) (S : Store) : noEx (.ex x S : Out α) = .bad := rfl
def tst (f : M) (env : Env) (S : Store) : Out Bool := (f env S).bind fun x S1 => match tru S1 x with
  | some b => .ok b S1
  | none => .bad
def tstO (c : Option M) (env : Env) (S : Store) : Out Bool := match c with
  | none => .ok true S
  | some f => tst f env S
def compStep (tg : Tg) (c : Option M) (elt : M) (env : Env) (w : W) (S : Store) (k : Store → Out (List W)) : Out (List W) := match asg tg w env with
  | none => .bad
  | some env1 => (noEx (tstO c env1 S)).bind fun b S1 => if b = true then (noEx (elt env1 S1)).bind fun u S2 => (k S2).bind fun us S3 => .ok (u :: us) S3 else k S1
def compL (tg : Tg) (c : Option M) (elt : M) (env : Env) : List W → Store → Out (List W)
  | [], S => .ok [] S
  | w :: ws, S => compStep tg c elt env w S (compL tg c elt env ws)
def compV (tg : Tg) (c : Option M) (elt : M) (env : Env) (n : Nat) : Nat → Nat → Store → Out (List W)
  | 0, _, _ => .bad
  | f + 1, i, S => match nextW (.live n) i S with
    | none => .bad
    | some none => .ok [] S
    | some (some w) => compStep tg c elt env w S (compV tg c elt env n f (i + 1))
def compI (tg : Tg) (c : Option M) (elt : M) (env : Env) (itr : Itx) (S : Store) : Out (List W) := match itr with
  | .fix ws => compL tg c elt env ws S
  | .live n => compV tg c elt env n 100000 0 S
def mComp (own : List Nat) (it : MI) (tg : Tg) (c : Option M) (elt : M) : MF := fun env S => (it env S).bind fun itr S1 => (noEx (compI tg c elt (wipeE env own) itr S1)).bind fun ws S2 => if ws.length ≤ 16777216 then .ok ws S2 else .bad
/-- the rest of a walk from turn i on -/
structure Rem (tg : Tg) (c : Option M) (elt : M) (env : Env) (itr : Itx) (N : Nat) (R : Nat → Store → Out (List W)) : Prop where
  unf : ∀ i S, R i S = .bad ∨ R i S = match nextW itr i S with
    | none => .bad
    | some none => .ok [] S
    | some (some w) => compStep tg c elt env w S (R (i + 1))
  top : ∀ i S, N < i → R i S = .bad
theorem rem_fix (tg : Tg) (c : Option M) (elt : M) (env : Env) (ws : List W) : Rem tg c elt env (.fix ws) ws.length (fun i S => if i ≤ ws.length then compL tg c elt env (ws.drop i) S else .bad) where
  unf := fun i S => by
    by_cases hi : i ≤ ws.length
    · refine .inr ?_
      simp only [nextW, if_pos hi]
      by_cases hl : i < ws.length
      · rw [List.drop_eq_getElem_cons hl, List.getElem?_eq_getElem hl, compL]
        have : (fun S => if i + 1 ≤ ws.length then compL tg c elt env (ws.drop (i + 1)) S else .bad) = compL tg c elt env (ws.drop (i + 1)) := by
          funext S; rw [if_pos (show i + 1 ≤ ws.length from hl)]
        rw [this]
      · have e : i = ws.length := by omega
        subst e
        rw [List.drop_length, List.getElem?_eq_none (Nat.le_refl _)]
        simp only [compL]
    · exact .inl (if_neg hi)
  top := fun i S h => if_neg (by omega)
theorem rem_live (tg : Tg) (c : Option M) (elt : M) (env : Env) (n : Nat) : Rem tg c elt env (.live n) 100000 (fun i S => compV tg c elt env n (100000 - i) i S) where
  unf := fun i S => by
    cases h : 100000 - i with
    | zero => exact .inl (by simp only [compV])
    | succ f =>
      refine .inr ?_
      have e : 100000 - (i + 1) = f := by omega
      rw [e]
      simp only [compV]
  top := fun i S h => by
    have e : 100000 - i = 0 := by omega
    simp only [e, compV]
mutual
/-- what is being made is changed -/
theorem UR.priv {K : PySem.W.Frag} {A : List Addr} {H : Hp} {D : Addr} {o : HO} {xs : List V} (hD : H D = some (.lst xs)) (hA : D ∈ A) : ∀ {u : U} {v : V}, UR K A H u v → UR K A (upd H D o) u v
  | _, _, .non => .non
  | _, _, .bl b => .bl b
  | _, _, .int i => .int i
  | _, _, .str x => .str x
  | _, _, .tup h q => .tup (by
      rcases h with (h | ⟨o', h⟩) | h
      · exact .inl (.inl (by rw [upd_ne (ne_of h hD (by intro z; cases z))]; exact h))
      · exact .inl (.inr ⟨o', by rw [upd_ne (ne_of h hD (by intro z; cases z))]; exact h⟩)
      · exact .inr h) (URs.priv hD hA q)
  | _, _, .lst n h q => .lst n (by rw [upd_ne (fun z => n (by rw [z]; exact hA))]; exact h) (URs.priv hD hA q)
theorem URs.priv {K : PySem.W.Frag} {A : List Addr} {H : Hp} {D : Addr} {o : HO} {xs : List V} (hD : H D = some (.lst xs)) (hA : D ∈ A) : ∀ {us : List U} {vs : List V}, URs K A H us vs → URs K A (upd H D o) us vs
  | _, _, .nil => .nil
  | _, _, .cons h t => .cons (UR.priv hD hA h) (URs.priv hD hA t)
end
theorem WR.priv {K : PySem.W.Frag} {Pr m : List Addr} {H : Hp} {D : Addr} {o : HO} {xs : List V} (hD : H D = some (.lst xs)) (hA : D ∈ Pr) {w : W} {v : V} (h : WR K Pr m H w v) : WR K Pr m (upd H D o) w v := by
  cases h with
  | val h => exact .val (h.priv hD (List.mem_append_left _ hA))
  | loc h => exact .loc h
theorem WRs.priv {K : PySem.W.Frag} {Pr m : List Addr} {H : Hp} {D : Addr} {o : HO} {xs : List V} (hD : H D = some (.lst xs)) (hA : D ∈ Pr) : ∀ {ws : List W} {vs : List V}, WRs K Pr m H ws vs → WRs K Pr m (upd H D o) ws vs
  | _, _, .nil => .nil
  | _, _, .cons h t => .cons (h.priv hD hA) (WRs.priv hD hA t)
theorem SR.priv {K : PySem.W.Frag} {Pr m : List Addr} {H : Hp} {S : Store} {D : Addr} {o : HO} {xs : List V} (hD : H D = some (.lst xs)) (hA : D ∈ Pr) (s : SR K Pr m H S) : SR K Pr m (upd H D o) S where
  len := s.len
  nd := s.nd
  pr := fun a h => ⟨(s.pr a h).1, by
    by_cases e : a = D
    · subst e; rw [upd_same]; intro z; cases z
    · rw [upd_ne e]; exact (s.pr a h).2⟩
  obj := fun n ob a h1 h2 => by
    have hne : a ≠ D := fun z => (s.pr D hA).1 (by rw [← z]; exact List.mem_of_getElem? h2)
    cases s.obj n ob a h1 h2 with
    | scr e => exact .scr (by rw [upd_ne hne]; exact e)
    | lst e q => exact .lst (by rw [upd_ne hne]; exact e) (q.priv hD (List.mem_append_left _ hA))
    | lol e q => exact .lol (by rw [upd_ne hne]; exact e) q
  old := s.old
theorem WRs.snoc {K : PySem.W.Frag} {Pr m : List Addr} {H : Hp} {w : W} {v : V} (r : WR K Pr m H w v) : ∀ {ws : List W} {vs : List V}, WRs K Pr m H ws vs → WRs K Pr m H (ws ++ [w]) (vs ++ [v])
  | _, _, .nil => .cons r .nil
  | _, _, .cons h t => .cons h (WRs.snoc r t)
theorem Ext.priv {m m' : List Addr} {H H' : Hp} {D : Addr} {o : HO} (e : Ext m m' H H') (hD : H D = none) : Ext m m' H (upd H' D o) where
  keep := fun a ob h1 h2 => by rw [upd_ne (ne_of_none h2 hD)]; exact e.keep a ob h1 h2
  tups := fun a xs h2 => by rw [upd_ne (ne_of_none h2 hD)]; exact e.tups a xs h2
  frzs := fun a ob u h2 => by rw [upd_ne (ne_of_none h2 hD)]; exact e.frzs a ob u h2
  new := e.new
  pre := e.pre
abbrev E0' : XK := fun _ _ _ => False
def tOpt (K : PySem.W.Frag) (c : Option M) : TT := match c with
  | none => tYes
  | some f => tT K E0' f
theorem tOpt_read {K : PySem.W.Frag} {c : Option M} {Pr m : List Addr} {H : Hp} {env : Env} {σ : L2.St} {S : Store} {Q : Bool → Hp → Prop} (er : ER K Pr m H env σ) (sr : SR K Pr m H S) {b : Bool} {S1 : Store} (h : tstO c env S = .ok b S1)
    (q : ∀ m' H', Ext m m' H H' → SR K Pr m' H' S1 → Q b H') : tOpt K c σ H Q := by
  cases c with
  | none =>
    have h : Out.ok true S = .ok b S1 := h
    cases h
    exact q m H .refl sr
  | some f =>
    refine ⟨Pr, m, env, S, er, sr, ?_⟩
    have h : tst f env S = .ok b S1 := h
    unfold tst at h
    cases h1 : f env S with
    | bad => rw [h1] at h; cases h
    | ex x S' => rw [h1] at h; cases h
    | ok w S' =>
      rw [h1] at h
      simp only [Out.bind_ok] at h
      cases h2 : tru S' w with
      | none => rw [h2] at h; cases h
      | some k =>
        rw [h2] at h
        simp only at h
        cases h
        simp only [h2]
        exact q
theorem comp_read {K : PySem.W.Frag} {E : XK} {own : List Nat} {it : MI} {tg : Tg} {c : Option M} {elt : M} (hown : ∀ i ∈ slotsT tg, i ∈ own) {σ : L2.St} {H : Hp} {Q : VK} (h : tF K E (mComp own it tg c elt) σ H Q) :
    tLc (tI K E it) (gM K tg) (tOpt K c) (tM K E0' elt) own σ H Q := by
  obtain ⟨Pr, m, env, S, er, sr, h⟩ := h
  refine ⟨Pr, m, env, S, er, sr, ?_⟩
  unfold mComp at h
  cases h1 : it env S with
  | bad => simp only [h1, Out.bind_bad] at h
  | ex x S1 => simp only [h1, Out.bind_ex] at h ⊢; exact h
  | ok itr S1 =>
    simp only [h1, Out.bind_ok] at h ⊢
    intro m1 H1 J e1 s1 step D hD
    -- the result
    cases h2 : compI tg c elt (wipeE env own) itr S1 with
    | bad => simp only [h2, noEx_bad, Out.bind_bad] at h
    | ex x S2 => simp only [h2, noEx_ex, Out.bind_bad] at h
    | ok wsAll S2 =>
      by_cases hz : wsAll.length ≤ 16777216
      · simp only [h2, noEx_ok, Out.bind_ok, if_pos hz] at h
        obtain ⟨N, R, rm, hR0⟩ : ∃ N R, Rem tg c elt (wipeE env own) itr N R ∧ R 0 S1 = .ok wsAll S2 := by
          cases itr with
          | fix ws => exact ⟨_, _, rem_fix tg c elt _ ws, by simp only [Nat.zero_le, if_true, List.drop_zero]; exact h2⟩
          | live n => exact ⟨_, _, rem_live tg c elt _ n, h2⟩
        have hDn : H D = none := e1.new0 s1 hD
        have hDp : D ∉ Pr := fun z => s1.free hD (List.mem_append_left _ z)
        let Pv : Nat → Hp → Prop := fun i H' => ∃ m' S' acc accV us, Ext m1 m' H1 H' ∧ SR K (D :: Pr) m' H' S' ∧ H' D = some (.lst accV) ∧ WRs K (D :: Pr) m' H' acc accV ∧ R i S' = .ok us S2 ∧ acc ++ us = wsAll
        have hN : ∀ {i H'}, Pv i H' → i ≤ N := by
          rintro i H' ⟨m', S', acc, accV, us, _, _, _, _, hr, _⟩
          by_cases q : i ≤ N
          · exact q
          · rw [rm.top i S' (by omega)] at hr; cases hr
        refine ⟨fun i k H' => k = N + 1 - i ∧ Pv i H', ⟨N + 1, by simp, m1, S1, [], [], wsAll, .push hD, s1.fresh hD, upd_same, .nil, hR0, rfl⟩, ?_⟩
        rintro i k H' ⟨rfl, pv⟩
        have hi := hN pv
        obtain ⟨m', S', acc, accV, us, e', s', hDl, ra, hr, hall⟩ := pv
        have lt : Lt Pr m1 H1 (D :: Pr) m' H' := ⟨e', fun d hd => by
          rcases List.mem_cons.mp hd with z | z
          · subst z; exact .inr hD
          · exact .inl z⟩
        obtain ⟨st1, st2⟩ := step i (D :: Pr) m' H' S' lt s'
        have hu := rm.unf i S'
        rw [hr] at hu
        rcases hu with hu | hu
        · cases hu
        · cases h3 : nextW itr i S' with
          | none => rw [h3] at hu; cases hu
          | some o =>
            cases o with
            | none =>
              rw [h3] at hu
              cases hu
              refine .inl ⟨st1 h3, ?_⟩
              rw [List.append_nil] at hall
              subst hall
              exact h m' H' D accV (e1.trans e') hDn hDp s' hDl ra
            | some w =>
              rw [h3] at hu
              simp only at hu
              obtain ⟨go, yl⟩ := st2 w h3
              refine .inr ⟨go, Pv (i + 1), fun H'' p => ⟨N - i, by omega, by omega, p⟩, fun x H2 y => ?_⟩
              obtain ⟨e2, s2, rw2⟩ := yl x H2 y
              unfold compStep at hu
              have erw : ER K (D :: Pr) m' H2 (wipeE env own) (L2.wipe σ own) := ((er.ext e1).wipe own).later ⟨e'.trans e2, lt.pr⟩
              refine ⟨D :: Pr, m', wipeE env own, S', w, erw, s2, rw2, ?_⟩
              cases h4 : asg tg w (wipeE env own) with
              | none => rw [h4] at hu; cases hu
              | some env1 =>
                rw [h4] at hu
                simp only at hu ⊢
                intro σ2 er2 hw
                have hw1 : L2.wipe σ2 own = L2.wipe σ own := by
                  rw [hw own hown]
                  have : ∀ (vs : List Nat) (τ : L2.St), L2.wipe (L2.wipe τ vs) vs = L2.wipe τ vs := by
                    intro vs
                    have key : ∀ (vs ws : List Nat) (τ : L2.St), (∀ v ∈ vs, v ∈ ws) → L2.wipe (L2.wipe τ vs) ws = L2.wipe τ ws := by
                      intro vs
                      induction vs with
                      | nil => intro ws τ _; rfl
                      | cons v vs ih =>
                        intro ws τ hv
                        show L2.wipe ((L2.wipe τ vs).set v none) ws = _
                        rw [wipe_set (hv v List.mem_cons_self)]
                        exact ih ws τ fun u hu => hv u (List.mem_cons_of_mem _ hu)
                    exact fun τ => key vs vs τ fun v h => h
                  exact this own σ
                refine ⟨by rw [hw1], ?_⟩
                cases h5 : tstO c env1 S' with
                | bad => rw [h5] at hu; cases hu
                | ex x S3 => rw [h5] at hu; cases hu
                | ok b S3 =>
                  rw [h5] at hu
                  simp only [noEx_ok, Out.bind_ok] at hu
                  refine tOpt_read er2 s2 h5 fun m3 H3 e3 s3 => ?_
                  have e03 : Ext m1 m3 H1 H3 := (e'.trans e2).trans e3
                  have hD3 : H3 D = some (.lst accV) := e3.keep D _ (s2.pr D List.mem_cons_self).1 (e2.keep D _ (s'.pr D List.mem_cons_self).1 hDl)
                  have ra3 : WRs K (D :: Pr) m3 H3 acc accV := (ra.ext e2).ext e3
                  cases b with
                  | false =>
                    simp only [Bool.false_eq_true, reduceIte] at hu ⊢
                    exact ⟨m3, S3, acc, accV, us, e03, s3, hD3, ra3, hu.symm, hall⟩
                  | true =>
                    simp only [reduceIte] at hu ⊢
                    refine ⟨D :: Pr, m3, env1, S3, er2.ext e3, s3, ?_⟩
                    cases h6 : elt env1 S3 with
                    | bad => rw [h6] at hu; cases hu
                    | ex x S4 => rw [h6] at hu; cases hu
                    | ok u S4 =>
                      rw [h6] at hu
                      simp only [noEx_ok, Out.bind_ok] at hu ⊢
                      intro m4 H4 v4 e4 s4 r4
                      cases h7 : R (i + 1) S4 with
                      | bad => rw [h7] at hu; cases hu
                      | ex x S5 => rw [h7] at hu; cases hu
                      | ok us' S5 =>
                        rw [h7] at hu
                        simp only [Out.bind_ok] at hu
                        cases hu
                        have hD4 : H4 D = some (.lst accV) := e4.keep D _ (s3.pr D List.mem_cons_self).1 hD3
                        have ra4 := ra3.ext e4
                        refine ⟨accV, hD4, ?_, m4, S4, acc ++ [u], accV ++ [v4], us', (e03.trans e4).priv hD, s4.priv hD4 List.mem_cons_self, upd_same, (ra4.snoc r4).priv hD4 List.mem_cons_self, h7, by rw [List.append_assoc]; exact hall⟩
                        rw [line_eq, ← ra4.length]
                        rw [← hall, List.length_append, List.length_cons] at hz
                        omega
      · simp only [h2, noEx_ok, Out.bind_ok, if_neg hz] at h
end Rb

/-! Rb9: statements. -/
namespace Rb
open PySem PySem.Spec PyProof.Rows L2

inductive SO where
  | nx (env : Env) (S : Store)
  | rt (w : W) (S : Store)
  | bk (env : Env) (S : Store)
  | ct (env : Env) (S : Store)
  | ex (x : Exc) (S : Store)
  | bad
abbrev SM := Env → Store → SO
def Out.st {α : Type} (o : Out α) (k : α → Store → SO) : SO := match o with
  | .ok a S => k a S
  | .ex x S => .ex x S
  | .bad => .bad
@[simp] theorem Out.st_ok {α : Type} (a : α) (S : Store) (k : α → Store → SO) : (Out.ok a S).st k = k a S := rfl
@[simp] theorem Out.st_ex {α : Type} (x : Exc) (S : Store) (k : α → Store → SO) : (Out.ex x S : Out α).st k = .ex x S := rfl
@[simp] theorem Out.st_bad {α : Type} (k : α → Store → SO) : (Out.bad : Out α).st k = .bad := rfl
/-- D's ends, told of what SO says: from (m, H) on -/
def Tells (K : PySem.W.Frag) (E : XK) (Pr m : List Addr) (H : Hp) (D : Ends) : SO → Prop
  | .nx env' S' => ∀ m' H' σ', Ext m m' H H' → SR K Pr m' H' S' → ER K Pr m' H' env' σ' → D.nx σ' H'
  | .rt w S' => Ret K Pr m H S' w D.rt
  | .bk env' S' => ∀ m' H' σ', Ext m m' H H' → SR K Pr m' H' S' → ER K Pr m' H' env' σ' → D.bk σ' H'
  | .ct env' S' => ∀ m' H' σ', Ext m m' H H' → SR K Pr m' H' S' → ER K Pr m' H' env' σ' → D.ct σ' H'
  | .ex x S' => RetX K Pr m H S' x E
  | .bad => False
theorem Tells.ext {K : PySem.W.Frag} {E : XK} {Pr m m1 : List Addr} {H H1 : Hp} {D : Ends} {o : SO} (h : Tells K E Pr m H D o) (e1 : Ext m m1 H H1) : Tells K E Pr m1 H1 D o := by
  cases o with
  | nx env2 S2 => exact fun m2 H2 σ2 e2 s2 er2 => h m2 H2 σ2 (e1.trans e2) s2 er2
  | rt w S2 => exact Ret.ext (show Ret K Pr m H S2 w D.rt from h) e1
  | bk env2 S2 => exact fun m2 H2 σ2 e2 s2 er2 => h m2 H2 σ2 (e1.trans e2) s2 er2
  | ct env2 S2 => exact fun m2 H2 σ2 e2 s2 er2 => h m2 H2 σ2 (e1.trans e2) s2 er2
  | ex x S2 => exact RetX.ext (show RetX K Pr m H S2 x E from h) e1
  | bad => exact h
def tS (K : PySem.W.Frag) (E : XK) (f : SM) : TS := fun D σ H => ∃ Pr m env S, ER K Pr m H env σ ∧ SR K Pr m H S ∧ Tells K E Pr m H D (f env S)

/-! ### blocks, small statements -/
def sNil : SM := fun env S => .nx env S
def sSeq (f g : SM) : SM := fun env S => match f env S with
  | .nx env' S' => g env' S'
  | o => o
def sRet (f : M) : SM := fun env S => (f env S).st fun w S' => .rt w S'
def sRetN : SM := fun _ S => .rt (.val .none) S
def sExpr (f : M) : SM := fun env S => (f env S).st fun _ S' => .nx env S'
def sAsg (t : Tg) (f : M) : SM := fun env S => (f env S).st fun w S' => match asg t w env with
  | some env' => .nx env' S'
  | none => .bad
def sIf (c : M) (f g : SM) : SM := fun env S => (tst c env S).st fun b S' => if b = true then f env S' else g env S'
def sBrk : SM := fun env S => .bk env S
def sCnt : SM := fun env S => .ct env S
section
variable {X : Cx} {E : XK} {e c : Expr} {st : Stmt} {rest a b : List Stmt} {pos : Pos} {f g : SM} {fe fc : M} {t : Tg}
theorem pss_mNil : PSs X [] (tS X.K E sNil) := PSs.weak pss_nil (by
  rintro D σ H ⟨Pr, m, env, S, er, sr, h⟩
  exact h m H σ .refl sr er)
theorem pss_mCons (h1 : PS X st (tS X.K E f)) (h2 : PSs X rest (tS X.K E g)) : PSs X (st :: rest) (tS X.K E (sSeq f g)) := by
  refine PSs.weak (pss_cons h1 h2) ?_
  rintro D σ H ⟨Pr, m, env, S, er, sr, h⟩
  refine ⟨Pr, m, env, S, er, sr, ?_⟩
  unfold sSeq at h
  cases h1 : f env S with
  | nx env1 S1 =>
    rw [h1] at h
    exact fun m1 H1 σ1 e1 s1 er1 => ⟨Pr, m1, env1, S1, er1, s1, h.ext e1⟩
  | _ => rw [h1] at h; exact h
theorem ps_mRet (he : PE X e (tM X.K E fe)) : PS X (.Return (some e) pos) (tS X.K E (sRet fe)) := by
  refine PS.weak (ps_ret he) ?_
  rintro D σ H ⟨Pr, m, env, S, er, sr, h⟩
  refine ⟨Pr, m, env, S, er, sr, ?_⟩
  unfold sRet at h
  cases h1 : fe env S with
  | bad => rw [h1] at h; exact h
  | ex x S1 => rw [h1] at h; exact h
  | ok w S1 => rw [h1] at h; exact h
theorem ps_mRetN : PS X (.Return none pos) (tS X.K E sRetN) := PS.weak ps_retN (by
  rintro D σ H ⟨Pr, m, env, S, er, sr, h⟩
  exact Ret.non (Q := D.rt) h sr)
theorem ps_mExpr (he : PE X e (tM X.K E fe)) (hs : swapsWith e none pos.line X.env = pure false) : PS X (.Expr e pos) (tS X.K E (sExpr fe)) := by
  refine PS.weak (ps_expr he hs) ?_
  rintro D σ H ⟨Pr, m, env, S, er, sr, h⟩
  refine ⟨Pr, m, env, S, er, sr, ?_⟩
  unfold sExpr at h
  cases h1 : fe env S with
  | bad => rw [h1] at h; exact h
  | ex x S1 => rw [h1] at h; exact h
  | ok w S1 =>
    rw [h1] at h
    exact fun m1 H1 v e1 s1 r1 => h m1 H1 σ e1 s1 (er.ext e1)
theorem asg_read {K : PySem.W.Frag} {D : Ends} {σ : L2.St} {H : Hp} (h : tS K E (sAsg t fe) D σ H) : tAsg (tM K E fe) (gM K t) D σ H := by
  obtain ⟨Pr, m, env, S, er, sr, h⟩ := h
  refine ⟨Pr, m, env, S, er, sr, ?_⟩
  unfold sAsg at h
  cases h1 : fe env S with
  | bad => rw [h1] at h; exact h
  | ex x S1 => rw [h1] at h; exact h
  | ok w S1 =>
    rw [h1] at h
    simp only [Out.st_ok] at h ⊢
    intro m1 H1 v e1 s1 r1
    refine ⟨Pr, m1, env, S1, w, er.ext e1, s1, r1, ?_⟩
    cases h2 : asg t w env with
    | none => rw [h2] at h; exact h
    | some env' => rw [h2] at h; exact fun σ' er' _ => h m1 H1 σ' e1 s1 er'
theorem ps_mAsg {tg : Expr} (he : PE X e (tM X.K E fe)) (hg : PG X tg (gM X.K t)) (hs : swapsWithSole [tg] e pos.line X.env = pure false) (hw : swappedStores [tg] e X.env = pure none) (h1 : (assignEach [tg] X.env).map (·.2) = [assign tg X.env]) :
    PS X (.Assign [tg] e pos) (tS X.K E (sAsg t fe)) := PS.weak (ps_asg he hg hs hw h1) fun _ _ _ h => asg_read h
theorem tst_read {K : PySem.W.Frag} {Pr m : List Addr} {H : Hp} {env : Env} {σ : L2.St} {S : Store} {Q : Bool → Hp → Prop} (er : ER K Pr m H env σ) (sr : SR K Pr m H S)
    (h : match tst fc env S with | .ok b S1 => ∀ m' H', Ext m m' H H' → SR K Pr m' H' S1 → Q b H' | .ex x S1 => RetX K Pr m H S1 x E | .bad => False) : tT K E fc σ H Q := by
  refine ⟨Pr, m, env, S, er, sr, ?_⟩
  unfold tst at h
  cases h1 : fc env S with
  | bad => simp only [h1, Out.bind_bad] at h
  | ex x S' => simp only [h1, Out.bind_ex] at h ⊢; exact h
  | ok w S' =>
    simp only [h1, Out.bind_ok] at h ⊢
    cases h2 : tru S' w with
    | none => simp only [h2] at h
    | some k => simp only [h2] at h ⊢; exact h
theorem ps_mIf (hc : PT X c (tT X.K E fc)) (ha : PSs X a (tS X.K E f)) (hb : PSs X b (tS X.K E g)) : PS X (.If c a b pos) (tS X.K E (sIf fc f g)) := by
  refine PS.weak (ps_if hc ha hb) ?_
  rintro D σ H ⟨Pr, m, env, S, er, sr, h⟩
  refine tst_read (env := env) (S := S) er sr ?_
  unfold sIf at h
  cases h1 : tst fc env S with
  | bad => rw [h1] at h; exact h
  | ex x S1 => rw [h1] at h; exact h
  | ok k S1 =>
    rw [h1] at h
    simp only [Out.st_ok] at h ⊢
    intro m1 H1 e1 s1
    cases k with
    | true => simp only [reduceIte] at h ⊢; exact ⟨Pr, m1, env, S1, er.ext e1, s1, h.ext e1⟩
    | false => simp only [reduceIte, Bool.false_eq_true] at h ⊢; exact ⟨Pr, m1, env, S1, er.ext e1, s1, h.ext e1⟩
theorem ps_mBrk : PS X (.Break pos) (tS X.K E sBrk) := PS.weak ps_break (by
  rintro D σ H ⟨Pr, m, env, S, er, sr, h⟩
  exact h m H σ .refl sr er)
theorem ps_mCnt : PS X (.Continue pos) (tS X.K E sCnt) := PS.weak ps_continue (by
  rintro D σ H ⟨Pr, m, env, S, er, sr, h⟩
  exact h m H σ .refl sr er)
theorem ps_mPass : PS X (.Pass pos) (tS X.K E sNil) := PS.weak ps_pass (by
  rintro D σ H ⟨Pr, m, env, S, er, sr, h⟩
  exact h m H σ .refl sr er)
end

/-! ### a turn's end: names that the turn brought are forgotten, so are the objects that it made -/
def keepE : Env → Env → Env
  | _, [] => []
  | [], _ :: r' => none :: keepE [] r'
  | some _ :: r, n :: r' => n :: keepE r r'
  | none :: r, _ :: r' => none :: keepE r r'
def okE (k : Nat) : Env → Bool
  | [] => true
  | none :: r => okE k r
  | some (.val _) :: r => okE k r
  | some (.loc n) :: r => decide (n < k) && okE k r
theorem keepE_get : ∀ {e e' : Env} {i : Nat} {w : W}, eget (keepE e e') i = some w → eget e' i = some w
  | some _ :: r, n :: r', 0, w, h => h
  | some _ :: r, n :: r', i + 1, w, h => keepE_get (e := r) (e' := r') h
  | none :: r, _ :: r', 0, w, h => by cases h
  | none :: r, _ :: r', i + 1, w, h => keepE_get (e := r) (e' := r') h
  | [], _ :: r', 0, w, h => by cases h
  | [], _ :: r', i + 1, w, h => keepE_get (e := []) (e' := r') h
  | [], [], i, w, h => by cases i <;> cases h
  | _ :: _, [], i, w, h => by cases i <;> cases h
theorem keepE_len : ∀ {e e' : Env}, (keepE e e').length = e'.length
  | some _ :: r, n :: r' => congrArg (· + 1) (keepE_len (e := r))
  | none :: r, n :: r' => congrArg (· + 1) (keepE_len (e := r))
  | [], [] => rfl
  | [], _ :: r' => congrArg (· + 1) (keepE_len (e := []))
  | _ :: _, [] => rfl
theorem okE_get : ∀ {e : Env} {k i n : Nat}, okE k e = true → eget e i = some (.loc n) → n < k
  | [], k, i, n, _, h => by cases i <;> cases h
  | none :: r, k, 0, n, _, h => by cases h
  | none :: r, k, i + 1, n, q, h => okE_get (e := r) q h
  | some (.val _) :: r, k, 0, n, _, h => by cases h
  | some (.val _) :: r, k, i + 1, n, q, h => okE_get (e := r) q h
  | some (.loc j) :: r, k, 0, n, q, h => by
    cases h
    have q : (decide (j < k) && okE k r) = true := q
    rw [Bool.and_eq_true] at q
    exact of_decide_eq_true q.1
  | some (.loc j) :: r, k, i + 1, n, q, h => by
    have q : (decide (j < k) && okE k r) = true := q
    rw [Bool.and_eq_true] at q
    exact okE_get (e := r) q.2 h
theorem LR.cut {m : List Addr} {k : Nat} : ∀ {ns : List Nat} {vs : List V}, LR m ns vs → ns.all (fun n => decide (n < k)) = true → LR (m.take k) ns vs
  | _, _, .nil, _ => .nil
  | _, _, .cons h t, q => by
    rw [List.all_cons, Bool.and_eq_true] at q
    exact .cons (by rw [List.getElem?_take_of_lt (of_decide_eq_true q.1)]; exact h) (LR.cut t q.2)
theorem older_mono {j k : Nat} (h : j ≤ k) {o : O} (q : o.olderThan j = true) : o.olderThan k = true := by
  cases o with
  | lol ns =>
    have q : (ns.all fun n => decide (n < j)) = true := q
    show (ns.all fun n => decide (n < k)) = true
    rw [List.all_eq_true] at q ⊢
    intro n hn
    have := of_decide_eq_true (q n hn)
    exact decide_eq_true (by omega)
  | _ => rfl
/-- the younger objects are forgotten -/
theorem SR.cut {K : PySem.W.Frag} {Pr m : List Addr} {H : Hp} {S : Store} (s : SR K Pr m H S) (k : Nat) : SR K Pr (m.take k) H (S.take k) where
  len := by rw [List.length_take, List.length_take, s.len]
  nd := s.nd.sublist (List.take_sublist _ _)
  pr := fun a h => ⟨fun z => (s.pr a h).1 (List.mem_of_mem_take z), (s.pr a h).2⟩
  old := fun n o h => by
    rw [List.getElem?_take] at h
    split at h
    · exact s.old n o h
    · cases h
  obj := fun n o a h1 h2 => by
    rw [List.getElem?_take] at h1 h2
    split at h1
    · rename_i hn
      rw [if_pos hn] at h2
      have q := s.old n o h1
      cases s.obj n o a h1 h2 with
      | scr e => exact .scr e
      | lst e r => exact .lst e (r.sub fun b z => by
          rcases List.mem_append.mp z with z | z
          · exact List.mem_append_left _ z
          · exact List.mem_append_right _ (List.mem_of_mem_take z))
      | lol e r => exact .lol e (r.cut (older_mono (Nat.le_of_lt hn) q))
    · cases h1
theorem WR.cut {K : PySem.W.Frag} {Pr m : List Addr} {H : Hp} {w : W} {v : V} (r : WR K Pr m H w v) {k : Nat} (h : ∀ n, w = .loc n → n < k) : WR K Pr (m.take k) H w v := by
  cases r with
  | val r => exact .val (r.sub fun b z => by
          rcases List.mem_append.mp z with z | z
          · exact List.mem_append_left _ z
          · exact List.mem_append_right _ (List.mem_of_mem_take z))
  | @loc n a e => exact .loc (by rw [List.getElem?_take_of_lt (h n rfl)]; exact e)
theorem ER.cut {K : PySem.W.Frag} {Pr m : List Addr} {H : Hp} {env env' : Env} {σ : L2.St} (r : ER K Pr m H env' σ) {k : Nat} (h : okE k (keepE env env') = true) : ER K Pr (m.take k) H (keepE env env') σ :=
  ⟨by rw [keepE_len]; exact r.len, fun i w q => by
    obtain ⟨v, h1, h2⟩ := r.at_ i w (keepE_get q)
    exact ⟨v, h1, h2.cut fun n e => by subst e; exact okE_get h q⟩⟩
theorem Ext.cut {m m' : List Addr} {H H' : Hp} (e : Ext m m' H H') : Ext m (m'.take m.length) H H' :=
  e.less (by
    obtain ⟨t, ht⟩ := e.pre
    rw [← ht, List.take_left]
    exact List.prefix_refl _) (List.take_prefix _ _)
theorem take_pre {m m' : List Addr} (h : m <+: m') : m'.take m.length = m := by
  obtain ⟨t, ht⟩ := h
  rw [← ht, List.take_left]

/-! ### for -/
/-- what follows a turn -/
def turnEnd (env : Env) (S : Store) (o : SO) (k : Env → Store → SO) : SO := match o with
  | .nx env2 S2 => if okE S.length (keepE env env2) = true then k (keepE env env2) (S2.take S.length) else .bad
  | .ct env2 S2 => if okE S.length (keepE env env2) = true then k (keepE env env2) (S2.take S.length) else .bad
  | .bk env2 S2 => if okE S.length (keepE env env2) = true then .nx (keepE env env2) (S2.take S.length) else .bad
  | .rt w S2 => .rt w S2
  | .ex x S2 => .ex x S2
  | .bad => .bad
def forStep (tg : Tg) (body : SM) (env : Env) (w : W) (S : Store) (k : Env → Store → SO) : SO := match asg tg w env with
  | none => .bad
  | some env1 => turnEnd env S (body env1 S) k
def forL (tg : Tg) (body : SM) : List W → Env → Store → SO
  | [], env, S => .nx env S
  | w :: ws, env, S => forStep tg body env w S (forL tg body ws)
def forV (tg : Tg) (body : SM) (n : Nat) : Nat → Nat → Env → Store → SO
  | 0, _, _, _ => .bad
  | f + 1, i, env, S => match nextW (.live n) i S with
    | none => .bad
    | some none => .nx env S
    | some (some w) => forStep tg body env w S (forV tg body n f (i + 1))
def forI (tg : Tg) (body : SM) (itr : Itx) (env : Env) (S : Store) : SO := match itr with
  | .fix ws => forL tg body ws env S
  | .live n => forV tg body n 100000 0 env S
def sFor (it : MI) (tg : Tg) (body : SM) : SM := fun env S => (it env S).st fun itr S1 => forI tg body itr env S1
structure RemF (tg : Tg) (body : SM) (itr : Itx) (N : Nat) (R : Nat → Env → Store → SO) : Prop where
  unf : ∀ i env S, R i env S = .bad ∨ R i env S = match nextW itr i S with
    | none => .bad
    | some none => .nx env S
    | some (some w) => forStep tg body env w S (R (i + 1))
  top : ∀ i env S, N < i → R i env S = .bad
theorem remf_fix (tg : Tg) (body : SM) (ws : List W) : RemF tg body (.fix ws) ws.length (fun i env S => if i ≤ ws.length then forL tg body (ws.drop i) env S else .bad) where
  unf := fun i env S => by
    by_cases hi : i ≤ ws.length
    · refine .inr ?_
      simp only [nextW, if_pos hi]
      by_cases hl : i < ws.length
      · rw [List.drop_eq_getElem_cons hl, List.getElem?_eq_getElem hl, forL]
        have : (fun env S => if i + 1 ≤ ws.length then forL tg body (ws.drop (i + 1)) env S else .bad) = forL tg body (ws.drop (i + 1)) := by
          funext env S; rw [if_pos (show i + 1 ≤ ws.length from hl)]
        rw [this]
      · have e : i = ws.length := by omega
        subst e
        rw [List.drop_length, List.getElem?_eq_none (Nat.le_refl _)]
        simp only [forL]
    · exact .inl (if_neg hi)
  top := fun i env S h => if_neg (by omega)
theorem remf_live (tg : Tg) (body : SM) (n : Nat) : RemF tg body (.live n) 100000 (fun i env S => forV tg body n (100000 - i) i env S) where
  unf := fun i env S => by
    cases h : 100000 - i with
    | zero => exact .inl (by simp only [forV])
    | succ f =>
      refine .inr ?_
      have e : 100000 - (i + 1) = f := by omega
      rw [e]
      simp only [forV]
  top := fun i env S h => by
    have e : 100000 - i = 0 := by omega
    simp only [e, forV]
section
variable {X : Cx} {E : XK} {tgE iter : Expr} {b : List Stmt} {pos : Pos} {it : MI} {tg : Tg} {body : SM}
theorem for_read {K : PySem.W.Frag} {D : Ends} {σ : L2.St} {H : Hp} (h : tS K E (sFor it tg body) D σ H) : tFor (tI K E it) (gM K tg) (tS K E body) D σ H := by
  obtain ⟨Pr, m, env, S, er, sr, h⟩ := h
  refine ⟨Pr, m, env, S, er, sr, ?_⟩
  unfold sFor at h
  cases h1 : it env S with
  | bad => rw [h1] at h; exact h
  | ex x S1 => rw [h1] at h; exact h
  | ok itr S1 =>
    rw [h1] at h
    simp only [Out.st_ok] at h ⊢
    intro m1 H1 J e1 s1 step
    obtain ⟨N, R, rm, hR0⟩ : ∃ N R, RemF tg body itr N R ∧ forI tg body itr env S1 = R 0 env S1 := by
      cases itr with
      | fix ws => exact ⟨_, _, remf_fix tg body ws, by simp only [Nat.zero_le, if_true, List.drop_zero]; rfl⟩
      | live n => exact ⟨_, _, remf_live tg body n, rfl⟩
    rw [hR0] at h
    let Pv : Nat → L2.St → Hp → Prop := fun i σ' H' => ∃ env' S', Ext m1 m1 H1 H' ∧ SR K Pr m1 H' S' ∧ ER K Pr m1 H' env' σ' ∧ Tells K E Pr m1 H' D (R i env' S')
    have hN : ∀ {i σ' H'}, Pv i σ' H' → i ≤ N := by
      rintro i σ' H' ⟨env', S', _, _, _, t⟩
      by_cases q : i ≤ N
      · exact q
      · rw [rm.top i env' S' (by omega)] at t; exact t.elim
    refine ⟨fun i k σ' H' => k = N + 1 - i ∧ Pv i σ' H', ⟨N + 1, by simp, env, S1, .refl, s1, er.ext e1, h.ext e1⟩, ?_⟩
    rintro i k σ' H' ⟨rfl, pv⟩
    have hi := hN pv
    obtain ⟨env', S', e', s', er', t⟩ := pv
    have lt : Lt Pr m1 H1 Pr m1 H' := ⟨e', fun d hd => .inl hd⟩
    obtain ⟨st1, st2⟩ := step i Pr m1 H' S' lt s'
    rcases rm.unf i env' S' with hu | hu
    · rw [hu] at t; exact t.elim
    · rw [hu] at t
      cases h3 : nextW itr i S' with
      | none => rw [h3] at t; exact t.elim
      | some o =>
        cases o with
        | none =>
          rw [h3] at t
          exact .inl ⟨st1 h3, t m1 H' σ' .refl s' er'⟩
        | some w =>
          rw [h3] at t
          simp only at t
          obtain ⟨go, yl⟩ := st2 w h3
          refine .inr ⟨go, Pv (i + 1), fun σ'' H'' p => ⟨N - i, by omega, by omega, p⟩, fun x H2 y => ?_⟩
          obtain ⟨e2, s2, rw2⟩ := yl x H2 y
          unfold forStep at t
          refine ⟨Pr, m1, env', S', w, er'.ext e2, s2, rw2, ?_⟩
          cases h4 : asg tg w env' with
          | none => rw [h4] at t; exact t.elim
          | some env1 =>
            rw [h4] at t
            simp only at t ⊢
            intro σ2 er2 _
            refine ⟨Pr, m1, env1, S', er2, s2, ?_⟩
            have e12 : Ext m1 m1 H1 H2 := e'.trans e2
            have t2 := t.ext e2
            -- the younger names and objects are forgotten
            have cutE : ∀ {env2 S2 m3 H3 σ3}, okE S'.length (keepE env' env2) = true → Ext m1 m3 H2 H3 → SR K Pr m3 H3 S2 → ER K Pr m3 H3 env2 σ3 →
                Ext m1 m1 H2 H3 ∧ SR K Pr m1 H3 (S2.take S'.length) ∧ ER K Pr m1 H3 (keepE env' env2) σ3 := by
              intro env2 S2 m3 H3 σ3 hk e3 s3 er3
              have hm : m3.take S'.length = m1 := by rw [← s'.len]; exact take_pre e3.pre
              refine ⟨e3.less (List.prefix_refl _) e3.pre, ?_, ?_⟩
              · have q := s3.cut S'.length
                rw [hm] at q; exact q
              · have q := er3.cut (env := env') hk
                rw [hm] at q; exact q
            cases h5 : body env1 S' with
            | bad => rw [h5] at t2; exact t2.elim
            | ex x S2 => rw [h5] at t2; exact t2
            | rt w S2 => rw [h5] at t2; exact t2
            | nx env2 S2 =>
              rw [h5] at t2
              simp only [turnEnd] at t2
              by_cases hk : okE S'.length (keepE env' env2) = true
              · rw [if_pos hk] at t2
                intro m3 H3 σ3 e3 s3 er3
                obtain ⟨a1, a2, a3⟩ := cutE hk e3 s3 er3
                exact ⟨_, _, e12.trans a1, a2, a3, t2.ext a1⟩
              · rw [if_neg hk] at t2; exact t2.elim
            | ct env2 S2 =>
              rw [h5] at t2
              simp only [turnEnd] at t2
              by_cases hk : okE S'.length (keepE env' env2) = true
              · rw [if_pos hk] at t2
                intro m3 H3 σ3 e3 s3 er3
                obtain ⟨a1, a2, a3⟩ := cutE hk e3 s3 er3
                exact ⟨_, _, e12.trans a1, a2, a3, t2.ext a1⟩
              · rw [if_neg hk] at t2; exact t2.elim
            | bk env2 S2 =>
              rw [h5] at t2
              simp only [turnEnd] at t2
              by_cases hk : okE S'.length (keepE env' env2) = true
              · rw [if_pos hk] at t2
                intro m3 H3 σ3 e3 s3 er3
                obtain ⟨a1, a2, a3⟩ := cutE hk e3 s3 er3
                exact t2 m1 H3 σ3 a1 a2 a3
              · rw [if_neg hk] at t2; exact t2.elim
theorem ps_mFor (hp : PassesOwn (model X.prog X.w) X.A X.env X.xe) (hc : X.calm = true) (hi : PI X tgE iter (tI X.K E it)) (hg : PG X tgE (gM X.K tg)) (hb : PSs X b (tS X.K E body)) (hs : ∀ x, foldedSetIterable iter X.env x = pure x) :
    PS X (.For tgE iter b [] pos) (tS X.K E (sFor it tg body)) := PS.weak (ps_for hp hc hi hg hb hs) fun _ _ _ h => for_read h

/-! ### while -/
def whL (c : M) (body : SM) : Nat → Env → Store → SO
  | 0, _, _ => .bad
  | f + 1, env, S => (tst c env S).st fun b S1 => if b = true then turnEnd env S1 (body env S1) (whL c body f) else .nx env S1
def sWhile (fuel : Nat) (c : M) (body : SM) : SM := whL c body fuel
theorem while_read {K : PySem.W.Frag} {D : Ends} {σ : L2.St} {H : Hp} {fuel : Nat} {c : M} (h : tS K E (sWhile fuel c body) D σ H) : tWhile (tT K E c) (tS K E body) D σ H := by
  refine ⟨fun n σ' H' => ∃ Pr m env S, ER K Pr m H' env σ' ∧ SR K Pr m H' S ∧ Tells K E Pr m H' D (whL c body n env S), ⟨fuel, h⟩, ?_⟩
  rintro n σ' H' ⟨Pr, m, env, S, er, sr, t⟩
  cases n with
  | zero => exact t.elim
  | succ n =>
    refine tst_read (env := env) (S := S) er sr ?_
    simp only [whL] at t
    cases h1 : tst c env S with
    | bad => rw [h1] at t; exact t
    | ex x S1 => rw [h1] at t; exact t
    | ok k S1 =>
      rw [h1] at t
      simp only [Out.st_ok] at t ⊢
      intro m1 H1 e1 s1
      have er1 := er.ext e1
      have t1 := t.ext e1
      cases k with
      | false => simp only [reduceIte, Bool.false_eq_true] at t1 ⊢; exact t1 m1 H1 σ' .refl s1 er1
      | true =>
        simp only [reduceIte] at t1 ⊢
        refine ⟨fun σ'' H'' => ∃ Pr m env S, ER K Pr m H'' env σ'' ∧ SR K Pr m H'' S ∧ Tells K E Pr m H'' D (whL c body n env S), fun σ'' H'' w => ⟨n, by omega, w⟩, Pr, m1, env, S1, er1, s1, ?_⟩
        have cutE : ∀ {env2 S2 m3 H3 σ3}, okE S1.length (keepE env env2) = true → Ext m1 m3 H1 H3 → SR K Pr m3 H3 S2 → ER K Pr m3 H3 env2 σ3 →
            Ext m1 m1 H1 H3 ∧ SR K Pr m1 H3 (S2.take S1.length) ∧ ER K Pr m1 H3 (keepE env env2) σ3 := by
          intro env2 S2 m3 H3 σ3 hk e3 s3 er3
          have hm : m3.take S1.length = m1 := by rw [← s1.len]; exact take_pre e3.pre
          refine ⟨e3.less (List.prefix_refl _) e3.pre, ?_, ?_⟩
          · have q := s3.cut S1.length
            rw [hm] at q; exact q
          · have q := er3.cut (env := env) hk
            rw [hm] at q; exact q
        cases h5 : body env S1 with
        | bad => rw [h5] at t1; exact t1.elim
        | ex x S2 => rw [h5] at t1; exact t1
        | rt w S2 => rw [h5] at t1; exact t1
        | nx env2 S2 =>
          rw [h5] at t1
          simp only [turnEnd] at t1
          by_cases hk : okE S1.length (keepE env env2) = true
          · rw [if_pos hk] at t1
            intro m3 H3 σ3 e3 s3 er3
            obtain ⟨a1, a2, a3⟩ := cutE hk e3 s3 er3
            exact ⟨Pr, m1, _, _, a3, a2, t1.ext a1⟩
          · rw [if_neg hk] at t1; exact t1.elim
        | ct env2 S2 =>
          rw [h5] at t1
          simp only [turnEnd] at t1
          by_cases hk : okE S1.length (keepE env env2) = true
          · rw [if_pos hk] at t1
            intro m3 H3 σ3 e3 s3 er3
            obtain ⟨a1, a2, a3⟩ := cutE hk e3 s3 er3
            exact ⟨Pr, m1, _, _, a3, a2, t1.ext a1⟩
          · rw [if_neg hk] at t1; exact t1.elim
        | bk env2 S2 =>
          rw [h5] at t1
          simp only [turnEnd] at t1
          by_cases hk : okE S1.length (keepE env env2) = true
          · rw [if_pos hk] at t1
            intro m3 H3 σ3 e3 s3 er3
            obtain ⟨a1, a2, a3⟩ := cutE hk e3 s3 er3
            exact t1 m1 H3 σ3 a1 a2 a3
          · rw [if_neg hk] at t1; exact t1.elim
theorem ps_mWhile {c : Expr} {fc : M} {fuel : Nat} (hp : PassesOwn (model X.prog X.w) X.A X.env X.xe) (hc : PT X c (tT X.K E fc)) (hb : PSs X b (tS X.K E body)) : PS X (.While c b [] pos) (tS X.K E (sWhile fuel fc body)) :=
  PS.weak (ps_while hp hc hb) fun _ _ _ h => while_read h
end
end Rb

/-! Rb10: methods that change a list of the store; a def by its body. -/
namespace Rb
open PySem PySem.Spec PyProof.Rows L2

/-! ### an object of the store is changed -/
theorem SR.ne {K : PySem.W.Frag} {Pr m : List Addr} {H : Hp} {S : Store} (s : SR K Pr m H S) {n k : Nat} {a b : Addr} (h1 : m[n]? = some a) (h2 : m[k]? = some b) (h : n ≠ k) : a ≠ b := by
  intro e
  subst e
  obtain ⟨l1, e1⟩ := List.getElem?_eq_some_iff.mp h1
  obtain ⟨l2, e2⟩ := List.getElem?_eq_some_iff.mp h2
  exact h ((List.getElem_inj s.nd).mp (e1.trans e2.symm))
theorem Ext.upd {K : PySem.W.Frag} {Pr m : List Addr} {H : Hp} {S : Store} (s : SR K Pr m H S) {n : Nat} {a : Addr} (h : m[n]? = some a) {o : HO} : Ext m m H (upd H a o) := by
  have hm : a ∈ m := List.mem_of_getElem? h
  refine ⟨fun b u h1 h2 => ?_, fun b xs h2 => ?_, fun b ob u h2 => ?_, fun _ h => .inl h, List.prefix_refl _⟩
  · rw [upd_ne (fun z => h1 (by rw [z]; exact hm))]; exact h2
  · rw [upd_ne (fun z => s.notup h2 (by rw [z]; exact hm))]; exact h2
  · rw [upd_ne (fun z => s.nofrz h2 (by rw [z]; exact hm))]; exact h2
theorem SR.set {K : PySem.W.Frag} {Pr m : List Addr} {H : Hp} {S : Store} (s : SR K Pr m H S) {n : Nat} {a : Addr} (h : m[n]? = some a) {o : HO} {o' : O} (ho : OR K Pr m (upd H a o) o' a) (hold : o'.olderThan n = true) : SR K Pr m (upd H a o) (S.set n o') := by
  have e := Ext.upd s h (o := o)
  refine ⟨by rw [List.length_set]; exact s.len, s.nd, fun b hb => ⟨(s.pr b hb).1, ?_⟩, fun k ob b h1 h2 => ?_, fun k ob h1 => ?_⟩
  · by_cases q : b = a
    · subst q; rw [upd_same]; intro z; cases z
    · rw [upd_ne q]; exact (s.pr b hb).2
  · by_cases q : n = k
    · subst q
      rw [h] at h2; cases h2
      have hl : n < S.length := by rw [← s.len]; exact (List.getElem?_eq_some_iff.mp h).1
      rw [List.getElem?_set_self hl] at h1; cases h1
      exact ho
    · rw [List.getElem?_set_ne q] at h1
      have hne : b ≠ a := (s.ne h h2 q).symm
      cases s.obj k ob b h1 h2 with
      | scr z => exact .scr (by rw [upd_ne hne]; exact z)
      | lst z r => exact .lst (by rw [upd_ne hne]; exact z) (r.ext' e)
      | lol z r => exact .lol (by rw [upd_ne hne]; exact z) r
  · by_cases q : n = k
    · subst q
      have hl : n < S.length := by
        have := (List.getElem?_eq_some_iff.mp h1).1
        rw [List.length_set] at this; exact this
      rw [List.getElem?_set_self hl] at h1; cases h1
      exact hold
    · rw [List.getElem?_set_ne q] at h1
      exact s.old k ob h1
/-- a list of data in the store takes new contents -/
theorem Ret.setL {K : PySem.W.Frag} {Pr m : List Addr} {H : Hp} {S : Store} {w : W} {Q : VK} {n : Nat} {a : Addr} {us : List U} {xs : List V} {v : V} (q : Ret K Pr m H (S.set n (.lst us)) w Q) (s : SR K Pr m H S) (h : m[n]? = some a) (r : URs K (Pr ++ m) H us xs) (rw' : WR K Pr m H w v) : Q v (L2.upd H a (.lst xs)) := by
  have e := Ext.upd s h (o := .lst xs)
  exact q m _ v e (s.set h (.lst upd_same (r.ext' e)) rfl) (rw'.ext e)

/-! ### methods -/
abbrev GM := Store → W → List W → Option (W × Store)
def mMeth (T : String) (g : GM) (f : M) (fa : MA) : M := fun env S => (f env S).bind fun x S1 => if tyW S1 x = some T then (fa env S1).bind fun ws S2 => match g S2 x ws with
  | some (w, S3) => .ok w S3
  | none => .bad
  else .bad
def rGM (K : PySem.W.Frag) (g : GM) : V → List V → Hp → VK → Prop := fun v vs H Q => ∃ Pr m S x ws w S', SR K Pr m H S ∧ WR K Pr m H x v ∧ WRs K Pr m H ws vs ∧ g S x ws = some (w, S') ∧ Ret K Pr m H S' w Q
theorem MtR.weak {X : Cx} {id : String} {r r' : V → List V → Hp → VK → Prop} (h : MtR X id r) (k : ∀ v vs H Q, r' v vs H Q → r v vs H Q) : MtR X id r' := fun pins s σ H x xs v us Q I rx rs q => h pins s σ H x xs v us Q I rx rs (k x xs H Q q)
theorem tyW_list {K : PySem.W.Frag} {Pr m : List Addr} {H : Hp} {S : Store} {w : W} {v : V} (s : SR K Pr m H S) (r : WR K Pr m H w v) (h : tyW S w = some "list") : tyV K "list" v H := by
  cases r with
  | val r =>
    cases r with
    | lst h0 h1 h2 => exact .inl ⟨rfl, _, SqL.of h1⟩
    | _ => simp [tyW, tyU] at h
  | @loc n a e =>
    have h : tyO S[n]? = some "list" := h
    cases hs : S[n]? with
    | none => rw [hs] at h; cases h
    | some ob =>
      obtain ⟨a', e', o⟩ := s.at hs
      rw [e] at e'; cases e'
      cases o with
      | lst e1 e2 => exact .inl ⟨rfl, _, SqL.of e1⟩
      | lol e1 e2 => exact .inl ⟨rfl, _, SqL.of e1⟩
      | scr e1 => exact .inl ⟨rfl, _, .inl (.inr ⟨_, e1⟩)⟩
theorem tyW_str {K : PySem.W.Frag} {Pr m : List Addr} {H : Hp} {S : Store} {w : W} {v : V} (s : SR K Pr m H S) (r : WR K Pr m H w v) (h : tyW S w = some "str") : tyV K "str" v H := by
  cases r with
  | val r =>
    cases r with
    | str x => rfl
    | _ => simp [tyW, tyU] at h
  | @loc n a e =>
    have h : tyO S[n]? = some "str" := h
    cases hs : S[n]? with
    | none => rw [hs] at h; cases h
    | some ob => rw [hs] at h; cases ob <;> simp [tyO] at h
theorem tyW_mt {K : PySem.W.Frag} {Pr m : List Addr} {H : Hp} {S : Store} {w : W} {v : V} {T : String} (hT : T = "list" ∨ T = "str") (s : SR K Pr m H S) (r : WR K Pr m H w v) (h : tyW S w = some T) : tyV K T v H := by
  rcases hT with rfl | rfl
  · exact tyW_list s r h
  · exact tyW_str s r h
section
variable {X : Cx} {E : XK} {o e : Expr} {es : List Expr} {f : M} {fa : MA} {g : GM} {name : Str} {apos cpos : Pos} {T id : String}
theorem pe_mMeth (hT : T = "list" ∨ T = "str") (pa : PlainAttrs T) (slot : Slot T name id) (hty : typeOf (.builtin id) = pure (.type "method_descriptor")) (hm : MtR X id (rGM X.K g)) (ho : PE X o (tM X.K E f)) (ha : PA X (e :: es) (tMA X.K E fa))
    (hbase : attributeBase o name X.env (eval o X.env) = eval o X.env)
    (hfew : ((backTo cpos (starEach (e :: es) X.env)).all (fun x => !x.1) && (backToKw cpos (keywordEach [] X.env)).all (fun x => x.1.isSome)
      && decide ((e :: es).length + ([] : List Keyword).length + (if ([] : List Keyword).isEmpty then 0 else 1) < 30)) = true)
    (hline : (apos.endLine == cpos.line) = true) (hs : starEach (e :: es) X.env = (false, eval e X.env) :: starEach es X.env) (hplain : (backTo cpos (starEach es X.env)).any (·.1) = false) :
    PE X (.Call (.Attribute o name apos) (e :: es) [] cpos) (tM X.K E (mMeth T g f fa)) := by
  refine PE.weak (pe_bm pa slot hty hm ho ha hbase hfew hline hs hplain) ?_
  rintro σ H Q ⟨Pr, m, env, S, er, sr, h⟩
  refine ⟨Pr, m, env, S, er, sr, ?_⟩
  unfold mMeth at h
  cases h1 : f env S with
  | bad => simp only [h1, Out.bind_bad] at h
  | ex x S1 => simp only [h1, Out.bind_ex] at h ⊢; exact h
  | ok x S1 =>
    simp only [h1, Out.bind_ok] at h ⊢
    intro m1 H1 v e1 s1 r1
    by_cases ht : tyW S1 x = some T
    · simp only [if_pos ht] at h
      refine ⟨tyW_mt hT s1 r1 ht, Pr, m1, env, S1, er.ext e1, s1, ?_⟩
      cases h2 : fa env S1 with
      | bad => simp only [h2, Out.bind_bad] at h
      | ex x S2 => simp only [h2, Out.bind_ex] at h ⊢; exact h.ext e1
      | ok ws S2 =>
        simp only [h2, Out.bind_ok] at h ⊢
        intro m2 H2 vs e2 s2 r2
        cases h3 : g S2 x ws with
        | none => simp only [h3] at h
        | some p =>
          obtain ⟨w, S3⟩ := p
          simp only [h3] at h
          exact ⟨Pr, m2, S2, x, ws, w, S3, s2, r1.ext e2, r2, h3, h.ext (e1.trans e2)⟩
    · simp only [if_neg ht] at h
theorem pe_mMeth0 (hT : T = "list" ∨ T = "str") (pa : PlainAttrs T) (slot : Slot T name id) (hty : typeOf (.builtin id) = pure (.type "method_descriptor")) (hm : MtR X id (rGM X.K g)) (ho : PE X o (tM X.K E f))
    (hbase : attributeBase o name X.env (eval o X.env) = eval o X.env) (hline : (apos.endLine == cpos.line) = true) : PE X (.Call (.Attribute o name apos) [] [] cpos) (tM X.K E (mMeth T g f mNil)) := by
  refine PE.weak (pe_bm0 pa slot hty hm ho hbase hline) ?_
  rintro σ H Q ⟨Pr, m, env, S, er, sr, h⟩
  refine ⟨Pr, m, env, S, er, sr, ?_⟩
  unfold mMeth at h
  cases h1 : f env S with
  | bad => simp only [h1, Out.bind_bad] at h
  | ex x S1 => simp only [h1, Out.bind_ex] at h ⊢; exact h
  | ok x S1 =>
    simp only [h1, Out.bind_ok] at h ⊢
    intro m1 H1 v e1 s1 r1
    by_cases ht : tyW S1 x = some T
    · simp only [if_pos ht, mNil, Out.bind_ok] at h
      refine ⟨tyW_mt hT s1 r1 ht, ?_⟩
      cases h3 : g S1 x [] with
      | none => simp only [h3] at h
      | some p =>
        obtain ⟨w, S3⟩ := p
        simp only [h3] at h
        exact ⟨Pr, m1, S1, x, [], w, S3, s1, r1, .nil, h3, h.ext e1⟩
    · simp only [if_neg ht] at h
end
/-- a list of data in the store -/
def bxL (S : Store) : W → Option (Nat × List U)
  | .loc n => (match S[n]? with
    | some (.lst us) => some (n, us)
    | _ => none)
  | .val _ => none
theorem bxL_ok {K : PySem.W.Frag} {Pr m : List Addr} {H : Hp} {S : Store} {w : W} {v : V} {n : Nat} {us : List U} (s : SR K Pr m H S) (r : WR K Pr m H w v) (h : bxL S w = some (n, us)) : ∃ a xs, v = .ref a ∧ m[n]? = some a ∧ H a = some (.lst xs) ∧ URs K (Pr ++ m) H us xs := by
  cases r with
  | val r => cases h
  | @loc k a e =>
    unfold bxL at h
    cases hs : S[k]? with
    | none => simp only [hs] at h; cases h
    | some ob =>
      simp only [hs] at h
      cases ob with
      | lst us' =>
        cases h
        obtain ⟨a', e', o⟩ := s.at hs
        rw [e] at e'; cases e'
        cases o with
        | lst e1 e2 => exact ⟨a, _, rfl, e, e1, e2⟩
      | _ => cases h
def gApp : GM := fun S x ws => match bxL S x, ws with
  | some (n, us), [.val u] => if us.length < 16777216 then some (.val .none, S.set n (.lst (us ++ [u]))) else none
  | _, _ => none
def gPop : GM := fun S x ws => match bxL S x, ws with
  | some (n, us), [] => (us[us.length - 1]?).map fun u => (.val u, S.set n (.lst us.dropLast))
  | _, _ => none
def gPopAt : GM := fun S x ws => match bxL S x, ws with
  | some (n, us), [.val (.int i)] => if -(2 ^ 63) ≤ i ∧ i < 2 ^ 63 then (seqIndex? i us.length).bind fun k => (us[k]?).map fun u => (.val u, S.set n (.lst (us.eraseIdx k))) else none
  | _, _ => none
def gExt : GM := fun S x ws => match bxL S x, ws with
  | some (n, us), [y] => (seqU S y).bind fun p => if p.1 = true ∧ us.length + p.2.length ≤ 16777216 then some (.val .none, S.set n (.lst (us ++ p.2))) else none
  | _, _ => none
theorem URs.dropLast {K : PySem.W.Frag} {A : List Addr} {H : Hp} {us : List U} {vs : List V} (h : URs K A H us vs) : URs K A H us.dropLast vs.dropLast := by
  rw [List.dropLast_eq_take, List.dropLast_eq_take, h.length]
  exact h.take _
section
variable {X : Cx}
theorem gm_app : MtR X "list.append" (rGM X.K gApp) := by
  refine MtR.weak mt_append ?_
  rintro v vs H Q ⟨Pr, m, S, x, ws, w, S', s, r, rs, hg, q⟩
  unfold gApp at hg
  split at hg
  · rename_i n us u h1
    by_cases hz : us.length < 16777216
    · rw [if_pos hz] at hg; cases hg
      obtain ⟨a, xs, rfl, h2, h3, h4⟩ := bxL_ok s r h1
      cases rs with
      | cons r1 t =>
        cases t
        cases r1 with
        | val r1 =>
          refine ⟨a, xs, _, rfl, rfl, h3, by rw [line_eq, ← h4.length]; exact hz, ?_⟩
          exact q.setL s h2 (h4.append (.cons r1 .nil)) (.val .non)
    · rw [if_neg hz] at hg; cases hg
  · cases hg
theorem gm_pop : MtR X "list.pop" (rGM X.K gPop) := by
  refine MtR.weak mt_pop ?_
  rintro v vs H Q ⟨Pr, m, S, x, ws, w, S', s, r, rs, hg, q⟩
  unfold gPop at hg
  split at hg
  · rename_i n us h1
    obtain ⟨a, xs, rfl, h2, h3, h4⟩ := bxL_ok s r h1
    cases rs
    cases h5 : us[us.length - 1]? with
    | none => rw [h5] at hg; cases hg
    | some u =>
      rw [h5] at hg; cases hg
      obtain ⟨v, h6, h7⟩ := h4.get h5
      rw [h4.length] at h6
      exact ⟨a, xs, v, rfl, rfl, h3, h6, q.setL s h2 h4.dropLast (.val h7)⟩
  · cases hg
theorem gm_popAt : MtR X "list.pop" (rGM X.K gPopAt) := by
  refine MtR.weak mt_popAt ?_
  rintro v vs H Q ⟨Pr, m, S, x, ws, w, S', s, r, rs, hg, q⟩
  unfold gPopAt at hg
  split at hg
  · rename_i n us i h1
    obtain ⟨a, xs, rfl, h2, h3, h4⟩ := bxL_ok s r h1
    cases rs with
    | cons r1 t =>
      cases t
      cases r1 with
      | val r1 =>
        cases r1
        by_cases hz : -(2 ^ 63) ≤ i ∧ i < 2 ^ 63
        · rw [if_pos hz] at hg
          cases h5 : seqIndex? i us.length with
          | none => rw [h5] at hg; cases hg
          | some k =>
            rw [h5] at hg
            cases h6 : us[k]? with
            | none => simp only [Option.bind_some, h6] at hg; cases hg
            | some u =>
              simp only [Option.bind_some, h6] at hg; cases hg
              obtain ⟨v, h7, h8⟩ := h4.get h6
              rw [h4.length] at h5
              exact ⟨a, xs, i, k, v, rfl, rfl, h3, hz.1, hz.2, h5, h7, q.setL s h2 (h4.eraseIdx k) (.val h8)⟩
        · rw [if_neg hz] at hg; cases hg
  · cases hg
theorem gm_ext : MtR X "list.extend" (rGM X.K gExt) := by
  refine MtR.weak mt_extend ?_
  rintro v vs H Q ⟨Pr, m, S, x, ws, w, S', s, r, rs, hg, q⟩
  unfold gExt at hg
  split at hg
  · rename_i n us y h1
    obtain ⟨a, xs, rfl, h2, h3, h4⟩ := bxL_ok s r h1
    cases rs with
    | cons r1 t =>
      cases t
      cases h5 : seqU S y with
      | none => rw [h5] at hg; cases hg
      | some p =>
        obtain ⟨b, zs⟩ := p
        rw [h5] at hg
        simp only [Option.bind_some] at hg
        by_cases hz : b = true ∧ us.length + zs.length ≤ 16777216
        · rw [if_pos hz] at hg; cases hg
          obtain ⟨rfl, hz⟩ := hz
          obtain ⟨c, ys, rfl, k1, k2⟩ := seqU_ok s r1 h5
          exact ⟨a, c, xs, ys, rfl, rfl, h3, k1, by rw [line_eq, ← h4.length, ← k2.length]; exact hz, q.setL s h2 (h4.append k2) (.val .non)⟩
        · rw [if_neg hz] at hg; cases hg
  · cases hg
end

/-! ### x[i] = v -/
def sSetIx (fo fi fv : M) : SM := fun env S => (fv env S).st fun v S1 => (fo env S1).st fun x S2 => (fi env S2).st fun i S3 => match bxL S3 x, i, v with
  | some (n, us), .val (.int k), .val u => (match ixN us.length k with
    | some j => .nx env (S3.set n (.lst (us.set j u)))
    | none => .bad)
  | _, _, _ => .bad
section
variable {X : Cx} {E : XK} {o i e : Expr} {pos pos' : Pos} {fo fi fv : M}
theorem ps_mSetIx (ho : PE X o (tM X.K E fo)) (hi : PE X i (tM X.K E fi)) (hv : PE X e (tM X.K E fv)) (hs : swapsWithSole [.Subscript o i pos'] e pos.line X.env = pure false) (hw : swappedStores [.Subscript o i pos'] e X.env = pure none)
    (h1 : (assignEach [.Subscript o i pos'] X.env).map (·.2) = [assign (.Subscript o i pos') X.env])
    (hass : ∀ v, assign (.Subscript o i pos') X.env v = (do
      let ov ← holding [v] (eval o X.env)
      let iv ← holding [v, ov] (eval i X.env)
      standAt pos'
      holding [v, ov, iv] (setItem ov iv v)
      release [v, ov, iv] [])) : PS X (.Assign [.Subscript o i pos'] e pos) (tS X.K E (sSetIx fo fi fv)) := by
  refine PS.weak (ps_asg hv (pg_sub ho hi set_list hass) hs hw h1) ?_
  rintro D σ H ⟨Pr, m, env, S, er, sr, h⟩
  refine ⟨Pr, m, env, S, er, sr, ?_⟩
  unfold sSetIx at h
  cases h1 : fv env S with
  | bad => rw [h1] at h; exact h
  | ex x S1 => rw [h1] at h; exact h
  | ok v S1 =>
    rw [h1] at h
    simp only [Out.st_ok] at h ⊢
    intro m1 H1 y e1 s1 r1
    refine ⟨Pr, m1, env, S1, er.ext e1, s1, ?_⟩
    cases h2 : fo env S1 with
    | bad => rw [h2] at h; exact h
    | ex x S2 => rw [h2] at h; exact RetX.ext h e1
    | ok x S2 =>
      rw [h2] at h
      simp only [Out.st_ok] at h ⊢
      intro m2 H2 ov e2 s2 r2
      refine ⟨Pr, m2, env, S2, (er.ext e1).ext e2, s2, ?_⟩
      cases h3 : fi env S2 with
      | bad => rw [h3] at h; exact h
      | ex x S3 => rw [h3] at h; exact RetX.ext h (e1.trans e2)
      | ok iw S3 =>
        rw [h3] at h
        simp only [Out.st_ok] at h ⊢
        intro m3 H3 iv e3 s3 r3
        split at h
        · rename_i n us k u hb
          obtain ⟨a, xs, rfl, k2, k3, k4⟩ := bxL_ok s3 (r2.ext e3) hb
          cases r3 with
          | val r3 =>
            cases r3
            cases h4 : ixN us.length k with
            | none => rw [h4] at h; exact h.elim
            | some j =>
              rw [h4] at h
              have h4' := h4
              rw [k4.length] at h4'
              have r1' := (r1.ext e2).ext e3
              cases r1' with
              | val r1' =>
                refine ⟨a, xs, k, j, rfl, rfl, k3, h4', ?_⟩
                have e := Ext.upd s3 k2 (o := .lst (xs.set j y))
                exact h m3 _ σ (((e1.trans e2).trans e3).trans e) (s3.set k2 (.lst upd_same ((k4.set r1' j).ext' e)) rfl) ((((er.ext e1).ext e2).ext e3).ext e)
        · exact h.elim
end

/-! ### a def by its body -/
structure Fn where
  np : Nat
  ns : Nat
  keep : Bool
  body : CallO → SM
/-- what a def hands back; what it made is forgotten, but the list that it keeps -/
def finW (keep : Bool) (k : Nat) (w : W) (S : Store) : Out W := match w with
  | .val u => .ok (.val u) (S.take k)
  | .loc n => if n < k then .ok (.loc n) (S.take k) else match S[n]? with
    | some (.lst us) => if keep = true then .ok (.loc (S.take k).length) (S.take k ++ [.lst us]) else .ok (.val (.list us)) (S.take k)
    | _ => .bad
def runF (F : Fn) (cl : CallO) (ws : List W) (S : Store) : Out W := match F.body cl (ws.map some ++ List.replicate (F.ns - ws.length) none) S with
  | .nx _ S' => finW F.keep S.length (.val .none) S'
  | .rt w S' => finW F.keep S.length w S'
  | .ex x S' => .ex x (S'.take S.length)
  | _ => .bad
theorem eget_app_none : ∀ (ws : List W) (k i : Nat) (w : W), eget (ws.map some ++ List.replicate k none) i = some w → ws[i]? = some w
  | [], 0, i, w, h => by cases i <;> cases h
  | [], k + 1, 0, w, h => by cases h
  | [], k + 1, i + 1, w, h => by
    rw [List.map_nil, List.nil_append, List.replicate_succ] at h
    exact eget_app_none [] k i w h
  | x :: ws, k, 0, w, h => by
    have h : some x = some w := h
    cases h; rfl
  | x :: ws, k, i + 1, w, h => eget_app_none ws k i w h
theorem ER.begin {K : PySem.W.Frag} {Pr m : List Addr} {H : Hp} {N : List Str} {ws : List W} {vs : List V} (r : WRs K Pr m H ws vs) : ER K Pr m H (ws.map some ++ List.replicate (N.length - ws.length) none) (L2.start N vs) := by
  unfold L2.start
  refine ⟨by simp [r.length], fun i w h => ?_⟩
  obtain ⟨v, h1, h2⟩ := r.get (eget_app_none ws _ i w h)
  refine ⟨v, ?_, h2⟩
  have hl := (List.getElem?_eq_some_iff.mp h1).1
  rw [List.getElem?_append_left (by simpa using hl), List.getElem?_map, h1]
  rfl
theorem fin_ok {K : PySem.W.Frag} {Pr m : List Addr} {H : Hp} {keep : Bool} {Q : VK} {w w' : W} {S' S'' : Store} (hr : Ret K Pr m H S'' w' Q) (h : finW keep m.length w S' = .ok w' S'') : Ret K Pr m H S' w Q := by
  intro m' H' v e s r
  have e' := e.cut
  have hm := take_pre e.pre
  have sc := s.cut m.length
  rw [hm] at sc
  have e2 : Ext m m H H' := e.less (List.prefix_refl _) e.pre
  unfold finW at h
  cases r with
  | val r =>
    simp only at h
    cases h
    have q := (WR.val r).cut (k := m.length) (fun n z => by cases z)
    rw [hm] at q
    exact hr m H' v e2 sc q
  | @loc n a q =>
    simp only at h
    by_cases hn : n < m.length
    · rw [if_pos hn] at h; cases h
      have q2 := (WR.loc (K := K) (Pr := Pr) (H := H') q).cut (k := m.length) (fun j z => by cases z; exact hn)
      rw [hm] at q2
      exact hr m H' _ e2 sc q2
    · rw [if_neg hn] at h
      cases hs : S'[n]? with
      | none => rw [hs] at h; cases h
      | some o =>
        rw [hs] at h
        cases o with
        | lst us =>
          obtain ⟨a', q', ob⟩ := s.at hs
          rw [q] at q'; cases q'
          have ham : a ∉ m := by
            intro z
            obtain ⟨j, hj, ej⟩ := List.mem_iff_getElem.mp z
            have h1 : m'[j]? = some a := pre_get e.pre (by rw [List.getElem?_eq_getElem hj, ej])
            exact s.ne h1 q (by omega) rfl
          have hap : a ∉ Pr := fun z => (s.pr a z).1 (List.mem_of_getElem? q)
          cases ob with
          | lst h1 h2 =>
            have h2' : URs K (Pr ++ m) H' us _ := h2.sub fun b z => by
              rcases List.mem_append.mp z with z | z
              · exact List.mem_append_left _ z
              · exact List.mem_append_right _ (e.pre.subset z)
            cases keep with
            | false =>
              simp only [Bool.false_eq_true, reduceIte] at h
              cases h
              refine hr m H' _ e2 sc (.val (.lst ?_ h1 h2'))
              intro z
              rcases List.mem_append.mp z with z | z
              · exact hap z
              · exact ham z
            | true =>
              simp only [reduceIte] at h
              cases h
              refine hr (m ++ [a]) H' _ ⟨e.keep, e.tups, e.frzs, fun b hb => ?_, List.prefix_append _ _⟩ ?_ (.loc ?_)
              · rcases List.mem_append.mp hb with hb | hb
                · exact .inl hb
                · have : b = a := by simpa using hb
                  subst this
                  exact e.new b (List.mem_of_getElem? q)
              · refine SR.box (a := a) (o := .lst us) ⟨sc.len, sc.nd, fun b hb => ?_, fun k o b k1 k2 => ?_, sc.old⟩ hap (.lst h1 ?_)
                · rcases List.mem_cons.mp hb with z | z
                  · subst z; exact ⟨ham, by rw [h1]; intro z; cases z⟩
                  · exact sc.pr b z
                · -- the older objects keep away from a
                  have hk : k < m.length := (List.getElem?_eq_some_iff.mp k2).1
                  rw [List.getElem?_take_of_lt hk] at k1
                  have av : ∀ x, x ∈ a :: Pr ++ m → x ∈ Pr ++ m' := fun x hx => by
                    simp only [List.cons_append, List.mem_cons, List.mem_append] at hx ⊢
                    rcases hx with hx | hx | hx
                    · subst hx; exact .inr (List.mem_of_getElem? q)
                    · exact .inl hx
                    · exact .inr (e.pre.subset hx)
                  cases s.obj k o b k1 (pre_get e.pre k2) with
                  | scr z => exact .scr z
                  | lst z r => exact .lst z (r.sub av)
                  | lol z r =>
                    have q3 := s.old k _ k1
                    have r3 := r.cut (k := m.length) (older_mono (Nat.le_of_lt hk) q3)
                    rw [hm] at r3
                    exact .lol z r3
                · exact h2.sub fun x hx => by
                    simp only [List.cons_append, List.mem_cons, List.mem_append] at hx ⊢
                    rcases hx with hx | hx | hx
                    · subst hx; exact .inr (List.mem_of_getElem? q)
                    · exact .inl hx
                    · exact .inr (e.pre.subset hx)
              · rw [List.length_take, ← s.len, Nat.min_eq_left e.pre.length_le, List.getElem?_append_right (Nat.le_refl _)]
                simp
        | _ => cases h
theorem finX_ok {K : PySem.W.Frag} {Pr m : List Addr} {H : Hp} {E : XK} {x : Exc} {S' : Store} (hr : RetX K Pr m H (S'.take m.length) x E) : RetX K Pr m H S' x E := by
  intro m' H' C d e s xr
  have sc := s.cut m.length
  have hm := take_pre e.pre
  rw [hm] at sc
  refine hr m H' C d (e.less (List.prefix_refl _) e.pre) sc ?_
  cases xr with
  | own h1 h2 => exact .own h1 (h2.sub fun b z => by
      rcases List.mem_append.mp z with z | z
      · exact List.mem_append_left _ z
      · exact List.mem_append_right _ (e.pre.subset z))
/-- THE RULE of a def -/
theorem fn_run {P : Program} {w : World} {K : PySem.W.Frag} {mg : Str → Option Value} {base : Heap} {f own : Str} {params : Arguments} {body : List Stmt} {scope : Scope} {fa : Addr} {fd : FuncData} {N ps : List Str} {k : Nat} {F : Fn} {cl cl' : CallO}
    (FD : FunD K own own params body scope [] [] fa fd) (S : FnScope N ps scope) (hN : N.length = F.ns) (hcl : ∀ ws St, cl' f ws St = runF F cl ws St)
    (hb : ∀ (cdv : Value) (A : Around) (outer : List PySem.Env) (s : Shared) (H : Hp) (E : XK), Room k (A.deeper (envOfC own scope s.heap.objs.size fa cdv)) →
      PSs (cxOf (L2.CX P w) P w K mg base N own scope fa cdv A outer s H E) body (tS K E (F.body cl))) :
    FnOk P w K mg base (L2.CX P w) (k + 1) fa fd ps (spM K cl' f ps.length) := by
  refine FD.ok S (fun vs H Q E h => h.1) fun cdv A outer s H vs Q E hr hsp => ⟨_, hb cdv A outer s H E hr, ?_⟩
  obtain ⟨hl, Pr, m, St, ws, sr, r, h⟩ := hsp
  refine ⟨Pr, m, ws.map some ++ List.replicate (N.length - ws.length) none, St, ER.begin r, sr, ?_⟩
  rw [hcl] at h
  unfold runF at h
  rw [← hN, ← sr.len] at h
  cases h1 : F.body cl (ws.map some ++ List.replicate (N.length - ws.length) none) St with
  | bad => rw [h1] at h; exact h
  | bk _ _ => rw [h1] at h; exact False.elim h
  | ct _ _ => rw [h1] at h; exact False.elim h
  | ex x S' => rw [h1] at h; exact finX_ok h
  | nx env S' =>
    rw [h1] at h
    simp only at h
    cases h2 : finW F.keep m.length (.val .none) S' with
    | bad => rw [h2] at h; exact h.elim
    | ex x S'' => simp [finW] at h2
    | ok w' S'' =>
      rw [h2] at h
      intro m' H' σ' e s' _
      exact fin_ok (Q := Q) h h2 m' H' .non e s' (.val .non)
  | rt w S' =>
    rw [h1] at h
    simp only at h
    cases h2 : finW F.keep m.length w S' with
    | bad => rw [h2] at h; exact h.elim
    | ex x S'' =>
      exfalso
      unfold finW at h2
      split at h2
      · cases h2
      · split at h2
        · cases h2
        · split at h2
          · split at h2 <;> cases h2
          · cases h2
    | ok w' S'' =>
      rw [h2] at h
      exact fin_ok (Q := Q) h h2
end Rb

/-! Rb11: from the text to the readings: expressions. -/
namespace Rb
open PySem PySem.Spec PyProof.Rows L2

/-- what is known of the names -/
structure Gam where
  N : List Str
  fns : List (Str × Nat)
  cs : List (Str × U)
  cl : CallO
  bx : List (Str × Nat)
  keep : Bool
/-- the scope at hand; within a comprehension's block its own raw scope too -/
structure Sx where
  sc : Scope
  raw : Option Scope
def biNames : List Str := ["isinstance", "len", "all", "any", "range", "tuple", "list", "sorted", "enumerate", "zip", "sum", "abs", "int", "min", "max", "str", "set", "reversed", "bool", "dict"]
inductive CstR : U → Value → Prop where
  | int (i : Int) (t : Tok) : CstR (.int i) (.int i t)
  | str (x : Str) (t : Tok) : CstR (.str x) (.str x t)
structure Gd (G : Gam) (X : Cx) (E : XK) (x : Sx) (k : Nat) : Prop where
  N : X.N = G.N
  nd : G.N.Nodup
  sc : X.env.scope = x.sc
  fn : ∀ n, (match x.raw with | none => true | some s => s.names.lookup n == some .cell) = true → X.fn n = true
  calm : X.calm = true
  room : Room k X.A
  pas : Passes (L2.CX X.prog X.w) X E
  cos : ∀ p ∈ G.fns, CO X.prog X.w X.K X.mg X.base k G.cl p.1 p.2
  bis : ∀ b ∈ biNames, X.mg b = none
  cst : ∀ p ∈ G.cs, ∃ v, X.mg p.1 = some v ∧ CstR p.2 v
/-- compiled parts -/
structure Rec where
  e : Sx → Expr → Option M
  f : Sx → Expr → Option MF
  i : Sx → Expr → Expr → Option MI
structure EOk (G : Gam) (X : Cx) (E : XK) (e : Expr) (m : M) : Prop where
  pe : PE X e (tM X.K E m)
  pt : PT X e (tT X.K E m)
structure RecOk (G : Gam) (k : Nat) (r : Rec) : Prop where
  e : ∀ X E x e m, Gd G X E x k → r.e x e = some m → EOk G X E e m
  f : ∀ X E x e m, Gd G X E x k → r.f x e = some m → PE X e (tF X.K E m)
  i : ∀ X E x tg e m, Gd G X E x k → r.i x tg e = some m → PI X tg e (tI X.K E m)

def isStar : Expr → Bool
  | .Starred _ _ => true
  | _ => false
theorem star_cons {e : Expr} {es : List Expr} {env : PySem.Env} (h : isStar e = false) : starEach (e :: es) env = (false, eval e env) :: starEach es env := by
  cases e <;> first | rfl | cases h
def okName (x : Str) : Bool := !(x == ("__debug__" : Str)) && !(x == ("__classdict__" : Str)) && !decide (x = "__name__")
theorem okName_ok {x : Str} (h : okName x = true) : (x == ("__debug__" : Str)) = false ∧ (x == ("__classdict__" : Str)) = false ∧ x ≠ "__name__" := by
  unfold okName at h
  simp only [Bool.and_eq_true, Bool.not_eq_true', decide_eq_false_iff_not] at h
  exact ⟨h.1.1, h.1.2, h.2⟩
def isVis (sc : Scope) (x : Str) : Bool := match sc.names.lookup x with
  | some .local => true
  | some .cell => true
  | some .free => true
  | _ => false
theorem isVis_ok {sc : Scope} {x : Str} (h : isVis sc x = true) : Vis sc x := by
  unfold isVis at h
  split at h
  · rename_i e; exact .inl e
  · rename_i e; exact .inr (.inl e)
  · rename_i e; exact .inr (.inr e)
  · cases h
def isGl (sc : Scope) (x : Str) : Bool := match sc.names.lookup x with
  | some .globalImplicit => true
  | _ => false
theorem isGl_ok {X : Cx} {x : Str} {s : Sx} (hs : X.env.scope = s.sc) (h : isGl s.sc x = true) : Gl X x := by
  unfold isGl at h
  split at h
  · rename_i e
    show X.env.scope.names.lookup x = _
    rw [hs]; exact e
  · cases h
def ixOf (x : Str) : List Str → Nat → Option Nat
  | [], _ => none
  | y :: r, n => if x = y then some n else ixOf x r (n + 1)
theorem ixOf_ok {x : Str} : ∀ {N : List Str} {n i : Nat}, ixOf x N n = some i → ∃ j, i = n + j ∧ N[j]? = some x
  | [], _, _, h => by cases h
  | y :: r, n, i, h => by
    unfold ixOf at h
    by_cases e : x = y
    · rw [if_pos e] at h; cases h; exact ⟨0, rfl, by rw [e]; rfl⟩
    · rw [if_neg e] at h
      obtain ⟨j, h1, h2⟩ := ixOf_ok h
      exact ⟨j + 1, by omega, h2⟩
theorem ixOf_at {x : Str} {N : List Str} {i : Nat} (h : ixOf x N 0 = some i) : N[i]? = some x := by
  obtain ⟨j, h1, h2⟩ := ixOf_ok h
  have : i = j := by omega
  rw [this]; exact h2
def cName (G : Gam) (x : Sx) (n : Str) : Option M := if okName n = true then (if isVis x.sc n = true then (ixOf n G.N 0).map mVar else if isGl x.sc n = true then (G.cs.lookup n).map mLit else none) else none
theorem lookup_mem' {α : Type} {x : Str} {a : α} : ∀ {l : List (Str × α)}, l.lookup x = some a → (x, a) ∈ l
  | [], h => by cases h
  | (y, b) :: r, h => by
    rw [List.lookup_cons] at h
    split at h
    · rename_i e
      cases h
      rw [beq_iff_eq.mp e]
      exact List.mem_cons_self
    · exact List.mem_cons_of_mem _ (lookup_mem' h)
section
variable {G : Gam} {X : Cx} {E : XK} {x : Sx} {k : Nat} {pos : Pos}
theorem EOk.of {e : Expr} {m : M} (h : PE X e (tM X.K E m)) (he : ∀ whole, isTrue e X.env whole = (do let v ← whole; standAt e.pos; holding [v] (truthy v))) : EOk G X E e m := ⟨h, PT.ofPE h he⟩
theorem cName_ok (g : Gd G X E x k) {n : Str} {m : M} (h : cName G x n = some m) : EOk G X E (.Name n pos) m := by
  unfold cName at h
  by_cases h1 : okName n = true
  · rw [if_pos h1] at h
    obtain ⟨a1, a2, a3⟩ := okName_ok h1
    by_cases h2 : isVis x.sc n = true
    · rw [if_pos h2] at h
      obtain ⟨i, h3, rfl⟩ := Option.map_eq_some_iff.mp h
      exact .of (pe_mVar (by rw [g.N]; exact ixOf_at h3) (by rw [g.sc]; exact isVis_ok h2) a1 a2) fun _ => rfl
    · rw [if_neg h2] at h
      by_cases h4 : isGl x.sc n = true
      · rw [if_pos h4] at h
        obtain ⟨u, h3, rfl⟩ := Option.map_eq_some_iff.mp h
        obtain ⟨v, h5, h6⟩ := g.cst _ (lookup_mem' h3)
        simp only at h5 h6
        have hg := isGl_ok g.sc h4
        cases h6 with
        | int i t => exact .of (pe_mGlobInt hg h5 a1) fun _ => rfl
        | str i t => exact .of (pe_mGlobStr hg h5 a1) fun _ => rfl
      · rw [if_neg h4] at h; cases h
  · rw [if_neg h1] at h; cases h
end
def cConst : Const → Option M
  | .int i => some (mLit (.int i))
  | .bool b => some (mLit (.bool b))
  | .none => some (mLit .none)
  | .str s => some (mLit (.str s))
  | _ => none
def cArgs (r : Rec) (x : Sx) : List Expr → Option MA
  | [] => some mNil
  | e :: es => if isStar e = true then none else (r.e x e).bind fun f => (cArgs r x es).map fun g => mCons f g
section
variable {G : Gam} {X : Cx} {E : XK} {x : Sx} {k : Nat} {pos : Pos} {r : Rec}
theorem cConst_ok {c : Const} {j : Nat} {m : M} (h : cConst c = some m) : EOk G X E (.Constant c j pos) m := by
  cases c <;> first | cases h | skip
  all_goals refine EOk.of ?_ fun _ => rfl
  · exact pe_mNon
  · exact pe_mBl
  · exact pe_mInt
  · exact pe_mStr
theorem cArgs_ok (ok : RecOk G k r) (g : Gd G X E x k) : ∀ {es : List Expr} {m : MA}, cArgs r x es = some m → PA X es (tMA X.K E m)
  | [], m, h => by cases h; exact pa_mNil
  | e :: es, m, h => by
    unfold cArgs at h
    by_cases hs : isStar e = true
    · rw [if_pos hs] at h; cases h
    · rw [if_neg hs] at h
      obtain ⟨f, h1, h2⟩ := Option.bind_eq_some_iff.mp h
      obtain ⟨gg, h3, rfl⟩ := Option.map_eq_some_iff.mp h2
      exact pa_mCons (ok.e _ _ _ _ _ g h1).pe (cArgs_ok ok g h3) (star_cons (by simpa using hs))
theorem star_plain : ∀ {es : List Expr} {env : PySem.Env} {p : Pos} {m : MA}, cArgs r x es = some m → (backTo p (starEach es env)).any (·.1) = false
  | [], _, _, _, _ => rfl
  | e :: es, env, p, m, h => by
    unfold cArgs at h
    by_cases hs : isStar e = true
    · rw [if_pos hs] at h; cases h
    · rw [if_neg hs] at h
      obtain ⟨f, h1, h2⟩ := Option.bind_eq_some_iff.mp h
      obtain ⟨gg, h3, rfl⟩ := Option.map_eq_some_iff.mp h2
      rw [star_cons (by simpa using hs)]
      have := star_plain (env := env) (p := p) h3
      show (false || (backTo p (starEach es env)).any (·.1)) = false
      rw [this]; rfl
theorem star_all : ∀ {es : List Expr} {env : PySem.Env} {p : Pos} {m : MA}, cArgs r x es = some m → (backTo p (starEach es env)).all (fun x => !x.1) = true
  | [], _, _, _, _ => rfl
  | e :: es, env, p, m, h => by
    unfold cArgs at h
    by_cases hs : isStar e = true
    · rw [if_pos hs] at h; cases h
    · rw [if_neg hs] at h
      obtain ⟨f, h1, h2⟩ := Option.bind_eq_some_iff.mp h
      obtain ⟨gg, h3, rfl⟩ := Option.map_eq_some_iff.mp h2
      rw [star_cons (by simpa using hs)]
      have := star_all (env := env) (p := p) h3
      show (true && (backTo p (starEach es env)).all (fun x => !x.1)) = true
      rw [this]; rfl
end

/-! ### and, or -/
def cBool (r : Rec) (x : Sx) (op : BoolOp) : List Expr → Option M
  | [] => none
  | [a] => r.e x a
  | a :: b :: rest => (r.e x a).bind fun f => (cBool r x op (b :: rest)).map fun g => match op with
    | .And => mAnd f g
    | .Or => mOr f g
section
variable {G : Gam} {X : Cx} {E : XK} {x : Sx} {k : Nat} {pos : Pos} {r : Rec}
theorem cBool_ok (ok : RecOk G k r) (g : Gd G X E x k) {op : BoolOp} : ∀ {es : List Expr} {m : M}, cBool r x op es = some m → PE X (.BoolOp op es pos) (tM X.K E m) ∧ PW X (.BoolOp op es pos) (tT X.K E m)
  | [], m, h => by cases h
  | [a], m, h => by
    have q := ok.e _ _ _ _ _ g (show r.e x a = some m from h)
    exact ⟨pe_mOne q.pe, pw_mOne (by cases op <;> simp) q.pt⟩
  | a :: b :: rest, m, h => by
    unfold cBool at h
    obtain ⟨f, h1, h2⟩ := Option.bind_eq_some_iff.mp h
    obtain ⟨gg, h3, rfl⟩ := Option.map_eq_some_iff.mp h2
    have q := ok.e _ _ _ _ _ g h1
    have ih := cBool_ok ok g h3
    cases op with
    | And => exact ⟨pe_mAnd q.pe ih.1, pw_mAnd q.pt ih.2⟩
    | Or => exact ⟨pe_mOr q.pe ih.1, pw_mOr q.pt ih.2⟩
end

/-! ### comparisons -/
def cCmp (r : Rec) (x : Sx) (a : Expr) : List CmpOp → List Expr → Option M
  | [op], [b] => if behindInMarks op b = true then none else (gCmp op).bind fun g => (r.e x a).bind fun f => (r.e x b).map fun f' => m2 g f f'
  | [op, op'], [b, c] => if lastMarks [op, op'] [b, c] = true then none else (gCmp op).bind fun g => (gCmp op').bind fun g' => (r.e x a).bind fun f => (r.e x b).bind fun f' => (r.e x c).map fun f'' => mChain g g' f f' f''
  | _, _ => none
section
variable {G : Gam} {X : Cx} {E : XK} {x : Sx} {k : Nat} {pos : Pos} {r : Rec}
theorem Gd.hu (g : Gd G X E x k) : X.A.units + 65 < cLine := by have := g.room.un; omega
theorem cCmp_ok (ok : RecOk G k r) (g : Gd G X E x k) {a : Expr} {ops : List CmpOp} {cs : List Expr} {m : M} (h : cCmp r x a ops cs = some m) : EOk G X E (.Compare a ops cs pos) m := by
  unfold cCmp at h
  split at h
  · rename_i op b
    by_cases hb : behindInMarks op b = true
    · rw [if_pos hb] at h; cases h
    · rw [if_neg hb] at h
      obtain ⟨gg, h1, h⟩ := Option.bind_eq_some_iff.mp h
      obtain ⟨f, h2, h⟩ := Option.bind_eq_some_iff.mp h
      obtain ⟨f', h3, rfl⟩ := Option.map_eq_some_iff.mp h
      have q1 := ok.e _ _ _ _ _ g h2
      have q2 := ok.e _ _ _ _ _ g h3
      exact ⟨pe_m2c (gCmp_ok g.hu h1) q1.pe q2.pe (by simpa using hb), pt_m2c (gCmp_bool h1) (gCmp_ok g.hu h1) q1.pe q2.pe (by simpa using hb)⟩
  · rename_i op op' b c
    by_cases hb : lastMarks [op, op'] [b, c] = true
    · rw [if_pos hb] at h; cases h
    · rw [if_neg hb] at h
      obtain ⟨gg, h1, h⟩ := Option.bind_eq_some_iff.mp h
      obtain ⟨gg', h1', h⟩ := Option.bind_eq_some_iff.mp h
      obtain ⟨f, h2, h⟩ := Option.bind_eq_some_iff.mp h
      obtain ⟨f', h3, h⟩ := Option.bind_eq_some_iff.mp h
      obtain ⟨f'', h4, rfl⟩ := Option.map_eq_some_iff.mp h
      have q1 := ok.e _ _ _ _ _ g h2
      have q2 := ok.e _ _ _ _ _ g h3
      have q3 := ok.e _ _ _ _ _ g h4
      exact ⟨pe_mChain (gCmp_ok g.hu h1) (gCmp_ok g.hu h1') q1.pe q2.pe q3.pe (by simpa using hb), pt_mChain (gCmp_bool h1') (gCmp_ok g.hu h1) (gCmp_ok g.hu h1') q1.pe q2.pe q3.pe (by simpa using hb)⟩
  · cases h
end

/-! ### subscripts -/
def isSlice : Expr → Bool
  | .Slice .. => true
  | _ => false
theorem plainIx_of {b : Expr} (h : isSlice b = false) : PlainIx b := by
  intro o i
  cases b <;> first | rfl | cases h
def cPart (r : Rec) (x : Sx) : Option Expr → Option MO
  | none => some mNo
  | some e => (r.e x e).map mPart
def cSub (r : Rec) (x : Sx) (a : Expr) : Expr → Option M
  | .Slice lo hi none _ => (r.e x a).bind fun f => (cPart r x lo).bind fun fl => (cPart r x hi).map fun fh => mSl f fl fh
  | .Slice _ _ (some _) _ => none
  | i => if isSlice i = true then none else (r.e x a).bind fun f => (r.e x i).map fun f' => m2 gIx f f'
section
variable {G : Gam} {X : Cx} {E : XK} {x : Sx} {k : Nat} {pos : Pos} {r : Rec}
theorem cPart_ok (ok : RecOk G k r) (g : Gd G X E x k) {o : Option Expr} {m : MO} (h : cPart r x o = some m) : PO X o (tO X.K E m) := by
  cases o with
  | none => cases h; exact po_no
  | some e =>
    obtain ⟨f, h1, rfl⟩ := Option.map_eq_some_iff.mp (show (r.e x e).map mPart = some m from h)
    exact po_part (ok.e _ _ _ _ _ g h1).pe
theorem cSub_ok (ok : RecOk G k r) (g : Gd G X E x k) {a i : Expr} {m : M} (h : cSub r x a i = some m) : PE X (.Subscript a i pos) (tM X.K E m) := by
  unfold cSub at h
  split at h
  · obtain ⟨f, h1, h⟩ := Option.bind_eq_some_iff.mp h
    obtain ⟨fl, h2, h⟩ := Option.bind_eq_some_iff.mp h
    obtain ⟨fh, h3, rfl⟩ := Option.map_eq_some_iff.mp h
    exact pe_mSl (ok.e _ _ _ _ _ g h1).pe (cPart_ok ok g h2) (cPart_ok ok g h3)
  · cases h
  · by_cases hs : isSlice i = true
    · rw [if_pos hs] at h; cases h
    · rw [if_neg hs] at h
      obtain ⟨f, h1, h⟩ := Option.bind_eq_some_iff.mp h
      obtain ⟨f', h2, rfl⟩ := Option.map_eq_some_iff.mp h
      exact pe_mIx (ok.e _ _ _ _ _ g h1).pe (ok.e _ _ _ _ _ g h2).pe (plainIx_of (by simpa using hs))
end
end Rb

/-! Rb12: from the text to the readings: calls, new lists, comprehensions. -/
namespace Rb
open PySem PySem.Spec PyProof.Rows L2

/-! ### what is walked -/
def itAny (f : M) : MI := fun env S => (f env S).bind fun w S1 => match w with
  | .val u => (match uI u with
    | some (_, ws) => .ok (.fix ws) S1
    | none => .bad)
  | .loc n => .ok (.live n) S1
theorem PI.or {X : Cx} {tg e : Expr} {t t' : TI} (h : PI X tg e t) (h' : PI X tg e t') : PI X tg e (fun σ H R => t σ H R ∨ t' σ H R) := ⟨fun pins s σ H R I q => by
  rcases q with q | q
  · exact h.run pins s σ H R I q
  · exact h'.run pins s σ H R I q⟩
theorem pi_mAny {X : Cx} {E : XK} {tg a : Expr} {f : M} (ha : PE X a (tM X.K E f)) : PI X tg a (tI X.K E (itAny f)) := by
  refine PI.weak (PI.or (pi_mList ha) (pi_mTup ha)) ?_
  rintro σ H R ⟨Pr, m, env, S, er, sr, h⟩
  have go : ∀ b, (match itSeq b f env S with
      | .ok itr S' => ∀ m' H' J, Ext m m' H H' → SR X.K Pr m' H' S' → StepOk X.K Pr m' H' itr J → R J H'
      | .ex x S' => RetX X.K Pr m H S' x E
      | .bad => False) → tI X.K E (itSeq b f) σ H R := fun b h => ⟨Pr, m, env, S, er, sr, h⟩
  unfold itAny at h
  cases h1 : f env S with
  | bad => rw [h1] at h; exact h.elim
  | ex x S1 => rw [h1] at h; exact .inl (go true (by unfold itSeq; rw [h1]; exact h))
  | ok w S1 =>
    rw [h1] at h
    simp only [Out.bind_ok] at h
    cases w with
    | loc n => exact .inl (go true (by unfold itSeq; rw [h1]; exact h))
    | val u =>
      cases u with
      | tuple us => exact .inr (go false (by unfold itSeq; rw [h1]; exact h))
      | list us => exact .inl (go true (by unfold itSeq; rw [h1]; exact h))
      | _ => exact h.elim
def isSetE : Expr → Bool
  | .Set .. => true
  | _ => false
theorem folded_of {e : Expr} {env : PySem.Env} (h : isSetE e = false) : ∀ x, foldedSetIterable e env x = pure x := by
  intro x
  cases e <;> first | rfl | cases h
/-- a call of a built-in name -/
def callOf : Expr → Option (Str × List Expr)
  | .Call (.Name n _) args [] _ => some (n, args)
  | _ => none
def cIt (G : Gam) (r : Rec) (x : Sx) (tg : Expr) : Expr → Option MI
  | .Call (.Name n p) args [] pos => if n = "range" ∧ isGl x.sc n = true then (match args with
      | [a] => (cArgs r x [a]).map itR1
      | [a, b] => (cArgs r x [a, b]).map itR2
      | _ => none)
    else (r.e x (.Call (.Name n p) args [] pos)).map itAny
  | e => if isSetE e = true then none else (r.e x e).map itAny
section
variable {G : Gam} {X : Cx} {E : XK} {x : Sx} {k : Nat} {pos : Pos} {r : Rec}
theorem cIt_ok (ok : RecOk G k r) (g : Gd G X E x k) {tg e : Expr} {m : MI} (h : cIt G r x tg e = some m) : PI X tg e (tI X.K E m) := by
  unfold cIt at h
  split at h
  · rename_i n p args pos
    by_cases hn : n = "range" ∧ isGl x.sc n = true
    · rw [if_pos hn] at h
      obtain ⟨rfl, hg⟩ := hn
      have hgl := isGl_ok g.sc hg
      have hm := g.bis "range" (by simp [biNames])
      split at h
      · rename_i a
        obtain ⟨f, h1, rfl⟩ := Option.map_eq_some_iff.mp h
        have hs : isStar a = false := by
          unfold cArgs at h1
          by_cases hs : isStar a = true
          · rw [if_pos hs] at h1; cases h1
          · simpa using hs
        exact pi_mR1 hgl hm (cArgs_ok ok g h1) (star_cons hs)
      · rename_i a b
        obtain ⟨f, h1, rfl⟩ := Option.map_eq_some_iff.mp h
        have hs : isStar a = false ∧ isStar b = false := by
          unfold cArgs at h1
          by_cases hs : isStar a = true
          · rw [if_pos hs] at h1; cases h1
          · rw [if_neg hs] at h1
            obtain ⟨f1, _, h2⟩ := Option.bind_eq_some_iff.mp h1
            obtain ⟨g1, h3, _⟩ := Option.map_eq_some_iff.mp h2
            unfold cArgs at h3
            by_cases hs' : isStar b = true
            · rw [if_pos hs'] at h3; cases h3
            · exact ⟨by simpa using hs, by simpa using hs'⟩
        exact pi_mR2 hgl hm (cArgs_ok ok g h1) (by rw [star_cons hs.1, star_cons hs.2]; rfl) (star_cons hs.2)
      · cases h
    · rw [if_neg hn] at h
      obtain ⟨f, h1, rfl⟩ := Option.map_eq_some_iff.mp h
      exact pi_mAny (ok.e _ _ _ _ _ g h1).pe
  · by_cases hs : isSetE e = true
    · rw [if_pos hs] at h; cases h
    · rw [if_neg hs] at h
      obtain ⟨f, h1, rfl⟩ := Option.map_eq_some_iff.mp h
      exact pi_mAny (ok.e _ _ _ _ _ g h1).pe
end

/-! ### targets -/
def isLoc (x : Sx) (n : Str) : Bool := match x.sc.names.lookup n with
  | some .local => true
  | some .cell => (match x.raw with
    | none => true
    | some s => s.names.lookup n == some .cell)
  | _ => false
mutual
def cTg (N : List Str) (x : Sx) : Nat → Expr → Option Tg
  | 0, _ => none
  | d + 1, .Name n _ => if isLoc x n = true then (ixOf n N 0).map .nm else none
  | d + 1, .Tuple es _ _ => (cTgs N x d es).map .tp
  | _, _ => none
def cTgs (N : List Str) (x : Sx) : Nat → List Expr → Option (List Tg)
  | 0, _ => none
  | d + 1, [] => some []
  | d + 1, e :: es => (cTg N x d e).bind fun t => (cTgs N x d es).map fun ts => t :: ts
end
def isTgE : Expr → Bool
  | .Name .. => true
  | .Tuple .. => true
  | _ => false
theorem tg_each {e : Expr} {es : List Expr} {env : PySem.Env} (h : isTgE e = true) : (assignEach (e :: es) env).map (·.2) = assign e env :: (assignEach es env).map (·.2) ∧ (assignEach (e :: es) env).length = (assignEach es env).length + 1 ∧ ((assignEach es env).findIdx? (·.1) = none → (assignEach (e :: es) env).findIdx? (·.1) = none) := by
  cases e with
  | Name n p =>
    refine ⟨rfl, rfl, fun q => ?_⟩
    show List.findIdx? (·.1) ((false, assign (.Name n p) env) :: assignEach es env) = none
    rw [List.findIdx?_cons]
    simp only [Bool.false_eq_true, reduceIte, q, Option.map_none]
  | Tuple a b c =>
    refine ⟨rfl, rfl, fun q => ?_⟩
    show List.findIdx? (·.1) ((false, assign (.Tuple a b c) env) :: assignEach es env) = none
    rw [List.findIdx?_cons]
    simp only [Bool.false_eq_true, reduceIte, q, Option.map_none]
  | _ => cases h
section
variable {G : Gam} {X : Cx} {E : XK} {x : Sx} {k : Nat}
theorem isLoc_ok (g : Gd G X E x k) {n : Str} (h : isLoc x n = true) : Loc X.env.scope n ∧ (X.fn n = true ∨ X.env.scope.names.lookup n = some .local) := by
  unfold isLoc at h
  rw [g.sc]
  split at h
  · rename_i e; exact ⟨.inl e, .inr e⟩
  · rename_i e
    refine ⟨.inr e, .inl (g.fn n ?_)⟩
    cases hr : x.raw with
    | none => rfl
    | some s => rw [hr] at h; exact h
  · cases h
theorem cTg_star {N : List Str} {d : Nat} {e : Expr} {t : Tg} (h : cTg N x d e = some t) : isTgE e = true := by
  cases d with
  | zero => simp only [cTg] at h; cases h
  | succ d =>
    cases e with
    | Name n p => rfl
    | Tuple a b c => rfl
    | _ => simp only [cTg] at h; cases h
theorem cTg_ok (g : Gd G X E x k) : ∀ d, (∀ e t, cTg G.N x d e = some t → PG X e (gM X.K t)) ∧ (∀ es ts, cTgs G.N x d es = some ts → PGs X es (gMs X.K ts) ∧ (assignEach es X.env).length = ts.length ∧ (assignEach es X.env).findIdx? (·.1) = none)
  | 0 => ⟨(fun e t h => by simp only [cTg] at h; cases h), (fun es ts h => by simp only [cTgs] at h; cases h)⟩
  | d + 1 => by
    obtain ⟨i1, i2⟩ := cTg_ok g d
    refine ⟨fun e t h => ?_, fun es ts h => ?_⟩
    · cases e with
      | Name n p =>
        simp only [cTg] at h
        by_cases hl : isLoc x n = true
        · rw [if_pos hl] at h
          obtain ⟨i, h1, rfl⟩ := Option.map_eq_some_iff.mp h
          obtain ⟨a1, a2⟩ := isLoc_ok g hl
          exact pg_mName (by rw [g.N]; exact g.nd) (by rw [g.N]; exact ixOf_at h1) a1 a2
        · rw [if_neg hl] at h; cases h
      | Tuple es j p =>
        simp only [cTg] at h
        obtain ⟨ts, h1, rfl⟩ := Option.map_eq_some_iff.mp h
        obtain ⟨a1, a2, a3⟩ := i2 es ts h1
        exact pg_mTup g.calm a1 a2 a3
      | _ => simp only [cTg] at h; cases h
    · cases es with
      | nil => simp only [cTgs] at h; cases h; exact ⟨pgs_mNil, rfl, rfl⟩
      | cons e es =>
        simp only [cTgs] at h
        obtain ⟨t, h1, h⟩ := Option.bind_eq_some_iff.mp h
        obtain ⟨ts', h2, rfl⟩ := Option.map_eq_some_iff.mp h
        obtain ⟨a1, a2, a3⟩ := i2 es ts' h2
        obtain ⟨b1, b2, b3⟩ := tg_each (es := es) (env := X.env) (cTg_star h1)
        exact ⟨pgs_mCons (i1 e t h1) a1 b1, by rw [b2, a2]; rfl, b3 a3⟩
end

/-! ### comprehensions -/
def ownOf (N : List Str) (s : Scope) : List (Str × Nat) := s.names.filterMap fun p => match p.2 with
  | .local => (ixOf p.1 N 0).map fun i => (p.1, i)
  | .cell => (ixOf p.1 N 0).map fun i => (p.1, i)
  | _ => none
def cIfs (r : Rec) (x : Sx) : List Expr → Option (Option M)
  | [] => some none
  | [c] => (r.e x c).map some
  | _ => none
def inBlk (x : Sx) (s : Scope) : Sx := ⟨relS s x.sc, some s⟩
/-- the parts of a comprehension; elt by ce -/
def cComp (G : Gam) (r : Rec) (ce : Sx → Expr → Option M) (x : Sx) (elt : Expr) (s : Scope) : List Comprehension → Option MF
  | [⟨tg, iter, ifs, is⟩] => if is = 0 ∧ blkC G.N x.sc s (ownOf G.N s) = true ∧ isSetE iter = false then
      (r.i x tg iter).bind fun it => (cTg G.N (inBlk x s) 8 tg).bind fun t => (cIfs r (inBlk x s) ifs).bind fun c => (ce (inBlk x s) elt).bind fun f =>
        if (slotsT t).all (fun i => ((ownOf G.N s).map (·.2)).contains i) = true then some (mComp ((ownOf G.N s).map (·.2)) it t c f) else none
    else none
  | _ => none
section
variable {G : Gam} {X : Cx} {E : XK} {x : Sx} {k : Nat} {pos : Pos} {r : Rec}
theorem Gd.blk (g : Gd G X E x k) (s : Shared) (H : Hp) (sc : Scope) (C : Addr) (cl : List (Str × Addr)) (fp : List Addr) : Gd G (X.blk s H sc (compEnvC sc cl C X.env) fp) E0' (inBlk x sc) k where
  N := g.N
  nd := g.nd
  sc := by
    show relabel sc X.env = relS sc x.sc
    rw [← g.sc]; rfl
  fn := fun n h => h
  calm := g.calm
  room := g.room
  pas := passL
  cos := g.cos
  bis := g.bis
  cst := g.cst
theorem PTs.weak {X : Cx} {e : List Expr} {t t' : TT} (h : PTs X e t) (k : ∀ σ H Q, t' σ H Q → t σ H Q) : PTs X e t' := ⟨fun pins s σ H Q I q => h.run pins s σ H Q I (k σ H Q q)⟩
theorem cIfs_ok (ok : RecOk G k r) {X : Cx} {x : Sx} (g : Gd G X E0' x k) {ifs : List Expr} {c : Option M} (h : cIfs r x ifs = some c) : PTs X ifs (tOpt X.K c) := by
  unfold cIfs at h
  split at h
  · cases h; exact pts_nil
  · obtain ⟨f, h1, rfl⟩ := Option.map_eq_some_iff.mp h
    exact pts_one (ok.e _ _ _ _ _ g h1).pt
  · cases h
/-- a comprehension, as a value and as what a local name takes -/
theorem cComp_ok (ok : RecOk G k r) (g : Gd G X E x k) {ce : Sx → Expr → Option M} (hce : ∀ X x e m, Gd G X E0' x k → ce x e = some m → PE X e (tM X.K E0' m)) {elt : Expr} {s : Scope} {gens : List Comprehension} {m : MF} (h : cComp G r ce x elt s gens = some m) :
    PE X (.ListComp elt gens s pos) (tF X.K E m) ∧ ∀ (i : Nat) (y : Str) (py spos : Pos), X.N[i]? = some y → X.env.scope.names.lookup y = some .local → swapsWith (.ListComp elt gens s pos) (some (.Name y py)) spos.line X.env = pure true →
      PS X (.Assign [.Name y py] (.ListComp elt gens s pos) spos) (tAsg (tF X.K E m) (gName i)) := by
  unfold cComp at h
  split at h
  · rename_i tg iter ifs is
    by_cases hc : is = 0 ∧ blkC G.N x.sc s (ownOf G.N s) = true ∧ isSetE iter = false
    · rw [if_pos hc] at h
      obtain ⟨rfl, hb, hs⟩ := hc
      obtain ⟨it, h1, h⟩ := Option.bind_eq_some_iff.mp h
      obtain ⟨t, h2, h⟩ := Option.bind_eq_some_iff.mp h
      obtain ⟨c, h3, h⟩ := Option.bind_eq_some_iff.mp h
      obtain ⟨f, h4, h⟩ := Option.bind_eq_some_iff.mp h
      by_cases hw : (slotsT t).all (fun i => ((ownOf G.N s).map (·.2)).contains i) = true
      · rw [if_pos hw] at h; cases h
        have hN : X.N.Nodup := by rw [g.N]; exact g.nd
        have hbk : BlkOk X.N X.env.scope s (ownOf G.N s) := by rw [g.N, g.sc]; exact blkOk_by hb
        have hown : ∀ i ∈ slotsT t, i ∈ (ownOf G.N s).map (·.2) := fun i hi => by
          have := List.all_eq_true.mp hw i hi
          exact List.contains_iff_mem.mp this
        have hi := ok.i _ _ _ _ _ _ g h1
        refine ⟨PE.weak (pe_lc g.calm hN hi hbk (fun s' H' C cl fp => ((cTg_ok (g.blk s' H' s C cl fp) 8).1 tg t h2)) (fun s' H' C cl fp => cIfs_ok ok (g.blk s' H' s C cl fp) h3) (fun s' H' C cl fp => hce _ _ _ _ (g.blk s' H' s C cl fp) h4) (folded_of hs)) fun σ H Q q => comp_read hown q, fun i y py spos hy hl hsw => ?_⟩
        refine PS.weak (ps_setLc g.calm hN hy hl hsw hi hbk (fun s' H' C cl fp => ((cTg_ok (g.blk s' H' s C cl fp) 8).1 tg t h2)) (fun s' H' C cl fp => cIfs_ok ok (g.blk s' H' s C cl fp) h3) (fun s' H' C cl fp => hce _ _ _ _ (g.blk s' H' s C cl fp) h4) (folded_of hs)) fun D σ H q => comp_read hown q
      · rw [if_neg hw] at h; cases h
    · rw [if_neg hc] at h; cases h
  · cases h
end
end Rb

/-! Rb13: list and tuple of a range, list(x) as a new list. -/
namespace Rb
open PySem PySem.Spec PyProof.Rows L2

/-! ### ranges as arguments -/
abbrev MR := Env → Store → Out (Int × Int)
def mRg1 (f : M) : MR := fun env S => (f env S).bind fun w S1 => match uInt w with
  | some n => .ok (0, n) S1
  | none => .bad
def mRg2 (f f' : M) : MR := fun env S => (f env S).bind fun w S1 => (f' env S1).bind fun w' S2 => match uInt w, uInt w' with
  | some a, some b => .ok (a, b) S2
  | _, _ => .bad
def tRM (K : PySem.W.Frag) (E : XK) (f : MR) : L2.St → Hp → (Int → Int → Hp → Prop) → Prop := fun σ H Q => ∃ Pr m env S, ER K Pr m H env σ ∧ SR K Pr m H S ∧
  match f env S with
  | .ok p S' => ∀ m' H', Ext m m' H H' → SR K Pr m' H' S' → Q p.1 p.2 H'
  | .ex x S' => RetX K Pr m H S' x E
  | .bad => False
theorem PRg.weak {X : Cx} {e : Expr} {t t' : L2.St → Hp → (Int → Int → Hp → Prop) → Prop} (h : PRg X e t) (k : ∀ σ H Q, t' σ H Q → t σ H Q) : PRg X e t' := fun pins s σ H Q I q => h pins s σ H Q I (k σ H Q q)
theorem rg1_read {K : PySem.W.Frag} {E : XK} {f : M} {σ : L2.St} {H : Hp} {Q : Int → Int → Hp → Prop} (h : tRM K E (mRg1 f) σ H Q) : tRg1 (tM K E f) σ H Q := by
  obtain ⟨Pr, m, env, S, er, sr, h⟩ := h
  refine ⟨Pr, m, env, S, er, sr, ?_⟩
  unfold mRg1 at h
  cases h1 : f env S with
  | bad => simp only [h1, Out.bind_bad] at h
  | ex x S1 => simp only [h1, Out.bind_ex] at h ⊢; exact h
  | ok w S1 =>
    simp only [h1, Out.bind_ok] at h ⊢
    intro m1 H1 v e1 s1 r1
    cases h2 : uInt w with
    | none => simp only [h2] at h
    | some n =>
      simp only [h2] at h
      exact ⟨n, uInt_ok r1 h2, h m1 H1 e1 s1⟩
theorem rg2_read {K : PySem.W.Frag} {E : XK} {f f' : M} {σ : L2.St} {H : Hp} {Q : Int → Int → Hp → Prop} (h : tRM K E (mRg2 f f') σ H Q) : tRg2 (tM K E f) (tM K E f') σ H Q := by
  obtain ⟨Pr, m, env, S, er, sr, h⟩ := h
  refine ⟨Pr, m, env, S, er, sr, ?_⟩
  unfold mRg2 at h
  cases h1 : f env S with
  | bad => simp only [h1, Out.bind_bad] at h
  | ex x S1 => simp only [h1, Out.bind_ex] at h ⊢; exact h
  | ok w S1 =>
    simp only [h1, Out.bind_ok] at h ⊢
    intro m1 H1 v e1 s1 r1
    refine ⟨Pr, m1, env, S1, er.ext e1, s1, ?_⟩
    cases h2 : f' env S1 with
    | bad => simp only [h2, Out.bind_bad] at h
    | ex x S2 => simp only [h2, Out.bind_ex] at h ⊢; exact RetX.ext h e1
    | ok w' S2 =>
      simp only [h2, Out.bind_ok] at h ⊢
      intro m2 H2 v2 e2 s2 r2
      cases h3 : uInt w with
      | none => simp only [h3] at h
      | some n =>
        cases h4 : uInt w' with
        | none => simp only [h3, h4] at h
        | some n' =>
          simp only [h3, h4] at h
          exact ⟨n, n', uInt_ok r1 h3, uInt_ok r2 h4, h m2 H2 (e1.trans e2) s2⟩
def rgOk (a b : Int) : Bool := decide (-(2 ^ 62) ≤ a ∧ a < 2 ^ 62 ∧ -(2 ^ 62) ≤ b ∧ b < 2 ^ 62 ∧ (b - a).toNat ≤ 2 ^ 24)
def rgU (a b : Int) : List U := (List.range (b - a).toNat).map fun i => .int (a + (i : Nat))
theorem rgU_rep {K : PySem.W.Frag} {A : List Addr} {H : Hp} {a : Int} : ∀ l : List Nat, URs K A H (l.map fun i => (.int (a + (i : Nat)) : U)) (l.map fun i => V.int (a + (i : Nat)))
  | [] => .nil
  | i :: l => .cons (.int _) (rgU_rep l)
theorem WRs.vals {K : PySem.W.Frag} {Pr m : List Addr} {H : Hp} : ∀ {us : List U} {vs : List V}, URs K (Pr ++ m) H us vs → WRs K Pr m H (us.map .val) vs
  | _, _, .nil => .nil
  | _, _, .cons h t => .cons (.val h) (WRs.vals t)
def mTupRg (f : MR) : M := fun env S => (f env S).bind fun p S1 => if rgOk p.1 p.2 = true then .ok (.val (.tuple (rgU p.1 p.2))) S1 else .bad
def mLstRg (f : MR) : MF := fun env S => (f env S).bind fun p S1 => if rgOk p.1 p.2 = true then .ok ((rgU p.1 p.2).map .val) S1 else .bad
section
variable {X : Cx} {E : XK} {e a : Expr} {f : MR} {fa : M} {p pos : Pos}
theorem pe_mTupRg (hg : Gl X "tuple") (hm : X.mg "tuple" = none) (hc : X.calm = true) (he : PRg X e (tRM X.K E f)) (na : starEach [e] X.env = (false, eval e X.env) :: starEach [] X.env) : PE X (.Call (.Name "tuple" p) [e] [] pos) (tM X.K E (mTupRg f)) := by
  refine PE.weak (pe_tupRg hc hg hm he na) ?_
  rintro σ H Q ⟨Pr, m, env, S, er, sr, h⟩
  refine ⟨Pr, m, env, S, er, sr, ?_⟩
  unfold mTupRg at h
  cases h1 : f env S with
  | bad => simp only [h1, Out.bind_bad] at h
  | ex x S1 => simp only [h1, Out.bind_ex] at h ⊢; exact h
  | ok q S1 =>
    simp only [h1, Out.bind_ok] at h ⊢
    intro m1 H1 e1 s1
    by_cases ho : rgOk q.1 q.2 = true
    · rw [if_pos ho] at h
      refine ⟨(show RgOk q.1 q.2 from by unfold rgOk at ho; exact of_decide_eq_true (p := -(2 ^ 62) ≤ q.1 ∧ q.1 < 2 ^ 62 ∧ -(2 ^ 62) ≤ q.2 ∧ q.2 < 2 ^ 62 ∧ (q.2 - q.1).toNat ≤ 2 ^ 24) ho), fun p hp => ?_⟩
      exact Ret.tup (h.ext e1) s1 (rgU_rep _) hp
    · rw [if_neg ho] at h; exact h.elim
theorem pf_lstRg (hg : Gl X "list") (hm : X.mg "list" = none) (hc : X.calm = true) (he : PRg X e (tRM X.K E f)) (na : starEach [e] X.env = (false, eval e X.env) :: starEach [] X.env) : PE X (.Call (.Name "list" p) [e] [] pos) (tF X.K E (mLstRg f)) := by
  refine PE.weak (pe_listRg hc hg hm he na) ?_
  rintro σ H Q ⟨Pr, m, env, S, er, sr, h⟩
  refine ⟨Pr, m, env, S, er, sr, ?_⟩
  unfold mLstRg at h
  cases h1 : f env S with
  | bad => simp only [h1, Out.bind_bad] at h
  | ex x S1 => simp only [h1, Out.bind_ex] at h ⊢; exact h
  | ok q S1 =>
    simp only [h1, Out.bind_ok] at h ⊢
    intro m1 H1 e1 s1
    by_cases ho : rgOk q.1 q.2 = true
    · rw [if_pos ho] at h
      refine ⟨(show RgOk q.1 q.2 from by unfold rgOk at ho; exact of_decide_eq_true (p := -(2 ^ 62) ≤ q.1 ∧ q.1 < 2 ^ 62 ∧ -(2 ^ 62) ≤ q.2 ∧ q.2 < 2 ^ 62 ∧ (q.2 - q.1).toNat ≤ 2 ^ 24) ho), fun p hp => ?_⟩
      have hn := e1.new0 s1 hp
      exact h m1 _ p _ (e1.trans (.push hp)) hn (fun z => s1.free hp (List.mem_append_left _ z)) (s1.fresh hp) upd_same (WRs.fresh hp (WRs.vals (rgU_rep _)))
    · rw [if_neg ho] at h; exact h.elim
/-- list(x) as a new list -/
def mLstOf (f : MA) : MF := fun env S => (f env S).bind fun ws S1 => match ws with
  | [w] => (match itemsW S1 w with
    | some q => .ok q.2 S1
    | none => .bad)
  | _ => .bad
theorem pf_lstOf (hg : Gl X "list") (hm : X.mg "list" = none) {es : List Expr} {g : MA} (ha : PA X (a :: es) (tMA X.K E g)) (he : starEach (a :: es) X.env = (false, eval a X.env) :: starEach es X.env) (hpl : (backTo pos (starEach es X.env)).any (·.1) = false) :
    PE X (.Call (.Name "list" p) (a :: es) [] pos) (tF X.K E (mLstOf g)) := by
  refine PE.weak (pe_callTy call_list_of hg hm boot_list ha (by decide) (by decide) he hpl) ?_
  rintro σ H Q ⟨Pr, m, env, S, er, sr, h⟩
  refine ⟨Pr, m, env, S, er, sr, ?_⟩
  unfold mLstOf at h
  cases h1 : g env S with
  | bad => simp only [h1, Out.bind_bad] at h
  | ex x S1 => simp only [h1, Out.bind_ex] at h ⊢; exact h
  | ok ws S1 =>
    simp only [h1, Out.bind_ok] at h ⊢
    intro m1 H1 vs e1 s1 r1
    cases ws with
    | nil => exact h.elim
    | cons w ws' =>
      cases ws' with
      | cons _ _ => exact h.elim
      | nil =>
        cases r1 with
        | cons r rr =>
          cases rr
          cases h2 : itemsW S1 w with
          | none => simp only [h2] at h
          | some q =>
            simp only [h2] at h
            obtain ⟨b, us⟩ := q
            obtain ⟨a, xs, rfl, h3, h4⟩ := itemsW_ok s1 r h2
            refine ⟨a, xs, rfl, ?_, fun p hp => ?_⟩
            · cases b with
              | true => exact .inl h3
              | false => exact .inr h3
            · have hn := e1.new0 s1 hp
              exact h m1 _ p _ (e1.trans (.push hp)) hn (fun z => s1.free hp (List.mem_append_left _ z)) (s1.fresh hp) upd_same (WRs.fresh hp h4)
end
end Rb

/-! Rb14: enumerate of a tuple. -/
namespace Rb
open PySem PySem.Spec PyProof.Rows L2

theorem meets_enum1 {v : Value} {o : Obj} {H : Heap → Prop} (B : Begins v o H) :
    Meets (Builtin.«enumerate.__new__» ⟨[.type "enumerate", v], []⟩) (fun _ R s => H s.heap ∧
      R (.ok (.ret (.ref (s.heap.push o).objs.size))) { s with heap := (s.heap.push o).push { cls := .type "enumerate", data := .fields #[.none, .bool false, .ref s.heap.objs.size, rawInt 0, .none, .none] } }) :=
  .of_wp fun prog w A R s h => by
    obtain ⟨hp, g, d, tk, os⟩ := s; obtain ⟨h1, h⟩ := h
    have hsub := sub_enumerate
    have q1 : ∀ {A' : Around} {E : Value → Shared → Prop} {Q : Value → Shared → Prop}, Q (.ref hp.objs.size) ⟨hp.push o, g, d, tk, os⟩ → wpAny (model prog w) A' (pyIter v) Q E ⟨hp, g, d, tk, os⟩ :=
      fun q => B.iter prog w _ _ ⟨hp, g, d, tk, os⟩ _ h1 q
    wp_walk using q1
    refine wpAny_stack_any fun st => wpAny_pure ?_
    split
    · rename_i c _ _ _ _ _
      cases (c == Value.type "enumerate")
      · wp_walk using q1
        exact ⟨_, rfl, h⟩
      · wp_walk using q1
        exact ⟨_, rfl, h⟩
    · wp_walk using q1
      exact ⟨_, rfl, h⟩
section
variable {prog : Program} {w : World} {A : Around} {E : Value → Shared → Prop} {s : Shared}
theorem enum1_begins {v : Value} {o : Obj} {H : Heap → Prop} {Q : Value → Shared → Prop} (B : Begins v o H) (h1 : H s.heap)
    (h : ∀ h', IsEnum h' (s.heap.objs.size + 1) s.heap.objs.size 0 .none → h'.get? s.heap.objs.size = some o → h'.objs.size = s.heap.objs.size + 2 →
      (∀ b o, s.heap.get? b = some o → h'.get? b = some o) → Q (.ref (s.heap.objs.size + 1)) { s with heap := h' }) :
    wpAny (model prog w) A (call (.type "enumerate") [v]) Q E s := by
  refine callType_new F.called_enumerate (by decide) (F.typeCall_enumerate_1 _) (F.newCall_enumerate_1 _) (fun obj => F.args_object_init_2 obj _) F.entry_enumerate_new
    (meets_enum1 B) ⟨h1, ?_⟩
  have hz : (s.heap.push o).objs.size = s.heap.objs.size + 1 := Heap.size_push ..
  show _ ∧ _
  rw [hz]
  have he : IsEnum ((s.heap.push o).push { cls := .type "enumerate", data := .fields #[.none, .bool false, .ref s.heap.objs.size, rawInt 0, .none, .none] }) (s.heap.objs.size + 1) s.heap.objs.size 0 .none := by
    have := Heap.get?_push_size (s.heap.push o) (o := { cls := .type "enumerate", data := .fields #[.none, .bool false, .ref s.heap.objs.size, rawInt 0, .none, .none] }) rfl
    rw [hz] at this; exact this
  refine ⟨⟨_, he, rfl⟩, h _ he (Heap.get?_push_of_some _ (Heap.get?_push_size _ B.free)) (by rw [Heap.size_push, hz]) fun b o x => Heap.get?_push_of_some _ (Heap.get?_push_of_some _ x)⟩
end

def IteT (K : PySem.W.Frag) (a : Addr) : It :=
  ⟨fun i H => ∃ (xs : List V) (x : V), SqT K H a xs ∧ xs[i]? = some x, fun i H v H' => ∃ T x, v = .ref T ∧ H T = none ∧ H' = upd H T (.tup [.int (i : Nat), x]) ∧ ∀ xs, SqT K H a xs → xs[i]? = some x, fun i H => ∃ xs : List V, SqT K H a xs ∧ xs.length = i⟩
theorem turn_enumT {P : Program} {w : World} {K : PySem.W.Frag} {elts : List Expr} {kk : Nat} {tpos : Pos} (a e it : Addr) (hae : a ≠ e) (hai : a ≠ it) :
    Turn P w K (.Tuple elts kk tpos) (IteT K a) [e, it] e (fun i h => (∃ old, IsEnum h e it ((i : Nat) : Int) old) ∧ h.IsTupleIter it a i ∧ e ≠ it) where
  mem := by simp
  obj := fun i h st b hb => by
    obtain ⟨⟨old, he⟩, ⟨o, ho, hc, hd⟩, _⟩ := st
    have e' : b = e ∨ b = it := by simpa using hb
    rcases e' with z | z
    · rw [z]; exact ⟨_, he, fun v q => nomatch q⟩
    · rw [z]; exact ⟨o, ho, fun v q => by rw [hd] at q; cases q⟩
  keep := fun i h h' st k => let ⟨⟨old, he⟩, hi, hne⟩ := st; ⟨⟨old, k e (by simp) _ he⟩, hi.at fun o q => k it (by simp) o q, hne⟩
  item := by
    intro X hP hw hK hc i pins s σ H E I hf st hg
    subst hP hw hK
    obtain ⟨⟨old, he⟩, hit, hne⟩ := st
    obtain ⟨xs, x, hq, hx⟩ := hg
    obtain ⟨its, rv, p, hz⟩ := I.tuple hq
    obtain ⟨u, hu, ru⟩ := rv.get hx
    have p : s.heap.IsTuple a its.toArray := p
    have hel : e < s.heap.objs.size := Heap.lt_size he
    have hil : it < s.heap.objs.size := by obtain ⟨_, q, _⟩ := hit; exact Heap.lt_size q
    have hlt : i < its.toArray.size := by
      have := (List.getElem?_eq_some_iff.mp hu).1
      simpa using this
    refine wpAny_pyNext_enum_itemD (Draws.tuple (show X.A.in1.handled = none from I.ok.hd hc) it a hai its.toArray) he ⟨hit, p⟩ hlt hne (by simp only [List.mem_cons, List.not_mem_nil, or_false, not_or]; exact ⟨hne, Ne.symm hae⟩) fun x' h' tk hx' ho st' hT hsz hk => ?_
    have ex : x' = u := by
      have hx' : its.toArray[i]? = some x' := hx'
      have : its[i]? = some x' := by simpa using hx'
      rw [hu] at this; exact (Option.some.inj this).symm
    subst ex
    obtain ⟨hit', pt'⟩ := st'
    refine ⟨_, rfl, wpAny_letOwnedTupleGo_enum (s := { s with heap := h', toks := tk + 1 }) ho fun h'' he' sb => ?_⟩
    have hT2 : h''.get? s.heap.objs.size = some { cls := .type "tuple", data := .seq #[.int i tk, x'] } := (sb.2 _ (Nat.ne_of_gt hel)).trans hT
    have new : ObjOk X.prog X.w (upd H s.heap.objs.size (.tup [.int (i : Nat), x])) h'' s.heap.objs.size (.tup [.int (i : Nat), x]) :=
      ⟨by show 2 ≤ sizeLine; decide, [.int i tk, x'], .cons ⟨_, rfl⟩ (.cons ru .nil), ⟨_, hT2, rfl, _, rfl⟩⟩
    have I1 : Inv X pins σ (upd H s.heap.objs.size (.tup [.int (i : Nat), x])) { s with heap := h'', toks := tk + 1 } :=
      I.turnedNew (ch := [e, it]) (fun b ob hb q => (sb.2 b (fun z => hb (by simp [z]))).trans (hk b ob (fun z => hb (by simp [z])) (fun z => hb (by simp [z])) q)) hf (Nat.le_refl _) new
    refine ⟨.ref s.heap.objs.size, _, I1, rfl, ⟨_, x, rfl, I.hok.fresh (Nat.le_refl _), rfl, fun ys hy => by rw [I.tuple_inj hy hq]; exact hx⟩, ⟨⟨x', ?_⟩, hit'.at fun o q => (sb.2 it (Ne.symm hne)).trans q, hne⟩, fun b hb => ?_⟩
    · have e1 : ((i + 1 : Nat) : Int) = (i : Int) + 1 := by omega
      rw [e1]; exact he'
    · have hb' : b < s.heap.objs.size := by
        have e' : b = e ∨ b = it := by simpa using hb
        rcases e' with z | z
        · rw [z]; exact hel
        · rw [z]; exact hil
      rw [upd_ne (Nat.ne_of_lt hb')]
      exact (hf b hb).1
  done := by
    intro X hP hw hK hc i pins s σ H E I hf st hg
    subst hP hw hK
    obtain ⟨⟨old, he⟩, hit, hne⟩ := st
    obtain ⟨xs, hq, hx⟩ := hg
    obtain ⟨its, rv, p, hz⟩ := I.tuple hq
    have p : s.heap.IsTuple a its.toArray := p
    obtain ⟨f0, f1, f2, f3, f4, f5⟩ := hf it (by simp)
    have hl : its.toArray.size = i := by rw [List.size_toArray, ← rv.length, hx]
    exact wpAny_pyNext_enum_endD (Draws.tuple (show X.A.in1.handled = none from I.ok.hd hc) it a hai its.toArray) he (by rw [hl]; exact ⟨hit, p⟩) fun h' eb => ⟨rfl, I.turned (t' := s.toks) (fun b o hb q => eb b o hb q) f0 f1 f3 f4 f5⟩
  self := fun A i s Q E st h => let ⟨⟨_, he⟩, _⟩ := st; wpAny_pyIter_enum he h
/-- enumerate of a list or of a tuple -/
def iEnumA (K : PySem.W.Frag) (ta : TA) : TI := fun σ H R => ta σ H fun vs H1 => ∃ a xs, vs = [.ref a] ∧ ((SqL K H1 a xs ∧ R (Ite K a) H1) ∨ (SqT K H1 a xs ∧ R (IteT K a) H1))
theorem pi_enumA {X : Cx} {e : Expr} {ta : TA} {p pos tpos : Pos} {elts : List Expr} {kk : Nat} (hg : Gl X "enumerate") (hm : X.mg "enumerate" = none) (ha : PA X [e] ta) (hs : starEach [e] X.env = [(false, eval e X.env)]) :
    PI X (.Tuple elts kk tpos) (.Call (.Name "enumerate" p) [e] [] pos) (iEnumA X.K ta) := by
  refine ⟨fun pins s σ H R I h => ?_⟩
  refine Call_ (ld_blt I hg hm boot_enumerate (PyProof.Rows.callWith_type1 (thn (ha.run pos pins s σ H _ I h) fun us s1 ⟨vs, H1, I1, r1, q1⟩ => ?_) hs rfl))
  obtain ⟨a, xs, ex, q⟩ := q1
  subst ex
  have fresh2 : ∀ b ∈ [s1.heap.objs.size + 1, s1.heap.objs.size], FpOk X pins H1 b := fun b hb => by
    have e' : b = s1.heap.objs.size + 1 ∨ b = s1.heap.objs.size := by simpa using hb
    have hle : s1.heap.objs.size ≤ b := by
      rcases e' with z | z
      · rw [z]; exact Nat.le_add_right _ _
      · rw [z]; exact Nat.le_refl _
    exact I1.fpOk hle (I1.hok.fresh hle)
  cases r1 with
  | cons r rr =>
    cases rr
    cases r
    rcases q with ⟨hq, q⟩ | ⟨hq, q⟩
    · obtain ⟨its, rv, p', hz⟩ := I1.list hq
      refine call_enumerate_list p'.isList fun h' he hit hsz hk => wpAny_pyIter_enum he ?_
      have I2 : Inv X pins σ H1 { s1 with heap := h' } := I1.kept (t' := s1.toks) hk
      exact ⟨s1.heap.objs.size + 1, [s1.heap.objs.size + 1, s1.heap.objs.size], _, _, H1, rfl, I2, turn_enum a (s1.heap.objs.size + 1) s1.heap.objs.size, ⟨⟨.none, he⟩, hit, Nat.succ_ne_self _⟩, fresh2, q⟩
    · obtain ⟨its, rv, p', hz⟩ := I1.tuple hq
      have p' : s1.heap.IsTuple a its.toArray := p'
      have hlt : a < s1.heap.objs.size := by obtain ⟨o, ho, _⟩ := id p'; exact Heap.lt_size ho
      refine enum1_begins (begins_tuple a its.toArray) p' fun h' he hit hsz hk => wpAny_pyIter_enum he ?_
      have I2 : Inv X pins σ H1 { s1 with heap := h' } := I1.kept (t' := s1.toks) hk
      exact ⟨s1.heap.objs.size + 1, [s1.heap.objs.size + 1, s1.heap.objs.size], _, _, H1, rfl, I2, turn_enumT a (s1.heap.objs.size + 1) s1.heap.objs.size (Nat.ne_of_lt (Nat.lt_succ_of_lt hlt)) (Nat.ne_of_lt hlt), ⟨⟨.none, he⟩, ⟨_, hit, rfl, rfl⟩, Nat.succ_ne_self _⟩, fresh2, q⟩
/-! ### the reading -/
def enW : Nat → List U → List W
  | _, [] => []
  | k, u :: us => .val (.tuple [.int (k : Nat), u]) :: enW (k + 1) us
theorem enW_get : ∀ {us : List U} {k i : Nat}, (enW k us)[i]? = (us[i]?).map fun u => .val (.tuple [.int ((k + i : Nat)), u])
  | [], _, i => by unfold enW; simp
  | u :: us, k, 0 => rfl
  | u :: us, k, i + 1 => by
    show (enW (k + 1) us)[i]? = _
    rw [enW_get]
    show _ = (us[i]?).map _
    rw [show k + 1 + i = k + (i + 1) by omega]
theorem enW_len : ∀ {us : List U} {k : Nat}, (enW k us).length = us.length
  | [], _ => rfl
  | u :: us, k => congrArg (· + 1) enW_len
def itEn (g : MA) : MI := fun env S => (g env S).bind fun ws S1 => match ws with
  | [.val u] => (match seqU S1 (.val u) with
    | some p => .ok (.fix (enW 0 p.2)) S1
    | none => .bad)
  | _ => .bad
theorem nextW_fixS {ws : List W} {i : Nat} {S : Store} (h : nextW (.fix ws) i S = some none) : i = ws.length := by
  have h : (if i ≤ ws.length then some ws[i]? else none) = some none := h
  by_cases hi : i ≤ ws.length
  · rw [if_pos hi] at h
    have := List.getElem?_eq_none_iff.mp (Option.some.inj h)
    omega
  · rw [if_neg hi] at h; cases h
theorem en_new {K : PySem.W.Frag} {Pr m : List Addr} {H : Hp} {S : Store} (s : SR K Pr m H S) {us : List U} {xs : List V} (r : URs K (Pr ++ m) H us xs) {i : Nat} {w : W} (hw : (enW 0 us)[i]? = some w) {T : Addr} {x : V} (hT : H T = none) (hx : xs[i]? = some x) :
    Ext m m H (upd H T (.tup [.int (i : Nat), x])) ∧ SR K Pr m (upd H T (.tup [.int (i : Nat), x])) S ∧ WR K Pr m (upd H T (.tup [.int (i : Nat), x])) w (.ref T) := by
  have e : Ext m m H (upd H T (.tup [.int (i : Nat), x])) := .push hT
  refine ⟨e, s.push hT, ?_⟩
  rw [enW_get] at hw
  obtain ⟨u, h1, rfl⟩ := Option.map_eq_some_iff.mp hw
  obtain ⟨x', h2, h3⟩ := r.get h1
  rw [hx] at h2; cases h2
  refine .val (.tup (SqT.of upd_same) (.cons ?_ (.cons (h3.ext' e) .nil)))
  simpa using UR.int (i : Int)
theorem step_enL {K : PySem.W.Frag} {Pr m : List Addr} {H : Hp} {us : List U} {a : Addr} {xs : List V} (ha : a ∉ m) (h : H a = some (.lst xs)) (r : URs K (Pr ++ m) H us xs) : StepOk K Pr m H (.fix (enW 0 us)) (Ite K a) := by
  intro i Pr' m' H' S' l s
  have h' : SqL K H' a xs := SqL.of (l.ext.keep a _ ha h)
  have r' := r.later l
  refine ⟨fun e => ⟨xs, h', ?_⟩, fun w e => ?_⟩
  · have := nextW_fixS e
    rw [enW_len, r.length] at this
    omega
  · have e := nextW_fix e
    have hl := (List.getElem?_eq_some_iff.mp e).1
    rw [enW_len, r.length] at hl
    refine ⟨⟨xs, xs[i], h', by simp [hl]⟩, fun x H'' y => ?_⟩
    obtain ⟨T, x', rfl, hT, rfl, hx⟩ := y
    exact en_new s r' e hT (hx xs h')
theorem step_enT {K : PySem.W.Frag} {Pr m : List Addr} {H : Hp} {us : List U} {a : Addr} {xs : List V} (h : SqT K H a xs) (r : URs K (Pr ++ m) H us xs) : StepOk K Pr m H (.fix (enW 0 us)) (IteT K a) := by
  intro i Pr' m' H' S' l s
  have h' : SqT K H' a xs := Rb.SqT.ext l.ext h
  have r' := r.later l
  refine ⟨fun e => ⟨xs, h', ?_⟩, fun w e => ?_⟩
  · have := nextW_fixS e
    rw [enW_len, r.length] at this
    omega
  · have e := nextW_fix e
    have hl := (List.getElem?_eq_some_iff.mp e).1
    rw [enW_len, r.length] at hl
    refine ⟨⟨xs, xs[i], h', by simp [hl]⟩, fun x H'' y => ?_⟩
    obtain ⟨T, x', rfl, hT, rfl, hx⟩ := y
    exact en_new s r' e hT (hx xs h')
theorem pi_mEn {X : Cx} {E : XK} {e : Expr} {g : MA} {p pos tpos : Pos} {elts : List Expr} {kk : Nat} (hg : Gl X "enumerate") (hm : X.mg "enumerate" = none) (ha : PA X [e] (tMA X.K E g)) (hs : starEach [e] X.env = [(false, eval e X.env)]) :
    PI X (.Tuple elts kk tpos) (.Call (.Name "enumerate" p) [e] [] pos) (tI X.K E (itEn g)) := by
  refine PI.weak (pi_enumA hg hm ha hs) ?_
  rintro σ H R ⟨Pr, m, env, S, er, sr, h⟩
  refine ⟨Pr, m, env, S, er, sr, ?_⟩
  unfold itEn at h
  cases h1 : g env S with
  | bad => simp only [h1, Out.bind_bad] at h
  | ex x S1 => simp only [h1, Out.bind_ex] at h ⊢; exact h
  | ok ws S1 =>
    simp only [h1, Out.bind_ok] at h ⊢
    intro m1 H1 vs e1 s1 r1
    cases ws with
    | nil => exact h.elim
    | cons w ws' =>
      cases w with
      | loc n => exact h.elim
      | val u =>
        cases ws' with
        | cons _ _ => exact h.elim
        | nil =>
          cases r1 with
          | cons r rr =>
            cases rr
            cases r with
            | val r =>
              cases r with
              | @tup a us xs hh hr =>
                have h : ∀ m' H' J, Ext m m' H H' → SR X.K Pr m' H' S1 → StepOk X.K Pr m' H' (.fix (enW 0 us)) J → R J H' := h
                exact ⟨a, xs, rfl, .inr ⟨hh, h m1 H1 _ e1 s1 (step_enT hh hr)⟩⟩
              | @lst a us xs hn hh hr =>
                have h : ∀ m' H' J, Ext m m' H H' → SR X.K Pr m' H' S1 → StepOk X.K Pr m' H' (.fix (enW 0 us)) J → R J H' := h
                exact ⟨a, xs, rfl, .inl ⟨SqL.of hh, h m1 H1 _ e1 s1 (step_enL (fun z => hn (List.mem_append_right _ z)) hh hr)⟩⟩
              | _ => exact h.elim
end Rb

/-! Rb15: len of a dict comprehension whose values are a constant. -/
namespace Rb
open PySem PySem.Spec PyProof.Rows L2

mutual
/-- what is being made is changed -/
theorem UR.privK {K : PySem.W.Frag} {A : List Addr} {H : Hp} {D : Addr} {o : HO} {kvs : List (Key × V)} (hD : H D = some (.dK kvs)) (hA : D ∈ A) : ∀ {u : U} {v : V}, UR K A H u v → UR K A (upd H D o) u v
  | _, _, .non => .non
  | _, _, .bl b => .bl b
  | _, _, .int i => .int i
  | _, _, .str x => .str x
  | _, _, .tup h q => .tup (by
      rcases h with (h | ⟨o', h⟩) | h
      · exact .inl (.inl (by rw [upd_ne (ne_of h hD (by intro z; cases z))]; exact h))
      · exact .inl (.inr ⟨o', by rw [upd_ne (ne_of h hD (by intro z; cases z))]; exact h⟩)
      · exact .inr h) (URs.privK hD hA q)
  | _, _, .lst n h q => .lst n (by rw [upd_ne (fun z => n (by rw [z]; exact hA))]; exact h) (URs.privK hD hA q)
theorem URs.privK {K : PySem.W.Frag} {A : List Addr} {H : Hp} {D : Addr} {o : HO} {kvs : List (Key × V)} (hD : H D = some (.dK kvs)) (hA : D ∈ A) : ∀ {us : List U} {vs : List V}, URs K A H us vs → URs K A (upd H D o) us vs
  | _, _, .nil => .nil
  | _, _, .cons h t => .cons (UR.privK hD hA h) (URs.privK hD hA t)
end
theorem WR.privK {K : PySem.W.Frag} {Pr m : List Addr} {H : Hp} {D : Addr} {o : HO} {kvs : List (Key × V)} (hD : H D = some (.dK kvs)) (hA : D ∈ Pr) {w : W} {v : V} (h : WR K Pr m H w v) : WR K Pr m (upd H D o) w v := by
  cases h with
  | val h => exact .val (h.privK hD (List.mem_append_left _ hA))
  | loc h => exact .loc h
theorem WRs.privK {K : PySem.W.Frag} {Pr m : List Addr} {H : Hp} {D : Addr} {o : HO} {kvs : List (Key × V)} (hD : H D = some (.dK kvs)) (hA : D ∈ Pr) : ∀ {ws : List W} {vs : List V}, WRs K Pr m H ws vs → WRs K Pr m (upd H D o) ws vs
  | _, _, .nil => .nil
  | _, _, .cons h t => .cons (h.privK hD hA) (WRs.privK hD hA t)
theorem SR.privK {K : PySem.W.Frag} {Pr m : List Addr} {H : Hp} {S : Store} {D : Addr} {o : HO} {kvs : List (Key × V)} (hD : H D = some (.dK kvs)) (hA : D ∈ Pr) (s : SR K Pr m H S) : SR K Pr m (upd H D o) S where
  len := s.len
  nd := s.nd
  pr := fun a h => ⟨(s.pr a h).1, by
    by_cases e : a = D
    · subst e; rw [upd_same]; intro z; cases z
    · rw [upd_ne e]; exact (s.pr a h).2⟩
  obj := fun n ob a h1 h2 => by
    have hne : a ≠ D := fun z => (s.pr D hA).1 (by rw [← z]; exact List.mem_of_getElem? h2)
    cases s.obj n ob a h1 h2 with
    | scr e => exact .scr (by rw [upd_ne hne]; exact e)
    | lst e q => exact .lst (by rw [upd_ne hne]; exact e) (q.privK hD (List.mem_append_left _ hA))
    | lol e q => exact .lol (by rw [upd_ne hne]; exact e) q
  old := s.old

def keyW : W → Option Key
  | .val (.int i) => some (.inl i)
  | .val (.str x) => some (.inr x)
  | _ => none
def keysW : List W → Option (List Key)
  | [] => some []
  | w :: ws => (keyW w).bind fun k => (keysW ws).map fun ks => k :: ks
def addK (ks : List Key) (k : Key) : List Key := if (ks.any fun k' => decide (k' = k)) = true then ks else ks ++ [k]
theorem keyW_ok {K : PySem.W.Frag} {Pr m : List Addr} {H : Hp} {w : W} {v : V} (r : WR K Pr m H w v) {k : Key} (h : keyW w = some k) : v = kV k := by
  cases r with
  | loc r => cases h
  | val r =>
    cases r with
    | int i => cases h; rfl
    | str i => cases h; rfl
    | _ => cases h
theorem keysW_mid : ∀ {acc : List W} {u : W} {us : List W} {ks : List Key}, keysW (acc ++ u :: us) = some ks → ∃ k, keyW u = some k
  | [], u, us, ks, h => by
    obtain ⟨k, h1, _⟩ := Option.bind_eq_some_iff.mp h
    exact ⟨k, h1⟩
  | a :: acc, u, us, ks, h => by
    obtain ⟨k, _, h1⟩ := Option.bind_eq_some_iff.mp h
    obtain ⟨ks', h2, _⟩ := Option.map_eq_some_iff.mp h1
    exact keysW_mid h2
theorem keysW_snoc : ∀ {acc : List W} {u : W} {ks : List Key} {k : Key}, keysW acc = some ks → keyW u = some k → keysW (acc ++ [u]) = some (ks ++ [k])
  | [], u, ks, k, h, h2 => by
    cases h
    show (keyW u).bind _ = _
    rw [h2]; rfl
  | a :: acc, u, ks, k, h, h2 => by
    obtain ⟨k', h3, h1⟩ := Option.bind_eq_some_iff.mp h
    obtain ⟨ks', h4, rfl⟩ := Option.map_eq_some_iff.mp h1
    show (keyW a).bind _ = _
    rw [h3]
    show (keysW (acc ++ [u])).map _ = _
    rw [keysW_snoc h4 h2]; rfl
theorem putK_keys (kvs : List (Key × V)) (k : Key) (v : V) : (putK kvs k v).map (·.1) = addK (kvs.map (·.1)) k := by
  unfold putK addK
  rw [List.any_map]
  by_cases h : (kvs.any fun kv => decide (kv.1 = k)) = true
  · rw [if_pos h, if_pos (show (kvs.any ((fun k' => decide (k' = k)) ∘ fun x => x.1)) = true from h), List.map_map]
    refine List.map_congr_left fun p hp => ?_
    simp only [Function.comp]
    split
    · rfl
    · rfl
  · rw [if_neg h, if_neg (show ¬ (kvs.any ((fun k' => decide (k' = k)) ∘ fun x => x.1)) = true from h), List.map_append]; rfl
def mDcLen (own : List Nat) (it : MI) (tg : Tg) (c : Option M) (elt : M) : M := fun env S => (it env S).bind fun itr S1 => (noEx (compI tg c elt (wipeE env own) itr S1)).bind fun ws S2 => match keysW ws with
  | some ks => if ws.length ≤ 16777216 then .ok (.val (.int (ks.foldl addK []).length)) S2 else .bad
  | none => .bad
theorem dclen_read {K : PySem.W.Frag} {E : XK} {own : List Nat} {it : MI} {tg : Tg} {c : Option M} {elt : M} {u0 : U} (hown : ∀ i ∈ slotsT tg, i ∈ own) {σ : L2.St} {H : Hp} {Q : VK} (h : tM K E (mDcLen own it tg c elt) σ H Q) :
    tCB (fun xs H Q => ∃ a kvs, xs = [V.ref a] ∧ H a = some (.dK kvs) ∧ Q (.int kvs.length) H) (tCons (tDc (tI K E it) (gM K tg) (tOpt K c) (tM K E0' elt) (tM K E0' (mLit u0)) own) tNil) σ H Q := by
  obtain ⟨Pr, m, env, S, er, sr, h⟩ := h
  refine ⟨Pr, m, env, S, er, sr, ?_⟩
  unfold mDcLen at h
  cases h1 : it env S with
  | bad => simp only [h1, Out.bind_bad] at h
  | ex x S1 => simp only [h1, Out.bind_ex] at h ⊢; exact h
  | ok itr S1 =>
    simp only [h1, Out.bind_ok] at h ⊢
    intro m1 H1 J e1 s1 step D hD
    cases h2 : compI tg c elt (wipeE env own) itr S1 with
    | bad => simp only [h2, noEx_bad, Out.bind_bad] at h
    | ex x S2 => simp only [h2, noEx_ex, Out.bind_bad] at h
    | ok wsAll S2 =>
     cases hks : keysW wsAll with
     | none => simp only [h2, noEx_ok, Out.bind_ok, hks] at h
     | some ks =>
      by_cases hz : wsAll.length ≤ 16777216
      · simp only [h2, noEx_ok, Out.bind_ok, hks, if_pos hz] at h
        obtain ⟨N, R, rm, hR0⟩ : ∃ N R, Rem tg c elt (wipeE env own) itr N R ∧ R 0 S1 = .ok wsAll S2 := by
          cases itr with
          | fix ws => exact ⟨_, _, rem_fix tg c elt _ ws, by simp only [Nat.zero_le, if_true, List.drop_zero]; exact h2⟩
          | live n => exact ⟨_, _, rem_live tg c elt _ n, h2⟩
        have hDn : H D = none := e1.new0 s1 hD
        have hDp : D ∉ Pr := fun z => s1.free hD (List.mem_append_left _ z)
        let Pv : Nat → Hp → Prop := fun i H' => ∃ m' S' acc kvs kA us, Ext m1 m' H1 H' ∧ SR K (D :: Pr) m' H' S' ∧ H' D = some (.dK kvs) ∧ keysW acc = some kA ∧ kvs.map (·.1) = kA.foldl addK [] ∧ kvs.length ≤ acc.length ∧ R i S' = .ok us S2 ∧ acc ++ us = wsAll
        have hN : ∀ {i H'}, Pv i H' → i ≤ N := by
          rintro i H' ⟨m', S', acc, kvs, kA, us, _, _, _, _, _, _, hr, _⟩
          by_cases q : i ≤ N
          · exact q
          · rw [rm.top i S' (by omega)] at hr; cases hr
        refine ⟨fun i k H' => k = N + 1 - i ∧ Pv i H', ⟨N + 1, by simp, m1, S1, [], [], [], wsAll, .push hD, s1.fresh hD, upd_same, rfl, rfl, Nat.le_refl _, hR0, rfl⟩, ?_⟩
        rintro i k H' ⟨rfl, pv⟩
        have hi := hN pv
        obtain ⟨m', S', acc, kvs, kA, us, e', s', hDl, hkA, hkv, hkl, hr, hall⟩ := pv
        have lt : Lt Pr m1 H1 (D :: Pr) m' H' := ⟨e', fun d hd => by
          rcases List.mem_cons.mp hd with z | z
          · subst z; exact .inr hD
          · exact .inl z⟩
        obtain ⟨st1, st2⟩ := step i (D :: Pr) m' H' S' lt s'
        have hu := rm.unf i S'
        rw [hr] at hu
        rcases hu with hu | hu
        · cases hu
        · cases h3 : nextW itr i S' with
          | none => rw [h3] at hu; cases hu
          | some o =>
            cases o with
            | none =>
              rw [h3] at hu
              cases hu
              refine .inl ⟨st1 h3, ?_⟩
              rw [List.append_nil] at hall
              subst hall
              rw [hks] at hkA
              cases hkA
              refine ⟨D, kvs, rfl, hDl, ?_⟩
              rw [show kvs.length = (ks.foldl addK []).length by rw [← hkv, List.length_map]]
              exact Ret.here (Ret.ext h (e1.trans e')) s'.unpr (.val (.int _))
            | some w =>
              rw [h3] at hu
              simp only at hu
              obtain ⟨go, yl⟩ := st2 w h3
              refine .inr ⟨go, Pv (i + 1), fun H'' p => ⟨N - i, by omega, by omega, p⟩, fun x H2 y => ?_⟩
              obtain ⟨e2, s2, rw2⟩ := yl x H2 y
              unfold compStep at hu
              have erw : ER K (D :: Pr) m' H2 (wipeE env own) (L2.wipe σ own) := ((er.ext e1).wipe own).later ⟨e'.trans e2, lt.pr⟩
              refine ⟨D :: Pr, m', wipeE env own, S', w, erw, s2, rw2, ?_⟩
              cases h4 : asg tg w (wipeE env own) with
              | none => rw [h4] at hu; cases hu
              | some env1 =>
                rw [h4] at hu
                simp only at hu ⊢
                intro σ2 er2 hw
                have hw1 : L2.wipe σ2 own = L2.wipe σ own := by
                  rw [hw own hown]
                  have : ∀ (vs : List Nat) (τ : L2.St), L2.wipe (L2.wipe τ vs) vs = L2.wipe τ vs := by
                    intro vs
                    have key : ∀ (vs ws : List Nat) (τ : L2.St), (∀ v ∈ vs, v ∈ ws) → L2.wipe (L2.wipe τ vs) ws = L2.wipe τ ws := by
                      intro vs
                      induction vs with
                      | nil => intro ws τ _; rfl
                      | cons v vs ih =>
                        intro ws τ hv
                        show L2.wipe ((L2.wipe τ vs).set v none) ws = _
                        rw [wipe_set (hv v List.mem_cons_self)]
                        exact ih ws τ fun u hu => hv u (List.mem_cons_of_mem _ hu)
                    exact fun τ => key vs vs τ fun v h => h
                  exact this own σ
                refine ⟨by rw [hw1], ?_⟩
                cases h5 : tstO c env1 S' with
                | bad => rw [h5] at hu; cases hu
                | ex x S3 => rw [h5] at hu; cases hu
                | ok b S3 =>
                  rw [h5] at hu
                  simp only [noEx_ok, Out.bind_ok] at hu
                  refine tOpt_read er2 s2 h5 fun m3 H3 e3 s3 => ?_
                  have e03 : Ext m1 m3 H1 H3 := (e'.trans e2).trans e3
                  have hD3 : H3 D = some (.dK kvs) := e3.keep D _ (s2.pr D List.mem_cons_self).1 (e2.keep D _ (s'.pr D List.mem_cons_self).1 hDl)
                  cases b with
                  | false =>
                    simp only [Bool.false_eq_true, reduceIte] at hu ⊢
                    exact ⟨m3, S3, acc, kvs, kA, us, e03, s3, hD3, hkA, hkv, hkl, hu.symm, hall⟩
                  | true =>
                    simp only [reduceIte] at hu ⊢
                    refine ⟨D :: Pr, m3, env1, S3, er2.ext e3, s3, ?_⟩
                    cases h6 : elt env1 S3 with
                    | bad => rw [h6] at hu; cases hu
                    | ex x S4 => rw [h6] at hu; cases hu
                    | ok u S4 =>
                      rw [h6] at hu
                      simp only [noEx_ok, Out.bind_ok] at hu ⊢
                      intro m4 H4 v4 e4 s4 r4
                      cases h7 : R (i + 1) S4 with
                      | bad => rw [h7] at hu; cases hu
                      | ex x S5 => rw [h7] at hu; cases hu
                      | ok us' S5 =>
                        rw [h7] at hu
                        simp only [Out.bind_ok] at hu
                        cases hu
                        have hD4 : H4 D = some (.dK kvs) := e4.keep D _ (s3.pr D List.mem_cons_self).1 hD3
                        obtain ⟨k, hk⟩ : ∃ k, keyW u = some k := by
                          rw [← hall] at hks
                          exact keysW_mid hks
                        have hv4 : v4 = kV k := keyW_ok r4 hk
                        refine ⟨D :: Pr, m4, env1, S4, er2.ext (e3.trans e4), s4, ?_⟩
                        refine fun m5 H5 v5 e5 s5 r5 => ?_
                        have hD5 : H5 D = some (.dK kvs) := e5.keep D _ (s4.pr D List.mem_cons_self).1 hD4
                        refine ⟨kvs, k, hv4, hD5, ?_, m5, S4, acc ++ [u], putK kvs k v5, kA ++ [k], us', ((e03.trans e4).trans e5).priv hD, s5.privK hD5 List.mem_cons_self, upd_same, keysW_snoc hkA hk, ?_, ?_, h7, by rw [List.append_assoc]; exact hall⟩
                        · rw [line_eq]
                          rw [← hall, List.length_append, List.length_cons] at hz
                          omega
                        · rw [putK_keys, hkv, List.foldl_append]; rfl
                        · rw [List.length_append, List.length_cons, List.length_nil]
                          have := length_putK kvs k v5
                          omega
      · simp only [h2, noEx_ok, Out.bind_ok, hks, if_neg hz] at h
end Rb

/-! Rb16: from the text to the readings: calls, new lists, the whole of the expressions. -/
namespace Rb
open PySem PySem.Spec PyProof.Rows L2

/-! ### built-ins by name -/
def cB (n : Str) (k : Nat) : Option GL :=
  if n = "len" then some (on1 bLen) else if n = "tuple" then some (on1 bTup) else if n = "list" then some (on1 bLst) else if n = "all" then some (on1 bAll) else if n = "any" then some (on1 bAny)
  else if n = "sum" then some (on1 bSum) else if n = "sorted" then some (on1 bSortI) else if n = "abs" then some (on1 bAbs) else if n = "int" then some (on1 bInt)
  else if n = "min" then (if k = 2 then some (on2 bMin2) else none) else if n = "max" then (if k = 2 then some (on2 bMax2) else none) else none
structure BiOk (X : Cx) (n : Str) (g : GL) : Prop where
  mem : n ∈ biNames
  nm : n ≠ "__name__"
  db : (n == ("__debug__" : Str)) = false
  call : (∃ id, bootBuiltins n = some (.builtin id) ∧ CallR X (.builtin id) (rGL X.K g)) ∨ (∃ T, bootBuiltins n = some (.type T) ∧ CallR X (.type T) (rGL X.K g))
theorem cB_ok {X : Cx} (hc : X.calm = true) {n : Str} {k : Nat} {g : GL} (h : cB n k = some g) : BiOk X n g := by
  unfold cB at h
  by_cases e : n = "len"
  · rw [if_pos e] at h; subst e; cases h; exact ⟨by simp [biNames], by decide, by decide, .inl ⟨_, by decide +kernel, cb_len⟩⟩
  rw [if_neg e] at h; clear e
  by_cases e : n = "tuple"
  · rw [if_pos e] at h; subst e; cases h; exact ⟨by simp [biNames], by decide, by decide, .inr ⟨_, by decide +kernel, cb_tup⟩⟩
  rw [if_neg e] at h; clear e
  by_cases e : n = "list"
  · rw [if_pos e] at h; subst e; cases h; exact ⟨by simp [biNames], by decide, by decide, .inr ⟨_, by decide +kernel, cb_lst⟩⟩
  rw [if_neg e] at h; clear e
  by_cases e : n = "all"
  · rw [if_pos e] at h; subst e; cases h; exact ⟨by simp [biNames], by decide, by decide, .inl ⟨_, by decide +kernel, cb_all hc⟩⟩
  rw [if_neg e] at h; clear e
  by_cases e : n = "any"
  · rw [if_pos e] at h; subst e; cases h; exact ⟨by simp [biNames], by decide, by decide, .inl ⟨_, by decide +kernel, cb_any hc⟩⟩
  rw [if_neg e] at h; clear e
  by_cases e : n = "sum"
  · rw [if_pos e] at h; subst e; cases h; exact ⟨by simp [biNames], by decide, by decide, .inl ⟨_, by decide +kernel, cb_sum hc⟩⟩
  rw [if_neg e] at h; clear e
  by_cases e : n = "sorted"
  · rw [if_pos e] at h; subst e; cases h; exact ⟨by simp [biNames], by decide, by decide, .inl ⟨_, by decide +kernel, cb_sortI⟩⟩
  rw [if_neg e] at h; clear e
  by_cases e : n = "abs"
  · rw [if_pos e] at h; subst e; cases h; exact ⟨by simp [biNames], by decide, by decide, .inl ⟨_, by decide +kernel, cb_abs⟩⟩
  rw [if_neg e] at h; clear e
  by_cases e : n = "int"
  · rw [if_pos e] at h; subst e; cases h; exact ⟨by simp [biNames], by decide, by decide, .inr ⟨_, by decide +kernel, cb_int⟩⟩
  rw [if_neg e] at h; clear e
  by_cases e : n = "min"
  · rw [if_pos e] at h
    by_cases q : k = 2
    · rw [if_pos q] at h; subst e; cases h; exact ⟨by simp [biNames], by decide, by decide, .inl ⟨_, by decide +kernel, cb_min2 hc⟩⟩
    · rw [if_neg q] at h; cases h
  rw [if_neg e] at h; clear e
  by_cases e : n = "max"
  · rw [if_pos e] at h
    by_cases q : k = 2
    · rw [if_pos q] at h; subst e; cases h; exact ⟨by simp [biNames], by decide, by decide, .inl ⟨_, by decide +kernel, cb_max2 hc⟩⟩
    · rw [if_neg q] at h; cases h
  rw [if_neg e] at h; cases h

/-! ### range as an argument -/
def cRg (G : Gam) (r : Rec) (x : Sx) : Expr → Option MR
  | .Call (.Name n _) [a] [] _ => if n = "range" ∧ isGl x.sc n = true ∧ isStar a = false then (r.e x a).map mRg1 else none
  | .Call (.Name n _) [a, b] [] _ => if n = "range" ∧ isGl x.sc n = true ∧ isStar a = false ∧ isStar b = false then (r.e x a).bind fun f => (r.e x b).map fun f' => mRg2 f f' else none
  | _ => none
section
variable {G : Gam} {X : Cx} {E : XK} {x : Sx} {k : Nat} {pos : Pos} {r : Rec}
theorem cRg_ok (ok : RecOk G k r) (g : Gd G X E x k) {e : Expr} {m : MR} (h : cRg G r x e = some m) : PRg X e (tRM X.K E m) ∧ isStar e = false := by
  unfold cRg at h
  split at h
  · rename_i n p a pos
    by_cases hn : n = "range" ∧ isGl x.sc n = true ∧ isStar a = false
    · rw [if_pos hn] at h
      obtain ⟨rfl, h1, h2⟩ := hn
      obtain ⟨f, h3, rfl⟩ := Option.map_eq_some_iff.mp h
      exact ⟨PRg.weak (prg_1 (isGl_ok g.sc h1) (g.bis "range" (by simp [biNames])) (ok.e _ _ _ _ _ g h3).pe (star_cons h2)) fun _ _ _ q => rg1_read q, rfl⟩
    · rw [if_neg hn] at h; cases h
  · rename_i n p a b pos
    by_cases hn : n = "range" ∧ isGl x.sc n = true ∧ isStar a = false ∧ isStar b = false
    · rw [if_pos hn] at h
      obtain ⟨rfl, h1, h2, h2'⟩ := hn
      obtain ⟨f, h3, h⟩ := Option.bind_eq_some_iff.mp h
      obtain ⟨f', h4, rfl⟩ := Option.map_eq_some_iff.mp h
      refine ⟨PRg.weak (prg_2 (isGl_ok g.sc h1) (g.bis "range" (by simp [biNames])) (ok.e _ _ _ _ _ g h3).pe (ok.e _ _ _ _ _ g h4).pe (star_cons h2) (star_cons h2') ?_) fun _ _ _ q => rg2_read q, rfl⟩
      rw [star_cons h2']; rfl
    · rw [if_neg hn] at h; cases h
  · cases h
end

/-! ### new lists -/
def mLstD (g : MA) : MF := fun env S => (g env S).bind fun ws S1 => if ws.length ≤ 16777216 then .ok ws S1 else .bad
def cF (G : Gam) (r : Rec) (x : Sx) : Expr → Option MF
  | .List es _ => (cArgs r x es).map mLstD
  | .ListComp elt gens s _ => cComp G r r.e x elt s gens
  | .Call (.Name n _) [a] [] _ => if n = "list" ∧ isGl x.sc n = true then (match cRg G r x a with
      | some m => some (mLstRg m)
      | none => (cArgs r x [a]).map mLstOf) else none
  | _ => none
theorem cArgs_one {r : Rec} {x : Sx} {a : Expr} {m : MA} (h : cArgs r x [a] = some m) : isStar a = false := by
  unfold cArgs at h
  by_cases hs : isStar a = true
  · rw [if_pos hs] at h; cases h
  · simpa using hs
theorem cArgs_two {r : Rec} {x : Sx} {a : Expr} {es : List Expr} {m : MA} (h : cArgs r x (a :: es) = some m) : isStar a = false ∧ ∃ m', cArgs r x es = some m' := by
  unfold cArgs at h
  by_cases hs : isStar a = true
  · rw [if_pos hs] at h; cases h
  · rw [if_neg hs] at h
    obtain ⟨f1, _, h2⟩ := Option.bind_eq_some_iff.mp h
    obtain ⟨g1, h3, _⟩ := Option.map_eq_some_iff.mp h2
    exact ⟨by simpa using hs, g1, h3⟩
section
variable {G : Gam} {X : Cx} {E : XK} {x : Sx} {k : Nat} {pos : Pos} {r : Rec}
theorem cF_ok (ok : RecOk G k r) (g : Gd G X E x k) {e : Expr} {m : MF} (h : cF G r x e = some m) : PE X e (tF X.K E m) := by
  unfold cF at h
  split at h
  · obtain ⟨f, h1, rfl⟩ := Option.map_eq_some_iff.mp h
    exact pf_lst (cArgs_ok ok g h1)
  · exact (cComp_ok ok g (fun X x e m g h => (ok.e X E0' x e m g h).pe) h).1
  · rename_i n p a pos
    by_cases hn : n = "list" ∧ isGl x.sc n = true
    · rw [if_pos hn] at h
      obtain ⟨rfl, h1⟩ := hn
      split at h
      · rename_i mr h2
        cases h
        obtain ⟨h3, h4⟩ := cRg_ok ok g h2
        exact pf_lstRg (isGl_ok g.sc h1) (g.bis "list" (by simp [biNames])) g.calm h3 (star_cons h4)
      · obtain ⟨f, h3, rfl⟩ := Option.map_eq_some_iff.mp h
        exact pf_lstOf (isGl_ok g.sc h1) (g.bis "list" (by simp [biNames])) (cArgs_ok ok g h3) (star_cons (cArgs_one h3)) rfl
    · rw [if_neg hn] at h; cases h
  · cases h
end

/-! ### calls -/
def isRecv : Expr → Bool
  | .Name .. => true
  | .Attribute .. => true
  | .Subscript .. => true
  | _ => false
def cMeth (n : Str) (k : Nat) : Option GM := if n = "append" ∧ k = 1 then some gApp else if n = "pop" ∧ k = 1 then some gPopAt else if n = "extend" ∧ k = 1 then some gExt else none
def tyN (s : Str) : Option String := if s = "int" then some "int" else if s = "bool" then some "bool" else if s = "str" then some "str" else if s = "tuple" then some "tuple" else if s = "list" then some "list" else none
/-- len({k: const for ..}) -/
def cDcLen (G : Gam) (r : Rec) (x : Sx) : Expr → Option M
  | .DictComp kx (.Constant (.bool _) _ _) [⟨tg, iter, ifs, is⟩] s _ => if is = 0 ∧ blkC G.N x.sc s (ownOf G.N s) = true ∧ isSetE iter = false then
      (r.i x tg iter).bind fun it => (cTg G.N (inBlk x s) 8 tg).bind fun t => (cIfs r (inBlk x s) ifs).bind fun c => (r.e (inBlk x s) kx).bind fun f =>
        if (slotsT t).all (fun i => ((ownOf G.N s).map (·.2)).contains i) = true then some (mDcLen ((ownOf G.N s).map (·.2)) it t c f) else none
    else none
  | _ => none
def cCallN (G : Gam) (r : Rec) (x : Sx) (n : Str) (args : List Expr) : Option M :=
  if okName n = true ∧ isGl x.sc n = true then (match G.fns.lookup n with
    | some k => if args.length = 0 then none else (cArgs r x args).map fun g => mCall G.cl n k g
    | none => if n = "isinstance" then (match args with
        | [a, .Name t _] => if isStar a = false ∧ okName t = true ∧ isGl x.sc t = true ∧ biNames.contains t = true then (tyN t).bind fun T => (r.e x a).map fun f => m1 (gIsi T) f else none
        | _ => none)
      else match args with
        | [] => none
        | [a] => (match (if n = "tuple" then cRg G r x a else none) with
          | some m => some (mTupRg m)
          | none => match (if n = "len" then cDcLen G r x a else none) with
            | some m => some m
            | none => (cB n 1).bind fun b => (cArgs r x [a]).map fun g => mBi b g)
        | a :: es => (cB n (es.length + 1)).bind fun b => (cArgs r x (a :: es)).map fun g => mBi b g)
  else none
def cCall (G : Gam) (r : Rec) (x : Sx) : Expr → List Expr → Pos → Option M
  | .Name n _, args, _ => cCallN G r x n args
  | .Attribute o name apos, [a], pos => if isRecv o = true ∧ (apos.endLine == pos.line) = true ∧ isStar a = false then (cMeth name 1).bind fun gm => (r.e x o).bind fun f => (cArgs r x [a]).map fun g => mMeth "list" gm f g else none
  | .Attribute o name apos, [], pos => if isRecv o = true ∧ (apos.endLine == pos.line) = true ∧ name = "pop" then (r.e x o).map fun f => mMeth "list" gPop f mNil else none
  | _, _, _ => none
theorem base_of {o : Expr} {n : Str} {env : PySem.Env} (h : isRecv o = true) : attributeBase o n env (eval o env) = eval o env := by
  cases o <;> first | rfl | cases h
section
variable {G : Gam} {X : Cx} {E : XK} {x : Sx} {k : Nat} {pos : Pos} {r : Rec}
theorem cDcLen_ok (ok : RecOk G k r) (g : Gd G X E x k) {e : Expr} {m : M} {p : Pos} (hg : isGl x.sc "len" = true) (h : cDcLen G r x e = some m) : PE X (.Call (.Name "len" p) [e] [] pos) (tM X.K E m) := by
  unfold cDcLen at h
  split at h
  · rename_i kx b j cp tg iter ifs is s dp
    by_cases hc : is = 0 ∧ blkC G.N x.sc s (ownOf G.N s) = true ∧ isSetE iter = false
    · rw [if_pos hc] at h
      obtain ⟨rfl, hb, hs⟩ := hc
      obtain ⟨it, h1, h⟩ := Option.bind_eq_some_iff.mp h
      obtain ⟨t, h2, h⟩ := Option.bind_eq_some_iff.mp h
      obtain ⟨c, h3, h⟩ := Option.bind_eq_some_iff.mp h
      obtain ⟨f, h4, h⟩ := Option.bind_eq_some_iff.mp h
      by_cases hw : (slotsT t).all (fun i => ((ownOf G.N s).map (·.2)).contains i) = true
      · rw [if_pos hw] at h; cases h
        have hN : X.N.Nodup := by rw [g.N]; exact g.nd
        have hbk : BlkOk X.N X.env.scope s (ownOf G.N s) := by rw [g.N, g.sc]; exact blkOk_by hb
        have hown : ∀ i ∈ slotsT t, i ∈ (ownOf G.N s).map (·.2) := fun i hi => by
          have := List.all_eq_true.mp hw i hi
          exact List.contains_iff_mem.mp this
        have hi := ok.i _ _ _ _ _ _ g h1
        refine PE.weak (pe_callB call_lenD (isGl_ok g.sc hg) (g.bis "len" (by simp [biNames])) (by decide +kernel) (pa_cons (pe_dc g.calm hN hi hbk (fun s' H' C cl fp => ((cTg_ok (g.blk s' H' s C cl fp) 8).1 tg t h2)) (fun s' H' C cl fp => cIfs_ok ok (g.blk s' H' s C cl fp) h3)
          (fun s' H' C cl fp => (ok.e _ _ _ _ _ (g.blk s' H' s C cl fp) h4).pe) (fun s' H' C cl fp => pe_mBl) (folded_of hs)) pa_nil rfl) (by decide) (by decide) rfl rfl) fun σ H Q q => dclen_read hown q
      · rw [if_neg hw] at h; cases h
    · rw [if_neg hc] at h; cases h
  · cases h
theorem tyN_ok {s : Str} {T : String} (h : tyN s = some T) : T ∈ ["int", "bool", "str", "tuple", "list"] ∧ bootBuiltins s = some (.type T) ∧ s ≠ "__name__" := by
  unfold tyN at h
  by_cases e : s = "int"
  · rw [if_pos e] at h; subst e; cases h; exact ⟨by simp, by decide +kernel, by decide⟩
  rw [if_neg e] at h; clear e
  by_cases e : s = "bool"
  · rw [if_pos e] at h; subst e; cases h; exact ⟨by simp, by decide +kernel, by decide⟩
  rw [if_neg e] at h; clear e
  by_cases e : s = "str"
  · rw [if_pos e] at h; subst e; cases h; exact ⟨by simp, by decide +kernel, by decide⟩
  rw [if_neg e] at h; clear e
  by_cases e : s = "tuple"
  · rw [if_pos e] at h; subst e; cases h; exact ⟨by simp, by decide +kernel, by decide⟩
  rw [if_neg e] at h; clear e
  by_cases e : s = "list"
  · rw [if_pos e] at h; subst e; cases h; exact ⟨by simp, by decide +kernel, by decide⟩
  rw [if_neg e] at h; cases h
theorem cBi_ok (ok : RecOk G k r) (g : Gd G X E x k) {n : Str} {a : Expr} {es : List Expr} {j : Nat} {b : GL} {f : MA} {p : Pos} (hg : Gl X n) (h1 : cB n j = some b) (h2 : cArgs r x (a :: es) = some f) : PE X (.Call (.Name n p) (a :: es) [] pos) (tM X.K E (mBi b f)) := by
  have q := cB_ok (X := X) g.calm h1
  obtain ⟨hs, f', h3⟩ := cArgs_two h2
  rcases q.call with ⟨id, hv, hc⟩ | ⟨T, hv, hc⟩
  · exact pe_mBi hc hg (g.bis n q.mem) hv (cArgs_ok ok g h2) q.nm q.db (star_cons hs) (star_plain h3)
  · exact pe_mTy hc hg (g.bis n q.mem) hv (cArgs_ok ok g h2) q.nm q.db (star_cons hs) (star_plain h3)
theorem cCallN_ok (ok : RecOk G k r) (g : Gd G X E x k) {n : Str} {args : List Expr} {m : M} {p : Pos} (h : cCallN G r x n args = some m) : PE X (.Call (.Name n p) args [] pos) (tM X.K E m) := by
  unfold cCallN at h
  by_cases hn : okName n = true ∧ isGl x.sc n = true
  · rw [if_pos hn] at h
    obtain ⟨h1, h2⟩ := hn
    obtain ⟨a1, a2, a3⟩ := okName_ok h1
    have hg := isGl_ok g.sc h2
    split at h
    · rename_i j hj
      by_cases hl : args.length = 0
      · rw [if_pos hl] at h; cases h
      · rw [if_neg hl] at h
        obtain ⟨f, h3, rfl⟩ := Option.map_eq_some_iff.mp h
        cases args with
        | nil => exact absurd rfl hl
        | cons a es =>
          obtain ⟨hs, f', h4⟩ := cArgs_two h3
          exact pe_mCall (g.cos _ (lookup_mem' hj)) g.room hg g.pas (cArgs_ok ok g h3) a1 (star_cons hs) (star_plain h4)
    · by_cases hi : n = "isinstance"
      · rw [if_pos hi] at h
        split at h
        · rename_i a t tp
          by_cases hq : isStar a = false ∧ okName t = true ∧ isGl x.sc t = true ∧ biNames.contains t = true
          · rw [if_pos hq] at h
            obtain ⟨hs, ht, hgt, hbt⟩ := hq
            obtain ⟨T, h3, h⟩ := Option.bind_eq_some_iff.mp h
            obtain ⟨f, h4, rfl⟩ := Option.map_eq_some_iff.mp h
            obtain ⟨b1, b2, b3⟩ := tyN_ok h3
            subst hi
            exact pe_mIsi b1 (ok.e _ _ _ _ _ g h4).pe hg (g.bis "isinstance" (by simp [biNames])) (isGl_ok g.sc hgt) (g.bis t (by
              clear h h3 h4 b2 b3
              have hc : biNames.contains t = true := hbt
              rw [List.contains_eq_any_beq, List.any_eq_true] at hc
              obtain ⟨y, hy, e⟩ := hc
              rw [beq_iff_eq.mp e]; exact hy)) b2 b3 (okName_ok ht).1 (star_cons hs)
          · rw [if_neg hq] at h; cases h
        · cases h
      · rw [if_neg hi] at h
        split at h
        · cases h
        · rename_i a
          split at h
          · rename_i mr hmr
            cases h
            by_cases ht : n = "tuple"
            · rw [if_pos ht] at hmr
              subst ht
              obtain ⟨c1, c2⟩ := cRg_ok ok g hmr
              exact pe_mTupRg hg (g.bis "tuple" (by simp [biNames])) g.calm c1 (star_cons c2)
            · rw [if_neg ht] at hmr; cases hmr
          · split at h
            · rename_i ml hml
              cases h
              by_cases ht : n = "len"
              · rw [if_pos ht] at hml
                subst ht
                exact cDcLen_ok ok g h2 hml
              · rw [if_neg ht] at hml; cases hml
            · obtain ⟨b, h3, h⟩ := Option.bind_eq_some_iff.mp h
              obtain ⟨f, h4, rfl⟩ := Option.map_eq_some_iff.mp h
              exact cBi_ok ok g hg h3 h4
        · obtain ⟨b, h3, h⟩ := Option.bind_eq_some_iff.mp h
          obtain ⟨f, h4, rfl⟩ := Option.map_eq_some_iff.mp h
          exact cBi_ok ok g hg h3 h4
  · rw [if_neg hn] at h; cases h
theorem cCall_ok (ok : RecOk G k r) (g : Gd G X E x k) {fe : Expr} {args : List Expr} {m : M} (h : cCall G r x fe args pos = some m) : PE X (.Call fe args [] pos) (tM X.K E m) := by
  unfold cCall at h
  split at h
  · exact cCallN_ok ok g h
  · rename_i o name apos a
    by_cases hq : isRecv o = true ∧ (apos.endLine == pos.line) = true ∧ isStar a = false
    · rw [if_pos hq] at h
      obtain ⟨hr, hl, hs⟩ := hq
      obtain ⟨gm, h1, h⟩ := Option.bind_eq_some_iff.mp h
      obtain ⟨f, h2, h⟩ := Option.bind_eq_some_iff.mp h
      obtain ⟨fa, h3, rfl⟩ := Option.map_eq_some_iff.mp h
      have hfew : ((backTo pos (starEach [a] X.env)).all (fun x => !x.1) && (backToKw pos (keywordEach [] X.env)).all (fun x => x.1.isSome) && decide ([a].length + ([] : List Keyword).length + (if ([] : List Keyword).isEmpty then 0 else 1) < 30)) = true := by
        rw [star_all h3]; rfl
      unfold cMeth at h1
      by_cases e : name = "append" ∧ 1 = 1
      · rw [if_pos e] at h1; cases h1; obtain ⟨rfl, _⟩ := e
        exact pe_mMeth (.inl rfl) F.plainAttrs_list F.slot_list_append F.type_list_append gm_app (ok.e _ _ _ _ _ g h2).pe (cArgs_ok ok g h3) (base_of hr) hfew hl (star_cons hs) rfl
      rw [if_neg e] at h1; clear e
      by_cases e : name = "pop" ∧ 1 = 1
      · rw [if_pos e] at h1; cases h1; obtain ⟨rfl, _⟩ := e
        exact pe_mMeth (.inl rfl) F.plainAttrs_list F.slot_list_pop F.type_list_pop gm_popAt (ok.e _ _ _ _ _ g h2).pe (cArgs_ok ok g h3) (base_of hr) hfew hl (star_cons hs) rfl
      rw [if_neg e] at h1; clear e
      by_cases e : name = "extend" ∧ 1 = 1
      · rw [if_pos e] at h1; cases h1; obtain ⟨rfl, _⟩ := e
        exact pe_mMeth (.inl rfl) F.plainAttrs_list F.slot_list_extend F.type_list_extend gm_ext (ok.e _ _ _ _ _ g h2).pe (cArgs_ok ok g h3) (base_of hr) hfew hl (star_cons hs) rfl
      rw [if_neg e] at h1; cases h1
    · rw [if_neg hq] at h; cases h
  · rename_i o name apos
    by_cases hq : isRecv o = true ∧ (apos.endLine == pos.line) = true ∧ name = "pop"
    · rw [if_pos hq] at h
      obtain ⟨hr, hl, rfl⟩ := hq
      obtain ⟨f, h2, rfl⟩ := Option.map_eq_some_iff.mp h
      exact pe_mMeth0 (.inl rfl) F.plainAttrs_list F.slot_list_pop F.type_list_pop gm_pop (ok.e _ _ _ _ _ g h2).pe (base_of hr) hl
    · rw [if_neg hq] at h; cases h
  · cases h
end
end Rb

/-! Rb17: from the text to the readings: all expressions; statements; defs. -/
namespace Rb
open PySem PySem.Spec PyProof.Rows L2

/-! ### expressions -/
def mBad : M := fun _ _ => .bad
def mTupOf (g : MA) : M := fun env S => (g env S).bind fun ws S1 => Out.opt (if ws.length ≤ 16777216 then (allU ws).map fun us => .val (.tuple us) else none) S1
def cE (G : Gam) (r : Rec) (x : Sx) : Expr → Option M
  | .Name n _ => cName G x n
  | .Constant c _ _ => cConst c
  | .BoolOp op es _ => cBool r x op es
  | .Compare a ops cs _ => cCmp r x a ops cs
  | .BinOp a op b _ => (gBin op).bind fun g => (r.e x a).bind fun f => (r.e x b).map fun f' => m2 g f f'
  | .UnaryOp .Not a _ => (r.e x a).map fun f => m1 gNot f
  | .UnaryOp .USub a _ => (r.e x a).map fun f => m1 gNeg f
  | .IfExp c a b _ => (r.e x c).bind fun f => (r.e x a).bind fun f1 => (r.e x b).map fun f2 => mIte f f1 f2
  | .Tuple es _ _ => if es.length ≤ 16777216 then (cArgs r x es).map mTupOf else none
  | .Subscript a i _ => cSub r x a i
  | .List es p => (r.f x (.List es p)).map mSnap
  | .ListComp a b c p => (r.f x (.ListComp a b c p)).map mSnap
  | .Call f args [] pos => (match cCall G r x f args pos with
    | some m => some m
    | none => (r.f x (.Call f args [] pos)).map mSnap)
  | _ => none
theorem pt_mIte {X : Cx} {E : XK} {c a b : Expr} {pos : Pos} {fc fa fb : M} (hc : PT X c (tT X.K E fc)) (ha : PT X a (tT X.K E fa)) (hb : PT X b (tT X.K E fb)) : PT X (.IfExp c a b pos) (tT X.K E (mIte fc fa fb)) := by
  refine ⟨fun pins s σ H Q I h => ?_⟩
  show wpAny _ _ (isTrue c X.env (eval c X.env) >>= fun k => if k = true then isTrue a X.env (eval a X.env) else isTrue b X.env (eval b X.env)) _ _ s
  have h : tT X.K E fc σ H fun k H1 => if k = true then tT X.K E fa σ H1 Q else tT X.K E fb σ H1 Q := by
    obtain ⟨Pr, m, env, S, er, sr, h⟩ := h
    refine ⟨Pr, m, env, S, er, sr, ?_⟩
    unfold mIte at h
    cases h1 : fc env S with
    | bad => simp only [h1, Out.bind_bad] at h
    | ex x S1 => simp only [h1, Out.bind_ex] at h ⊢; exact h
    | ok w S1 =>
      simp only [h1, Out.bind_ok] at h ⊢
      have go : ∀ {f : M}, (match f env S1 with | .ok w S' => (match tru S' w with | some b => ∀ m' H', Ext m m' H H' → SR X.K Pr m' H' S' → Q b H' | none => False) | .ex x S' => RetX X.K Pr m H S' x E | .bad => False) → ∀ m' H', Ext m m' H H' → SR X.K Pr m' H' S1 → tT X.K E f σ H' Q := by
        intro f h m' H' e' s'
        refine ⟨Pr, m', env, S1, er.ext e', s', ?_⟩
        cases h3 : f env S1 with
        | bad => simp only [h3] at h
        | ex x S2 => simp only [h3] at h; exact RetX.ext h e'
        | ok z S2 =>
          simp only [h3] at h ⊢
          cases h4 : tru S2 z with
          | none => simp only [h4] at h
          | some b => simp only [h4] at h ⊢; exact fun m2 H2 e2 s2 => h m2 H2 (e'.trans e2) s2
      cases h2 : tru S1 w with
      | none => simp only [h2] at h
      | some k =>
        simp only [h2] at h ⊢
        cases k with
        | true =>
          intro m' H' e' s'
          rw [if_pos rfl]
          exact go h m' H' e' s'
        | false =>
          intro m' H' e' s'
          rw [if_neg (by decide)]
          exact go h m' H' e' s'
  refine wpAny_bind (thn (hc.run pins s σ H _ I h) fun k s1 ⟨H1, I1, q1⟩ => ?_)
  cases k with
  | true =>
    rw [if_pos rfl] at q1 ⊢
    exact ha.run pins s1 σ H1 Q I1 q1
  | false =>
    rw [if_neg (by decide)] at q1 ⊢
    exact hb.run pins s1 σ H1 Q I1 q1
section
variable {G : Gam} {X : Cx} {E : XK} {x : Sx} {k : Nat} {r : Rec}
theorem cE_ok (ok : RecOk G k r) (g : Gd G X E x k) {e : Expr} {m : M} (h : cE G r x e = some m) : EOk G X E e m := by
  unfold cE at h
  split at h
  · exact cName_ok g h
  · exact cConst_ok h
  · have q := cBool_ok (pos := ‹Pos›) ok g h
    exact ⟨q.1, q.2.pt⟩
  · exact cCmp_ok ok g h
  · obtain ⟨gg, h1, h⟩ := Option.bind_eq_some_iff.mp h
    obtain ⟨f, h2, h⟩ := Option.bind_eq_some_iff.mp h
    obtain ⟨f', h3, rfl⟩ := Option.map_eq_some_iff.mp h
    exact .of (pe_m2 (gBin_ok h1) (ok.e _ _ _ _ _ g h2).pe (ok.e _ _ _ _ _ g h3).pe) fun _ => rfl
  · obtain ⟨f, h2, rfl⟩ := Option.map_eq_some_iff.mp h
    have q := ok.e _ _ _ _ _ g h2
    exact ⟨pe_mNot q.pe, pt_mNot q.pt⟩
  · obtain ⟨f, h2, rfl⟩ := Option.map_eq_some_iff.mp h
    exact .of (pe_mNeg (ok.e _ _ _ _ _ g h2).pe) fun _ => rfl
  · obtain ⟨f, h1, h⟩ := Option.bind_eq_some_iff.mp h
    obtain ⟨f1, h2, h⟩ := Option.bind_eq_some_iff.mp h
    obtain ⟨f2, h3, rfl⟩ := Option.map_eq_some_iff.mp h
    exact ⟨pe_mIte (ok.e _ _ _ _ _ g h1).pt (ok.e _ _ _ _ _ g h2).pe (ok.e _ _ _ _ _ g h3).pe, pt_mIte (ok.e _ _ _ _ _ g h1).pt (ok.e _ _ _ _ _ g h2).pt (ok.e _ _ _ _ _ g h3).pt⟩
  · rename_i es j p
    by_cases hl : es.length ≤ 16777216
    · rw [if_pos hl] at h
      obtain ⟨f, h1, rfl⟩ := Option.map_eq_some_iff.mp h
      exact .of (pe_mTup hl (cArgs_ok ok g h1)) fun _ => rfl
    · rw [if_neg hl] at h; cases h
  · exact .of (cSub_ok ok g h) fun _ => rfl
  · obtain ⟨f, h1, rfl⟩ := Option.map_eq_some_iff.mp h
    exact .of (PE.weak (ok.f _ _ _ _ _ g h1) fun _ _ _ q => snap_read q) fun _ => rfl
  · obtain ⟨f, h1, rfl⟩ := Option.map_eq_some_iff.mp h
    exact .of (PE.weak (ok.f _ _ _ _ _ g h1) fun _ _ _ q => snap_read q) fun _ => rfl
  · split at h
    · rename_i h1
      cases h
      exact .of (cCall_ok ok g h1) fun _ => rfl
    · obtain ⟨f, h1, rfl⟩ := Option.map_eq_some_iff.mp h
      exact .of (PE.weak (ok.f _ _ _ _ _ g h1) fun _ _ _ q => snap_read q) fun _ => rfl
  · cases h
end
def isTupE : Expr → Bool
  | .Tuple .. => true
  | _ => false
def cI (G : Gam) (r : Rec) (x : Sx) (tg : Expr) : Expr → Option MI
  | .Call (.Name n p) [a] [] pos => if n = "enumerate" ∧ isGl x.sc n = true ∧ isTupE tg = true then (cArgs r x [a]).map itEn else cIt G r x tg (.Call (.Name n p) [a] [] pos)
  | e => cIt G r x tg e
def cc (G : Gam) : Nat → Rec
  | 0 => ⟨fun _ _ => none, fun _ _ => none, fun _ _ _ => none⟩
  | d + 1 => ⟨cE G (cc G d), cF G (cc G d), cI G (cc G d)⟩
section
variable {G : Gam} {X : Cx} {E : XK} {x : Sx} {k : Nat} {r : Rec}
theorem cI_ok (ok : RecOk G k r) (g : Gd G X E x k) {tg e : Expr} {m : MI} (h : cI G r x tg e = some m) : PI X tg e (tI X.K E m) := by
  unfold cI at h
  split at h
  · rename_i n p a pos
    by_cases hn : n = "enumerate" ∧ isGl x.sc n = true ∧ isTupE tg = true
    · rw [if_pos hn] at h
      obtain ⟨rfl, h1, h2⟩ := hn
      obtain ⟨f, h3, rfl⟩ := Option.map_eq_some_iff.mp h
      cases tg with
      | Tuple es j tp => exact pi_mEn (isGl_ok g.sc h1) (g.bis "enumerate" (by simp [biNames])) (cArgs_ok ok g h3) (star_cons (cArgs_one h3))
      | _ => cases h2
    · rw [if_neg hn] at h
      exact cIt_ok ok g h
  · exact cIt_ok ok g h
theorem cc_ok : ∀ d, RecOk G k (cc G d)
  | 0 => ⟨(fun _ _ _ _ _ _ h => by cases h), (fun _ _ _ _ _ _ h => by cases h), (fun _ _ _ _ _ _ _ h => by cases h)⟩
  | d + 1 => ⟨fun _ _ _ _ _ g h => cE_ok (cc_ok d) g h, fun _ _ _ _ _ g h => cF_ok (cc_ok d) g h, fun _ _ _ _ _ _ g h => cI_ok (cc_ok d) g h⟩
end

/-! ### statements -/
structure Gs (G : Gam) (X : Cx) (E : XK) (x : Sx) (k : Nat) : Prop extends Gd G X E x k where
  own : PassesOwn (model X.prog X.w) X.A X.env X.xe
  kind : X.env.scope.kind = .function
def sBad : SM := fun _ _ => .bad
theorem ps_bad {X : Cx} {E : XK} {st : Stmt} : PS X st (tS X.K E sBad) := ⟨fun pins s σ H D I h => by
  obtain ⟨Pr, m, env, S, er, sr, h⟩ := h
  exact h.elim⟩
def isComp : Expr → Bool
  | .ListComp .. => true
  | .SetComp .. => true
  | .DictComp .. => true
  | _ => false
theorem swap_no {e : Expr} {tg : Option Expr} {l : Nat} {env : PySem.Env} (h : isComp e = false) : swapsWith e tg l env = pure false := by
  cases e <;> first | rfl | cases h
theorem swap_sub {e o i : Expr} {p : Pos} {l : Nat} {env : PySem.Env} : swapsWith e (some (.Subscript o i p)) l env = pure false := by
  cases e <;> rfl
theorem swap_tup {e : Expr} {es : List Expr} {j : Nat} {p : Pos} {l : Nat} {env : PySem.Env} : swapsWith e (some (.Tuple es j p)) l env = pure false := by
  cases e <;> rfl
theorem swapst_name {n : Str} {p : Pos} {e : Expr} {env : PySem.Env} : swappedStores [.Name n p] e env = pure none := by
  cases e <;> rfl
theorem swapst_sub {o i : Expr} {p : Pos} {e : Expr} {env : PySem.Env} : swappedStores [.Subscript o i p] e env = pure none := by
  cases e <;> rfl
theorem swapst_tup {es : List Expr} {j : Nat} {p : Pos} {e : Expr} {env : PySem.Env} (h : isTupE e = false) : swappedStores [.Tuple es j p] e env = pure none := by
  cases e <;> first | rfl | cases h
def cRet (G : Gam) (r : Rec) (x : Sx) (e : Expr) : Option M := if G.keep = true then (match r.f x e with
  | some f => some (mBox f)
  | none => r.e x e) else r.e x e
/-- y = [.. for ..] with the swap -/
def swapB (sc : Scope) (y : Str) (py : Pos) (vp : Pos) (s : Scope) : Bool := (sc.names.lookup y == some .local) && (py.line == vp.line) && !(s.names.any fun (n, k) => n == y && (k == .local || k == .cell))
def cLc (G : Gam) (r : Rec) (x : Sx) (y : Str) (elt : Expr) (s : Scope) (gens : List Comprehension) : Option M := match G.bx.lookup y with
  | none => (cComp G r r.e x elt s gens).map mSnap
  | some 1 => (cComp G r r.e x elt s gens).map mBox
  | some _ => (cComp G r (fun x e => (r.f x e).map mBox) x elt s gens).map mBox
def cVal (G : Gam) (r : Rec) (x : Sx) (y : Str) (e : Expr) : Option M := match G.bx.lookup y with
  | none => r.e x e
  | some _ => match r.f x e with
    | some f => some (mBox f)
    | none => r.e x e
def isCell (sc : Scope) (y : Str) : Bool := match sc.names.lookup y with
  | some .cell => true
  | _ => false
def cAsg (G : Gam) (r : Rec) (x : Sx) (tg : Expr) (e : Expr) : Option SM := match tg with
  | .Name y py => (match e with
    | .ListComp elt gens s vp => if swapB x.sc y py vp s = true then (ixOf y G.N 0).bind fun i => (cLc G r x y elt s gens).map fun m => sAsg (.nm i) m
      else if isCell x.sc y = true then (cTg G.N x 8 (.Name y py)).bind fun t => (cLc G r x y elt s gens).map fun m => sAsg t m else none
    | e => if isComp e = true then none else (cTg G.N x 8 (.Name y py)).bind fun t => (cVal G r x y e).map fun m => sAsg t m)
  | .Tuple es j p => if isTupE e = true then none else (cTg G.N x 8 (.Tuple es j p)).bind fun t => (r.e x e).map fun m => sAsg t m
  | .Subscript o i p => if isSlice i = true then none else (r.e x o).bind fun fo => (r.e x i).bind fun fi => (r.e x e).map fun fv => sSetIx fo fi fv
  | _ => none
mutual
def cS (G : Gam) (r : Rec) (x : Sx) : Nat → Stmt → Option SM
  | 0, _ => none
  | d + 1, .Return none _ => some sRetN
  | d + 1, .Return (some e) _ => (cRet G r x e).map sRet
  | d + 1, .Expr e _ => if isComp e = true then none else (r.e x e).map sExpr
  | d + 1, .Assign [tg] e _ => cAsg G r x tg e
  | d + 1, .If c a b _ => (r.e x c).bind fun f => (cSs G r x d a).bind fun f1 => (cSs G r x d b).map fun f2 => sIf f f1 f2
  | d + 1, .For tg it b [] _ => if isSetE it = true then none else (r.i x tg it).bind fun i => (cTg G.N x 8 tg).bind fun t => (cSs G r x d b).map fun f => sFor i t f
  | d + 1, .While c b [] _ => (r.e x c).bind fun f => (cSs G r x d b).map fun f1 => sWhile 100000 f f1
  | d + 1, .Break _ => some sBrk
  | d + 1, .Continue _ => some sCnt
  | d + 1, .Pass _ => some sNil
  | d + 1, .Raise _ _ _ => some sBad
  | _, _ => none
def cSs (G : Gam) (r : Rec) (x : Sx) : Nat → List Stmt → Option SM
  | 0, _ => none
  | d + 1, [] => some sNil
  | d + 1, s :: ss => (cS G r x d s).bind fun f => (cSs G r x d ss).map fun g => sSeq f g
end
section
variable {G : Gam} {X : Cx} {E : XK} {x : Sx} {k : Nat} {r : Rec} {pos : Pos}
theorem blk_fn {env : PySem.Env} (h : env.scope.kind = .function) : env.blockKind = .function := by
  unfold Env.blockKind
  rw [h]; rfl
theorem swap_yes (g : Gs G X E x k) {y : Str} {py vp : Pos} {elt : Expr} {gens : List Comprehension} {s : Scope} {l : Nat} (h : swapB x.sc y py vp s = true) : X.env.scope.names.lookup y = some .local ∧ swapsWith (.ListComp elt gens s vp) (some (.Name y py)) l X.env = pure true := by
  unfold swapB at h
  rw [Bool.and_eq_true, Bool.and_eq_true] at h
  obtain ⟨⟨h1, h2⟩, h3⟩ := h
  have hl : x.sc.names.lookup y = some .local := by
    cases hc : x.sc.names.lookup y with
    | none => rw [hc] at h1; cases h1
    | some v => cases v <;> first | rfl | (rw [hc] at h1; cases h1)
  refine ⟨by rw [g.sc]; exact hl, ?_⟩
  show (pure (X.env.blockKind == .function && X.env.kindOf y == some .local && py.line == vp.line && !(s.names.any fun (n, k) => n == y && (k == .local || k == .cell))) : Sem Bool) = pure true
  rw [h2, h3, blk_fn g.kind, show X.env.kindOf y = some .local by unfold Env.kindOf; rw [g.sc]; exact hl]
  rfl
theorem cRet_ok (ok : RecOk G k r) (g : Gs G X E x k) {e : Expr} {m : M} (h : cRet G r x e = some m) : PE X e (tM X.K E m) := by
  unfold cRet at h
  by_cases hk : G.keep = true
  · rw [if_pos hk] at h
    split at h
    · rename_i f h1
      cases h
      exact PE.weak (ok.f _ _ _ _ _ g.toGd h1) fun _ _ _ q => box_read q
    · exact (ok.e _ _ _ _ _ g.toGd h).pe
  · rw [if_neg hk] at h
    exact (ok.e _ _ _ _ _ g.toGd h).pe
theorem cVal_ok (ok : RecOk G k r) (g : Gs G X E x k) {y : Str} {e : Expr} {m : M} (h : cVal G r x y e = some m) : PE X e (tM X.K E m) := by
  unfold cVal at h
  split at h
  · exact (ok.e _ _ _ _ _ g.toGd h).pe
  · split at h
    · rename_i f h1
      cases h
      exact PE.weak (ok.f _ _ _ _ _ g.toGd h1) fun _ _ _ q => box_read q
    · exact (ok.e _ _ _ _ _ g.toGd h).pe
theorem asgF_read {K : PySem.W.Frag} {D : Ends} {σ : L2.St} {H : Hp} {f : MF} {m : M} {X : Cx} {i : Nat} (hm : ∀ σ H Q, tM K E m σ H Q → tF K E f σ H Q) (hg : ∀ v σ H Q, gM K (.nm i) v σ H Q → gName i v σ H Q) (h : tS K E (sAsg (.nm i) m) D σ H) : tAsg (tF K E f) (gName i) D σ H := by
  have q : tM K E m σ H fun x H1 => gM K (.nm i) x σ H1 D.nx := asg_read h
  refine hm σ H _ ?_
  obtain ⟨Pr, m', env, S, er, sr, q⟩ := q
  refine ⟨Pr, m', env, S, er, sr, ?_⟩
  cases h1 : m env S with
  | bad => rw [h1] at q; exact q
  | ex x S1 => rw [h1] at q; exact q
  | ok w S1 => rw [h1] at q; exact fun m2 H2 v e s r => hg _ _ _ _ (q m2 H2 v e s r)
theorem gNm {K : PySem.W.Frag} {i : Nat} : ∀ v σ H Q, gM K (.nm i) v σ H Q → gName i v σ H Q := by
  rintro v σ H Q ⟨Pr, m, env, S, w, er, sr, r, h⟩
  simp only [asg] at h
  refine h (σ.set i (some v)) ?_ ?_
  · exact er.set r
  · intro vs hv
    exact wipe_set (hv i (by simp [slotsT]))
theorem cLc_ok (ok : RecOk G k r) (g : Gs G X E x k) {y : Str} {elt : Expr} {s : Scope} {gens : List Comprehension} {m : M} {vp : Pos} (h : cLc G r x y elt s gens = some m) : PE X (.ListComp elt gens s vp) (tM X.K E m) := by
  unfold cLc at h
  split at h
  · obtain ⟨f, h3, rfl⟩ := Option.map_eq_some_iff.mp h
    exact PE.weak (cComp_ok (pos := vp) (E := E) ok g.toGd (fun X x e m g h => (ok.e X E0' x e m g h).pe) h3).1 fun _ _ _ q => snap_read q
  · obtain ⟨f, h3, rfl⟩ := Option.map_eq_some_iff.mp h
    exact PE.weak (cComp_ok (pos := vp) (E := E) ok g.toGd (fun X x e m g h => (ok.e X E0' x e m g h).pe) h3).1 fun _ _ _ q => box_read q
  · obtain ⟨f, h3, rfl⟩ := Option.map_eq_some_iff.mp h
    refine PE.weak (cComp_ok (pos := vp) (E := E) ok g.toGd (fun X x e m g h => ?_) h3).1 fun _ _ _ q => box_read q
    obtain ⟨f', h4, rfl⟩ := Option.map_eq_some_iff.mp h
    exact PE.weak (ok.f _ _ _ _ _ g h4) fun _ _ _ q => box_read q
theorem swap_cell (g : Gs G X E x k) {y : Str} {py vp : Pos} {elt : Expr} {gens : List Comprehension} {s : Scope} {l : Nat} (h : isCell x.sc y = true) : swapsWithSole [.Name y py] (.ListComp elt gens s vp) l X.env = pure false := by
  unfold isCell at h
  show (pure (X.env.blockKind == .function && X.env.kindOf y == some .local && py.line == vp.line && !(s.names.any fun (n, k) => n == y && (k == .local || k == .cell))) : Sem Bool) = pure false
  rw [show (X.env.kindOf y == some .local) = false by
    unfold Env.kindOf
    rw [g.sc]
    split at h
    · rename_i e; rw [e]; rfl
    · cases h]
  rw [Bool.and_false]; rfl
theorem cAsg_ok (ok : RecOk G k r) (g : Gs G X E x k) {tg e : Expr} {m : SM} (h : cAsg G r x tg e = some m) : PS X (.Assign [tg] e pos) (tS X.K E m) := by
  have hN : X.N.Nodup := by rw [g.N]; exact g.nd
  unfold cAsg at h
  split at h
  · rename_i y py
    split at h
    · rename_i elt gens s vp
      by_cases hs : swapB x.sc y py vp s = true
      · rw [if_pos hs] at h
        obtain ⟨i, h1, h⟩ := Option.bind_eq_some_iff.mp h
        obtain ⟨m1, h2, rfl⟩ := Option.map_eq_some_iff.mp h
        obtain ⟨hl, hsw⟩ := swap_yes (elt := elt) (gens := gens) (l := pos.line) g hs
        have hi : X.N[i]? = some y := by rw [g.N]; exact ixOf_at h1
        unfold cLc at h2
        split at h2
        · obtain ⟨f, h3, rfl⟩ := Option.map_eq_some_iff.mp h2
          exact PS.weak ((cComp_ok (pos := vp) (E := E) ok g.toGd (fun X x e m g h => (ok.e X E0' x e m g h).pe) h3).2 i y py pos hi hl hsw) fun D σ H q => asgF_read (X := X) (fun _ _ _ q => snap_read q) gNm q
        · obtain ⟨f, h3, rfl⟩ := Option.map_eq_some_iff.mp h2
          exact PS.weak ((cComp_ok (pos := vp) (E := E) ok g.toGd (fun X x e m g h => (ok.e X E0' x e m g h).pe) h3).2 i y py pos hi hl hsw) fun D σ H q => asgF_read (X := X) (fun _ _ _ q => box_read q) gNm q
        · obtain ⟨f, h3, rfl⟩ := Option.map_eq_some_iff.mp h2
          refine PS.weak ((cComp_ok (pos := vp) (E := E) ok g.toGd (fun X x e m g h => ?_) h3).2 i y py pos hi hl hsw) fun D σ H q => asgF_read (X := X) (fun _ _ _ q => box_read q) gNm q
          obtain ⟨f', h4, rfl⟩ := Option.map_eq_some_iff.mp h
          exact PE.weak (ok.f _ _ _ _ _ g h4) fun _ _ _ q => box_read q
      · rw [if_neg hs] at h
        by_cases hcl : isCell x.sc y = true
        · rw [if_pos hcl] at h
          obtain ⟨t, h1, h⟩ := Option.bind_eq_some_iff.mp h
          obtain ⟨m1, h2, rfl⟩ := Option.map_eq_some_iff.mp h
          exact ps_mAsg (cLc_ok ok g h2) ((cTg_ok g.toGd 8).1 _ t h1) (swap_cell g hcl) swapst_name rfl
        · rw [if_neg hcl] at h; cases h
    · by_cases hc : isComp e = true
      · rw [if_pos hc] at h; cases h
      · rw [if_neg hc] at h
        obtain ⟨t, h1, h⟩ := Option.bind_eq_some_iff.mp h
        obtain ⟨m1, h2, rfl⟩ := Option.map_eq_some_iff.mp h
        exact ps_mAsg (cVal_ok ok g h2) ((cTg_ok g.toGd 8).1 _ t h1) (show swapsWith e (some (.Name y py)) pos.line X.env = pure false from swap_no (by simpa using hc)) swapst_name rfl
  · rename_i es j p
    by_cases ht : isTupE e = true
    · rw [if_pos ht] at h; cases h
    · rw [if_neg ht] at h
      obtain ⟨t, h1, h⟩ := Option.bind_eq_some_iff.mp h
      obtain ⟨m1, h2, rfl⟩ := Option.map_eq_some_iff.mp h
      exact ps_mAsg (ok.e _ _ _ _ _ g.toGd h2).pe ((cTg_ok g.toGd 8).1 _ t h1) (show swapsWith e (some (.Tuple es j p)) pos.line X.env = pure false from swap_tup) (swapst_tup (by simpa using ht)) rfl
  · rename_i o i p
    by_cases hi : isSlice i = true
    · rw [if_pos hi] at h; cases h
    · rw [if_neg hi] at h
      obtain ⟨fo, h1, h⟩ := Option.bind_eq_some_iff.mp h
      obtain ⟨fi, h2, h⟩ := Option.bind_eq_some_iff.mp h
      obtain ⟨fv, h3, rfl⟩ := Option.map_eq_some_iff.mp h
      refine ps_mSetIx (ok.e _ _ _ _ _ g.toGd h1).pe (ok.e _ _ _ _ _ g.toGd h2).pe (ok.e _ _ _ _ _ g.toGd h3).pe (show swapsWith e (some (.Subscript o i p)) pos.line X.env = pure false from swap_sub) swapst_sub rfl ?_
      intro v
      cases i <;> first | rfl | exact absurd rfl hi
  · cases h
theorem cS_ok (ok : RecOk G k r) (g : Gs G X E x k) : ∀ d, (∀ s m, cS G r x d s = some m → PS X s (tS X.K E m)) ∧ (∀ ss m, cSs G r x d ss = some m → PSs X ss (tS X.K E m))
  | 0 => ⟨(fun s m h => by simp only [cS] at h; cases h), (fun ss m h => by simp only [cSs] at h; cases h)⟩
  | d + 1 => by
    obtain ⟨i1, i2⟩ := cS_ok ok g d
    refine ⟨fun s m h => ?_, fun ss m h => ?_⟩
    · unfold cS at h
      split at h
      · exact absurd ‹_› (by simp)
      · cases h; exact ps_mRetN
      · obtain ⟨f, h1, rfl⟩ := Option.map_eq_some_iff.mp h
        exact ps_mRet (cRet_ok ok g h1)
      · rename_i e _ _
        by_cases hc : isComp e = true
        · rw [if_pos hc] at h; cases h
        · rw [if_neg hc] at h
          obtain ⟨f, h1, rfl⟩ := Option.map_eq_some_iff.mp h
          exact ps_mExpr (ok.e _ _ _ _ _ g.toGd h1).pe (swap_no (by simpa using hc))
      · exact cAsg_ok ok g h
      · have e : d = ‹Nat› := by omega
        obtain ⟨f, h1, h⟩ := Option.bind_eq_some_iff.mp h
        obtain ⟨f1, h2, h⟩ := Option.bind_eq_some_iff.mp h
        obtain ⟨f2, h3, rfl⟩ := Option.map_eq_some_iff.mp h
        rw [← e] at h2 h3
        exact ps_mIf (ok.e _ _ _ _ _ g.toGd h1).pt (i2 _ _ h2) (i2 _ _ h3)
      · rename_i d' tg it b p e
        have e : d = d' := by omega
        by_cases hs : isSetE it = true
        · rw [if_pos hs] at h; cases h
        · rw [if_neg hs] at h
          obtain ⟨i, h1, h⟩ := Option.bind_eq_some_iff.mp h
          obtain ⟨t, h2, h⟩ := Option.bind_eq_some_iff.mp h
          obtain ⟨f, h3, rfl⟩ := Option.map_eq_some_iff.mp h
          rw [← e] at h3
          exact ps_mFor g.own g.calm (ok.i _ _ _ _ _ _ g.toGd h1) ((cTg_ok g.toGd 8).1 _ _ h2) (i2 _ _ h3) (folded_of (by simpa using hs))
      · rename_i d' c b p e
        have e : d = d' := by omega
        obtain ⟨f, h1, h⟩ := Option.bind_eq_some_iff.mp h
        obtain ⟨f1, h3, rfl⟩ := Option.map_eq_some_iff.mp h
        rw [← e] at h3
        exact ps_mWhile g.own (ok.e _ _ _ _ _ g.toGd h1).pt (i2 _ _ h3)
      · cases h; exact ps_mBrk
      · cases h; exact ps_mCnt
      · cases h; exact ps_mPass
      · cases h; exact ps_bad
      · cases h
    · cases ss with
      | nil => simp only [cSs] at h; cases h; exact pss_mNil
      | cons s ss =>
        simp only [cSs] at h
        obtain ⟨f, h1, h⟩ := Option.bind_eq_some_iff.mp h
        obtain ⟨f1, h2, rfl⟩ := Option.map_eq_some_iff.mp h
        exact pss_mCons (i1 _ _ h1) (i2 _ _ h2)
end
end Rb

/-! Rb18: a module's defs together; a law. -/
namespace Rb
open PySem PySem.Spec PyProof.Rows L2
open C8 (scC fnScope_by)

structure Df where
  name : Str
  own : Str
  ps : List Str
  N : List Str
  bx : List (Str × Nat)
  keep : Bool
  args : Arguments
  body : List Stmt
  scope : Scope
  F : CallO → SM
def fnsOf (ds : List Df) : List (Str × Nat) := ds.map fun d => (d.name, d.ps.length)
def Df.gam (d : Df) (fns : List (Str × Nat)) (cs : List (Str × U)) (cl : CallO) : Gam := ⟨d.N, fns, cs, cl, d.bx, d.keep⟩
def Df.fn (d : Df) : Fn := ⟨d.ps.length, d.N.length, d.keep, d.F⟩
def findD : List Df → Str → Option Df
  | [], _ => none
  | d :: ds, f => if f = d.name then some d else findD ds f
def nxt (ds : List Df) (cl : CallO) : CallO := fun f ws S => match findD ds f with
  | some d => runF d.fn cl ws S
  | none => .bad
def runD (ds : List Df) : Nat → CallO
  | 0 => fun _ _ _ => .bad
  | d + 1 => nxt ds (runD ds d)
structure DfOk (ds : List Df) (cs : List (Str × U)) (d : Df) : Prop where
  sc : scC d.N d.ps d.scope = true
  cmp : ∀ cl, cSs (d.gam (fnsOf ds) cs cl) (cc (d.gam (fnsOf ds) cs cl) 60) ⟨d.scope, none⟩ 400 d.body = some (d.F cl)
  find : findD ds d.name = some d
  bnd : ∀ (kV doc pm : Value) (an : Option Addr) (cdv ct : Value) (us : List Value), us.length = d.ps.length → bindArgs (PySem.W.fnOf d.own d.own d.args d.body d.scope .none kV doc pm an cdv ct) ⟨us, []⟩ = pure (d.ps.zip us)
/-- the module as it stands -/
structure Mo (K : PySem.W.Frag) (mg : Str → Option Value) (ds : List Df) (cs : List (Str × U)) : Prop where
  fn : ∀ d ∈ ds, ∃ (fa : Addr) (fd : FuncData), FunD K d.own d.own d.args d.body d.scope [] [] fa fd ∧ mg d.name = some (.ref fa)
  bis : ∀ b ∈ biNames, mg b = none
  cst : ∀ p ∈ cs, ∃ v, mg p.1 = some v ∧ CstR p.2 v
theorem pss_bad {X : Cx} {E : XK} {st : List Stmt} : PSs X st (tS X.K E sBad) := ⟨fun pins s σ H D I h => by
  obtain ⟨Pr, m, env, S, er, sr, h⟩ := h
  exact h.elim⟩
theorem scC_kind {N ps : List Str} {sc : Scope} (h : scC N ps sc = true) : sc.kind = .function := (fnScope_by h).kind
theorem all_ok {P : Program} {w : World} {K : PySem.W.Frag} {mg : Str → Option Value} {base : Heap} {ds : List Df} {cs : List (Str × U)} (M : Mo K mg ds cs) (hok : ∀ d ∈ ds, DfOk ds cs d) : ∀ n, ∀ d ∈ ds,
    ∃ (fa : Addr) (fd : FuncData), FnOk P w K mg base (L2.CX P w) (n + 1) fa fd d.ps (spM K (runD ds n) d.name d.ps.length) ∧ FunD K d.own d.own d.args d.body d.scope [] [] fa fd ∧ mg d.name = some (.ref fa) ∧ PySem.W.keepIn K (.ref fa) = true ∧ Binds K fd d.ps []
  | 0, d, hd => by
    obtain ⟨fa, fd, h1, h2⟩ := M.fn d hd
    refine ⟨fa, fd, ?_, h1, h2, h1.kp, h1.bindsN (hok d hd).bnd⟩
    exact fn_run (F := ⟨d.ps.length, d.N.length, d.keep, fun _ => sBad⟩) (cl := fun _ _ _ => .bad) h1 (fnScope_by (hok d hd).sc) rfl (fun ws St => rfl) fun cdv A outer s H E hr => pss_bad
  | n + 1, d, hd => by
    obtain ⟨fa, fd, h1, h2⟩ := M.fn d hd
    refine ⟨fa, fd, ?_, h1, h2, h1.kp, h1.bindsN (hok d hd).bnd⟩
    have ok := hok d hd
    refine fn_run (F := d.fn) (cl := runD ds n) h1 (fnScope_by ok.sc) rfl (fun ws St => ?_) fun cdv A outer s H E hr => ?_
    · show nxt ds (runD ds n) d.name ws St = _
      unfold nxt
      rw [ok.find]
    · have fs := fnScope_by ok.sc
      have gd : Gd (d.gam (fnsOf ds) cs (runD ds n)) (cxOf (L2.CX P w) P w K mg base d.N d.own d.scope fa cdv A outer s H E) E ⟨d.scope, none⟩ (n + 1) := {
        N := rfl
        nd := fs.nd
        sc := rfl
        fn := fun _ _ => rfl
        calm := rfl
        room := hr
        pas := passes_call (takes_of rfl rfl rfl rfl) fun _ _ _ _ h => h
        cos := fun p hp => by
          obtain ⟨d', hd', rfl⟩ := List.mem_map.mp hp
          obtain ⟨fa', fd', q1, q2, q3, q4, q5⟩ := all_ok M hok n d' hd'
          exact ⟨fa', fd', d'.ps, q1, rfl, q3, q4, q5⟩
        bis := M.bis
        cst := M.cst }
      have gs : Gs (d.gam (fnsOf ds) cs (runD ds n)) (cxOf (L2.CX P w) P w K mg base d.N d.own d.scope fa cdv A outer s H E) E ⟨d.scope, none⟩ (n + 1) := {
        toGd := gd
        own := passes_of (K := fun e s'' => L2.CX P w outer H s E e s'') rfl
        kind := fs.kind }
      exact (cS_ok (cc_ok 60) gs 400).2 _ _ (ok.cmp _)

/-! ### a law -/
/-- the module's part without the script's own object -/
def cutK (K : PySem.W.Frag) (a : Addr) : PySem.W.Frag := K.filter fun p => !(p.1 == a)
theorem cutK_self {a : Addr} : ∀ K : PySem.W.Frag, (cutK K a).lookup a = none
  | [] => rfl
  | (b, o) :: K => by
    unfold cutK
    rw [List.filter_cons]
    by_cases e : b = a
    · rw [if_neg (by simp [e])]
      exact cutK_self K
    · rw [if_pos (by simpa using e), List.lookup_cons, show (a == b) = false by simpa using fun z => e z.symm]
      exact cutK_self K
theorem cutK_ne {a x : Addr} (h : x ≠ a) : ∀ K : PySem.W.Frag, (cutK K a).lookup x = K.lookup x
  | [] => rfl
  | (b, o) :: K => by
    unfold cutK
    rw [List.filter_cons]
    by_cases e : b = a
    · rw [if_neg (by simp [e]), List.lookup_cons, show (x == b) = false by rw [e]; simpa using h]
      exact cutK_ne h K
    · rw [if_pos (by simpa using e), List.lookup_cons, List.lookup_cons]
      split
      · rfl
      · exact cutK_ne h K
theorem cutK_in {K : PySem.W.Frag} {h : Heap} {a : Addr} (X : K.In h) : (cutK K a).In h := fun x o e => by
  by_cases q : x = a
  · rw [q, cutK_self] at e; cases e
  · rw [cutK_ne q] at e; exact X x o e
theorem FunD.cut {K : PySem.W.Frag} {h : Heap} {a : Addr} {vs : List Value} {x qual : Str} {params : Arguments} {body : List Stmt} {scope : Scope} {f : Addr} {fd : FuncData} (X : K.In h) (ha : h.get? a = some { cls := .type "list", data := .seq vs.toArray })
    (F : FunD K x qual params body scope [] [] f fd) : FunD (cutK K a) x qual params body scope [] [] f fd := by
  obtain ⟨⟨oc, od, dV, kV, doc, pm, an, cdv, ct, osl, e1, e2, e3, e4, e5⟩, kp⟩ := F
  have hf : f ≠ a := fun z => by
    subst z
    rw [X f _ e2] at ha
    cases ha
  refine ⟨⟨oc, od, dV, kV, doc, pm, an, cdv, ct, osl, e1, by rw [cutK_ne hf]; exact e2, ?_, ?_, .inl rfl⟩, ?_⟩
  · unfold PySem.W.codeIn at e3 ⊢
    cases cdv with
    | ref c =>
      have hc : c ≠ a := fun z => by
        subst z
        cases h1 : K.lookup c with
        | none => simp only [h1] at e3; cases e3
        | some o =>
          have := X c _ h1
          rw [ha] at this
          cases this
          simp only [h1] at e3
          cases e3
      simp only [cutK_ne hc]
      exact e3
    | _ => exact e3
  · rcases e4 with q | ⟨q, _⟩
    · exact .inl q
    · exact absurd rfl q
  · unfold PySem.W.keepIn
    simp only [cutK_ne hf, e2]
/-- what a law's def says of its script -/
theorem law_sp {K : PySem.W.Frag} {cl : CallO} {f : Str} {H : Hp} {a : Addr} {ns : List Int} (hO : Only H) (hk : K.lookup a = none) (hS : SqL K H a (ns.map V.int)) (h : ∃ S', cl f [.loc 0] [.scr ns] = .ok (.val (.bool true)) S') :
    spM K cl f 1 [.ref a] H (fun v _ => v = .bl true) fun _ _ _ => False := by
  obtain ⟨S', h⟩ := h
  obtain ⟨o, hF⟩ : ∃ o, H a = some (.frz o (.lst (ns.map V.int))) := by
    rcases hS with (hS | ⟨o, hS⟩) | ⟨o, its, n, e, _⟩
    · rcases hO a with z | ⟨o, xs, z⟩
      · rw [hS] at z; cases z
      · rw [hS] at z; cases z
    · exact ⟨o, hS⟩
    · rw [hk] at e; cases e
  refine ⟨rfl, [], [a], [.scr ns], [.loc 0], ?_, .cons (.loc rfl) .nil, ?_⟩
  · refine ⟨rfl, by simp, (fun b hb => by cases hb), (fun n o b h1 h2 => ?_), (fun n o h1 => ?_)⟩
    · cases n with
      | zero => cases h1; cases h2; exact .scr hF
      | succ n => cases h1
    · cases n with
      | zero => cases h1; rfl
      | succ n => cases h1
  · rw [h]
    intro m' H' v e s r
    cases r with
    | val r => cases r; rfl
theorem walk_my {l : PySem.W.OpenLaw} {n k : Nat} {q : Program} {loose : List Str} {XP : (Str → Option Value) → Heap → Prop} {YP : World → Heap → Prop} {d : DefRec} {x : Str} {ds : List Df} {cs : List (Str × U)} {dl : Df}
    (hn : l.most = some n) (hn2 : n ≤ sizeLine) (hdf : d.params.defaults = []) (hr : Room (k + 1) callerA) (hok : ∀ d ∈ ds, DfOk ds cs d) (hdl : dl ∈ ds) (hnm : dl.name = d.name) (hps : dl.ps = [x])
    (F : ∀ (w : World) (mg : Str → Option Value) (fa : Addr) (h : Heap), YP w h → h.Ns mainGlobals mg → mg d.name = some (.ref fa) → ∃ K : PySem.W.Frag, K.In h ∧ Mo K mg ds cs)
    (hsp : ∀ ns : List Int, ns.length ≤ n → ∃ S', runD ds k dl.name [.loc 0] [.scr ns] = .ok (.val (.bool true)) S') :
    PySem.W.WalkO q loose XP YP l.row.toRowW d [] (fun f vs => PySem.call f vs) := by
  refine Att.attach_call hn hdf fun w s₀ s₁ mg mb fa o pm cd doc a vs ns G Y ho hd hcd hmg hobj hints hlen hg => ?_
  obtain ⟨K, KX, M⟩ := F w mg fa _ Y G.T.g hmg
  have M' : Mo (cutK K a) mg ds cs := ⟨fun d hd => by
    obtain ⟨fa, fd, h1, h2⟩ := M.fn d hd
    exact ⟨fa, fd, FunD.cut KX hobj h1, h2⟩, M.bis, M.cst⟩
  obtain ⟨fa', fd, h1, h2⟩ := M'.fn dl hdl
  rw [hnm, hmg] at h2
  cases h2
  refine law_call (x := x) (sp := spM (cutK K a) (runD ds k) dl.name 1) (CX := L2.CX l.prog w) (fd := fd) (cutK_in KX) G.T.g G.T.b G.T.builtins G.T.nolimit hg hobj hints (Nat.le_trans hlen hn2) hr (fun base hb hns => ?_) (fun s u => ?_) (fun H hO hS => law_sp hO (cutK_self K) hS (hsp ns hlen)) fun H e s' z => by
    obtain ⟨_, _, _, _, _, _, _, _, _, _, _, _, h⟩ := z
    exact h
  · obtain ⟨fa2, fd2, q1, q2, q3, _⟩ := all_ok (P := l.prog) (w := w) (base := base) M' hok k dl hdl
    rw [hnm, hmg] at q3
    cases q3
    have e : fd2 = fd := by
      obtain ⟨⟨_, _, _, _, _, _, _, _, _, _, _, e2, _⟩, _⟩ := h1
      obtain ⟨⟨_, _, _, _, _, _, _, _, _, _, _, e3, _⟩, _⟩ := q2
      rw [e2] at e3
      cases e3
      rfl
    subst e
    rw [hps] at q1
    exact q1
  · have := h1.bindsA (hok dl hdl).bnd s [u] (by rw [hps]; rfl)
    rw [hps] at this
    exact this
end Rb

/-! Rb19: running a reading. -/
namespace Rb
open PySem

/-! ### small pieces, one at a time -/
def m1K (g : G1) : Out W → Out W
  | .ok x S => Out.opt (g S x) S
  | .ex x S => .ex x S
  | .bad => .bad
def m2L (g : G2) (x : W) : Out W → Out W
  | .ok y S => Out.opt (g S x y) S
  | .ex x S => .ex x S
  | .bad => .bad
def m2K (g : G2) (f2 : M) (env : Env) : Out W → Out W
  | .ok x S => m2L g x (f2 env S)
  | .ex x S => .ex x S
  | .bad => .bad
theorem x_m1 {g f env S} : m1 g f env S = m1K g (f env S) := by unfold m1; cases f env S <;> rfl
theorem x_m2 {g f1 f2 env S} : m2 g f1 f2 env S = m2K g f2 env (f1 env S) := by
  unfold m2
  cases f1 env S with
  | ok x S1 =>
    show (f2 env S1).bind _ = m2L g x (f2 env S1)
    cases f2 env S1 <;> rfl
  | _ => rfl
theorem x_m1K {g x S} : m1K g (.ok x S) = Out.opt (g S x) S := rfl
theorem x_m2K {g f2 env x S} : m2K g f2 env (.ok x S) = m2L g x (f2 env S) := rfl
theorem x_m2L {g x y S} : m2L g x (.ok y S) = Out.opt (g S x y) S := rfl
theorem x_var {i env S} : mVar i env S = Out.opt (eget env i) S := rfl
theorem x_lit {u env S} : mLit u env S = .ok (.val u) S := rfl
theorem x_g0 {w r} : eget (w :: r) 0 = w := rfl
theorem x_gs {w r n} : eget (w :: r) (n + 1) = eget r n := rfl
def mcL (w : W) : Out (List W) → Out (List W)
  | .ok ws S => .ok (w :: ws) S
  | .ex x S => .ex x S
  | .bad => .bad
def mcK (g : MA) (env : Env) : Out W → Out (List W)
  | .ok w S => mcL w (g env S)
  | .ex x S => .ex x S
  | .bad => .bad
theorem x_nil {env S} : mNil env S = .ok [] S := rfl
theorem x_cons {f g env S} : mCons f g env S = mcK g env (f env S) := by
  unfold mCons
  cases f env S with
  | ok x S1 =>
    show (g env S1).bind _ = mcL x (g env S1)
    cases g env S1 <;> rfl
  | _ => rfl
theorem x_mcK {g env w S} : mcK g env (.ok w S) = mcL w (g env S) := rfl
theorem x_mcL {w ws S} : mcL w (.ok ws S) = .ok (w :: ws) S := rfl
def mbK (g : GL) : Out (List W) → Out W
  | .ok ws S => Out.opt (g S ws) S
  | .ex x S => .ex x S
  | .bad => .bad
theorem x_bi {g f env S} : mBi g f env S = mbK g (f env S) := by unfold mBi; cases f env S <;> rfl
theorem x_mbK {g ws S} : mbK g (.ok ws S) = Out.opt (g S ws) S := rfl
def callK (cl : CallO) (f : Str) (n : Nat) : Out (List W) → Out W
  | .ok ws S => if ws.length = n then cl f ws S else .bad
  | .ex x S => .ex x S
  | .bad => .bad
theorem x_call {cl f n g env S} : mCall cl f n g env S = callK cl f n (g env S) := by unfold mCall; cases g env S <;> rfl
theorem x_callK0 {cl f S} : callK cl f 0 (.ok [] S) = cl f [] S := rfl
theorem x_callK1 {cl f S a} : callK cl f 1 (.ok [a] S) = cl f [a] S := rfl
theorem x_callK2 {cl f S a b} : callK cl f 2 (.ok [a, b] S) = cl f [a, b] S := rfl
theorem x_callK3 {cl f S a b c} : callK cl f 3 (.ok [a, b, c] S) = cl f [a, b, c] S := rfl
theorem x_callK4 {cl f S a b c d} : callK cl f 4 (.ok [a, b, c, d] S) = cl f [a, b, c, d] S := rfl
def tupK : Out (List W) → Out W
  | .ok ws S => Out.opt (if ws.length ≤ 16777216 then (allU ws).map fun us => .val (.tuple us) else none) S
  | .ex x S => .ex x S
  | .bad => .bad
theorem x_tup {g env S} : mTupOf g env S = tupK (g env S) := by unfold mTupOf; cases g env S <;> rfl
theorem x_tupK0 {S} : tupK (.ok [] S) = .ok (.val (.tuple [])) S := rfl
theorem x_tupK1 {S a} : tupK (.ok [.val a] S) = .ok (.val (.tuple [a])) S := rfl
theorem x_tupK2 {S a b} : tupK (.ok [.val a, .val b] S) = .ok (.val (.tuple [a, b])) S := rfl
theorem x_tupK3 {S a b c} : tupK (.ok [.val a, .val b, .val c] S) = .ok (.val (.tuple [a, b, c])) S := rfl
theorem x_tupK4 {S a b c d} : tupK (.ok [.val a, .val b, .val c, .val d] S) = .ok (.val (.tuple [a, b, c, d])) S := rfl
def andK (g : M) (env : Env) : Out W → Out W
  | .ok x S => (match tru S x with
    | some true => g env S
    | some false => .ok x S
    | none => .bad)
  | .ex x S => .ex x S
  | .bad => .bad
def orK (g : M) (env : Env) : Out W → Out W
  | .ok x S => (match tru S x with
    | some true => .ok x S
    | some false => g env S
    | none => .bad)
  | .ex x S => .ex x S
  | .bad => .bad
theorem x_and {f g env S} : mAnd f g env S = andK g env (f env S) := by unfold mAnd; cases f env S <;> rfl
theorem x_or {f g env S} : mOr f g env S = orK g env (f env S) := by unfold mOr; cases f env S <;> rfl
theorem x_andT {g env S} : andK g env (.ok (.val (.bool true)) S) = g env S := rfl
theorem x_andF {g env S} : andK g env (.ok (.val (.bool false)) S) = .ok (.val (.bool false)) S := rfl
theorem x_orF {g env S} : orK g env (.ok (.val (.bool false)) S) = g env S := rfl
theorem x_orT {g env S} : orK g env (.ok (.val (.bool true)) S) = .ok (.val (.bool true)) S := rfl
theorem x_andB {g env S b} : andK g env (.ok (.val (.bool b)) S) = if b = true then g env S else .ok (.val (.bool false)) S := by cases b <;> rfl
theorem x_orB {g env S b} : orK g env (.ok (.val (.bool b)) S) = if b = true then .ok (.val (.bool true)) S else g env S := by cases b <;> rfl
def iteK (f g : M) (env : Env) : Out W → Out W
  | .ok x S => (match tru S x with
    | some true => f env S
    | some false => g env S
    | none => .bad)
  | .ex x S => .ex x S
  | .bad => .bad
theorem x_ite {c f g env S} : mIte c f g env S = iteK f g env (c env S) := by unfold mIte; cases c env S <;> rfl
theorem x_iteB {f g env S b} : iteK f g env (.ok (.val (.bool b)) S) = if b = true then f env S else g env S := by cases b <;> rfl
theorem x_opt {α : Type} {a : α} {S} : Out.opt (some a) S = .ok a S := rfl
theorem x_not {S b} : gNot S (.val (.bool b)) = some (.val (.bool (!b))) := rfl
theorem x_neg {S i} : gNeg S (.val (.int i)) = some (.val (.int (-i))) := rfl
/-! chains -/
def chM (g' : G2) (fc : M) (env : Env) (y : W) (S : Store) : Option W → Out W
  | some z => (match isBl z with
    | some true => m2L g' y (fc env S)
    | some false => .ok (.val (.bool false)) S
    | none => .bad)
  | none => .bad
def chL (g g' : G2) (fc : M) (env : Env) (x : W) : Out W → Out W
  | .ok y S => chM g' fc env y S (g S x y)
  | .ex x S => .ex x S
  | .bad => .bad
def chK (g g' : G2) (fb fc : M) (env : Env) : Out W → Out W
  | .ok x S => chL g g' fc env x (fb env S)
  | .ex x S => .ex x S
  | .bad => .bad
theorem x_ch {g g' fa fb fc env S} : mChain g g' fa fb fc env S = chK g g' fb fc env (fa env S) := by
  unfold mChain
  cases fa env S with
  | ok x S1 =>
    show (fb env S1).bind _ = chL g g' fc env x (fb env S1)
    cases fb env S1 with
    | ok y S2 =>
      show (match g S2 x y with | some z => _ | none => _) = chM g' fc env y S2 (g S2 x y)
      cases g S2 x y with
      | none => rfl
      | some z =>
        show (match isBl z with | some true => _ | some false => _ | none => _) = (match isBl z with | some true => _ | some false => _ | none => _)
        cases isBl z with
        | none => rfl
        | some b =>
          cases b with
          | false => rfl
          | true => show (fc env S2).bind _ = m2L g' y (fc env S2); cases fc env S2 <;> rfl
    | _ => rfl
  | _ => rfl
theorem x_chK {g g' fb fc env x S} : chK g g' fb fc env (.ok x S) = chL g g' fc env x (fb env S) := rfl
theorem x_chL {g g' fc env x y S} : chL g g' fc env x (.ok y S) = chM g' fc env y S (g S x y) := rfl
theorem x_chM {g' fc env y S b} : chM g' fc env y S (some (.val (.bool b))) = if b = true then m2L g' y (fc env S) else .ok (.val (.bool false)) S := by cases b <;> rfl
/-! slices -/
def prtK : Out W → Out (Option Int)
  | .ok w S => (match uInt w with
    | some i => .ok (some i) S
    | none => .bad)
  | .ex x S => .ex x S
  | .bad => .bad
theorem x_no {env S} : mNo env S = .ok none S := rfl
/-! methods -/
def meL (g : GM) (x : W) : Out (List W) → Out W
  | .ok ws S => (match g S x ws with
    | some (w, S3) => .ok w S3
    | none => .bad)
  | .ex x S => .ex x S
  | .bad => .bad
def meK (T : String) (g : GM) (fa : MA) (env : Env) : Out W → Out W
  | .ok x S => if tyW S x = some T then meL g x (fa env S) else .bad
  | .ex x S => .ex x S
  | .bad => .bad
theorem x_me {T g f fa env S} : mMeth T g f fa env S = meK T g fa env (f env S) := by
  unfold mMeth
  cases f env S with
  | ok x S1 =>
    show (if tyW S1 x = some T then _ else _) = (if tyW S1 x = some T then _ else _)
    by_cases h : tyW S1 x = some T
    · rw [if_pos h, if_pos h]
      cases fa env S1 <;> rfl
    · rw [if_neg h, if_neg h]
  | _ => rfl
theorem x_meK {T g fa env x S} (h : tyW S x = some T) : meK T g fa env (.ok x S) = meL g x (fa env S) := if_pos h
theorem x_meL {g x ws S w S3} (h : g S x ws = some (w, S3)) : meL g x (.ok ws S) = .ok w S3 := by
  show (match g S x ws with | some (w, S3) => (Out.ok w S3 : Out W) | none => .bad) = _
  rw [h]
/-! new lists -/
def lstK : Out (List W) → Out (List W)
  | .ok ws S => if ws.length ≤ 16777216 then .ok ws S else .bad
  | .ex x S => .ex x S
  | .bad => .bad
theorem x_lst {g env S} : mLstD g env S = lstK (g env S) := by unfold mLstD; cases g env S <;> rfl
theorem x_lstK {ws S} (h : ws.length ≤ 16777216) : lstK (.ok ws S) = .ok ws S := if_pos h
def snK : Out (List W) → Out W
  | .ok ws S => Out.opt ((allU ws).map fun us => .val (.list us)) S
  | .ex x S => .ex x S
  | .bad => .bad
theorem x_sn {f env S} : mSnap f env S = snK (f env S) := by unfold mSnap; cases f env S <;> rfl
theorem allU_vals : ∀ us : List U, allU (us.map .val) = some us
  | [] => rfl
  | u :: us => by
    show (allU (us.map .val)).map (u :: ·) = _
    rw [allU_vals us]; rfl
theorem x_snK {us S} : snK (.ok (List.map W.val us) S) = .ok (.val (.list us)) S := by
  show Out.opt ((allU (us.map .val)).map _) S = _
  rw [allU_vals]; rfl
def bxK : Out (List W) → Out W
  | .ok ws S => (match mkO ws with
    | some o => .ok (.loc S.length) (S ++ [o])
    | none => .bad)
  | .ex x S => .ex x S
  | .bad => .bad
theorem x_bx {f env S} : mBox f env S = bxK (f env S) := by unfold mBox; cases f env S <;> rfl
theorem x_bxK {us S} : bxK (.ok (List.map W.val us) S) = .ok (.loc S.length) (S ++ [.lst us]) := by
  show (match mkO (us.map .val) with | some o => _ | none => _) = _
  unfold mkO
  rw [allU_vals]
/-! statements -/
def seqK (g : SM) : SO → SO
  | .nx env S => g env S
  | o => o
theorem x_seq {f g env S} : sSeq f g env S = seqK g (f env S) := by unfold sSeq; cases f env S <;> rfl
theorem x_seqN {g env S} : seqK g (.nx env S) = g env S := rfl
theorem x_seqR {g w S} : seqK g (.rt w S) = .rt w S := rfl
theorem x_seqX {g w S} : seqK g (.ex w S) = .ex w S := rfl
theorem x_seqB {g env S} : seqK g (.bk env S) = .bk env S := rfl
theorem x_seqC {g env S} : seqK g (.ct env S) = .ct env S := rfl
theorem x_sNil {env S} : sNil env S = .nx env S := rfl
def retK : Out W → SO
  | .ok w S => .rt w S
  | .ex x S => .ex x S
  | .bad => .bad
theorem x_ret {f env S} : sRet f env S = retK (f env S) := by unfold sRet; cases f env S <;> rfl
theorem x_retK {w S} : retK (.ok w S) = .rt w S := rfl
theorem x_retN {env S} : sRetN env S = .rt (.val .none) S := rfl
def expK (env : Env) : Out W → SO
  | .ok w S => .nx env S
  | .ex x S => .ex x S
  | .bad => .bad
theorem x_exp {f env S} : sExpr f env S = expK env (f env S) := by unfold sExpr; cases f env S <;> rfl
theorem x_expK {env w S} : expK env (.ok w S) = .nx env S := rfl
def asgK (t : Tg) (env : Env) : Out W → SO
  | .ok w S => (match asg t w env with
    | some env' => .nx env' S
    | none => .bad)
  | .ex x S => .ex x S
  | .bad => .bad
theorem x_asg {t f env S} : sAsg t f env S = asgK t env (f env S) := by unfold sAsg; cases f env S <;> rfl
theorem x_asgN {i env w S} : asgK (.nm i) env (.ok w S) = .nx (eset env i (some w)) S := rfl
theorem x_e0 {o r w} : eset (o :: r) 0 w = w :: r := rfl
theorem x_es {o r w n} : eset (o :: r) (n + 1) w = o :: eset r n w := rfl
def tstK : Out W → Out Bool
  | .ok x S => (match tru S x with
    | some b => .ok b S
    | none => .bad)
  | .ex x S => .ex x S
  | .bad => .bad
theorem x_tst {c env S} : tst c env S = tstK (c env S) := by unfold tst; cases c env S <;> rfl
theorem x_tstB {b S} : tstK (.ok (.val (.bool b)) S) = .ok b S := rfl
def ifK (f g : SM) (env : Env) : Out Bool → SO
  | .ok b S => if b = true then f env S else g env S
  | .ex x S => .ex x S
  | .bad => .bad
theorem x_if {c f g env S} : sIf c f g env S = ifK f g env (tstK (c env S)) := by
  unfold sIf
  rw [x_tst]
  cases tstK (c env S) <;> rfl
theorem x_ifT {f g env S} : ifK f g env (.ok true S) = f env S := rfl
theorem x_ifF {f g env S} : ifK f g env (.ok false S) = g env S := rfl
theorem x_ifB {f g env S b} : ifK f g env (.ok b S) = if b = true then f env S else g env S := rfl
def setL3 (x v : W) (env : Env) (o : Out W) : SO := o.st fun i S3 => match bxL S3 x, i, v with
  | some (n, us), .val (.int k), .val u => (match L2.ixN us.length k with
    | some j => .nx env (S3.set n (.lst (us.set j u)))
    | none => .bad)
  | _, _, _ => .bad
def setL2 (fi : M) (v : W) (env : Env) : Out W → SO
  | .ok x S => setL3 x v env (fi env S)
  | .ex x S => .ex x S
  | .bad => .bad
def setL1 (fo fi : M) (env : Env) : Out W → SO
  | .ok v S => setL2 fi v env (fo env S)
  | .ex x S => .ex x S
  | .bad => .bad
theorem x_set {fo fi fv env S} : sSetIx fo fi fv env S = setL1 fo fi env (fv env S) := by
  unfold sSetIx
  cases fv env S with
  | ok v S1 =>
    show (fo env S1).st _ = setL2 fi v env (fo env S1)
    cases fo env S1 with
    | ok x S2 => rfl
    | _ => rfl
  | _ => rfl
theorem x_set1 {fo fi env v S} : setL1 fo fi env (.ok v S) = setL2 fi v env (fo env S) := rfl
theorem x_set2 {fi v env x S} : setL2 fi v env (.ok x S) = setL3 x v env (fi env S) := rfl
theorem x_set3 {n : Nat} {u : U} {us : List U} {env : Env} {k : Int} {j : Nat} {S : Store} (h : S[n]? = some (.lst us)) (hk : L2.ixN us.length k = some j) : setL3 (.loc n) (.val u) env (.ok (.val (.int k)) S) = .nx env (S.set n (.lst (us.set j u))) := by
  unfold setL3
  simp only [Out.st_ok, bxL, h, hk]
/-! values -/
theorem x_addI {S i j} : gAdd S (.val (.int i)) (.val (.int j)) = some (.val (.int (i + j))) := rfl
theorem x_subI {S i j} : gSub S (.val (.int i)) (.val (.int j)) = some (.val (.int (i - j))) := rfl
theorem x_mulI {S i j} (h : okMul i j = true) : gMul S (.val (.int i)) (.val (.int j)) = some (.val (.int (i * j))) := if_pos h
theorem x_modI {S i j} (h : 0 < j) : gMod S (.val (.int i)) (.val (.int j)) = some (.val (.int (i % j))) := if_pos (decide_eq_true h)
theorem x_divI {S i j} (h : 0 < j ∧ j < 1073741824) : gDiv S (.val (.int i)) (.val (.int j)) = some (.val (.int (i / j))) := if_pos (decide_eq_true h)
theorem x_ltI {S i j} : gLt S (.val (.int i)) (.val (.int j)) = some (.val (.bool (decide (i < j)))) := rfl
theorem x_leI {S i j} : gLe S (.val (.int i)) (.val (.int j)) = some (.val (.bool (decide (i ≤ j)))) := rfl
theorem x_gtI {S i j} : gGt S (.val (.int i)) (.val (.int j)) = some (.val (.bool (decide (j < i)))) := rfl
theorem x_geI {S i j} : gGe S (.val (.int i)) (.val (.int j)) = some (.val (.bool (decide (j ≤ i)))) := rfl
theorem eqv_int (i j : Int) : PyData.eqv (.int i) (.int j) = decide (i = j) := by
  first | rfl | (simp [PyData.eqv]) | (unfold PyData.eqv; simp)
theorem eqv_bool (i j : Bool) : PyData.eqv (.bool i) (.bool j) = decide (i = j) := by
  cases i <;> cases j <;> rfl
theorem x_eqI {S i j} : gEq S (.val (.int i)) (.val (.int j)) = some (.val (.bool (decide (i = j)))) := by
  show some (W.val (.bool (PyData.eqv (.int i) (.int j)))) = _
  rw [eqv_int]
theorem x_neI {S i j} : gNe S (.val (.int i)) (.val (.int j)) = some (.val (.bool (!decide (i = j)))) := by
  show some (W.val (.bool (!PyData.eqv (.int i) (.int j)))) = _
  rw [eqv_int]
theorem x_eqB {S i j} : gEq S (.val (.bool i)) (.val (.bool j)) = some (.val (.bool (decide (i = j)))) := by
  show some (W.val (.bool (PyData.eqv (.bool i) (.bool j)))) = _
  rw [eqv_bool]
theorem x_neB {S i j} : gNe S (.val (.bool i)) (.val (.bool j)) = some (.val (.bool (!decide (i = j)))) := by
  show some (W.val (.bool (!PyData.eqv (.bool i) (.bool j)))) = _
  rw [eqv_bool]
theorem x_lenV {S us} : bLen S (.val (.tuple us)) = some (.val (.int (us.length : Nat))) := by
  show some (W.val (.int ((us.map W.val).length : Nat))) = _
  rw [List.length_map]
theorem x_lenL {S us} : bLen S (.val (.list us)) = some (.val (.int (us.length : Nat))) := by
  show some (W.val (.int ((us.map W.val).length : Nat))) = _
  rw [List.length_map]
end Rb

/-! Rb20: what the laws' own small defs do: the stream of digits. -/
namespace Rb
open PySem

theorem x_on1 {g S w} : on1 g S [w] = g S w := rfl
theorem x_on2 {g S v w} : on2 g S [v, w] = g S v w := rfl
theorem x_isi {T S u} : gIsi T S (.val u) = some (.val (.bool (isT T (tyU u)))) := rfl
/-- how a run of a def ends -/
theorem run_rt {F : Fn} {cl ws S w S'} (h : F.body cl (ws.map some ++ List.replicate (F.ns - ws.length) none) S = .rt w S') : runF F cl ws S = finW F.keep S.length w S' := by
  unfold runF; rw [h]
theorem run_nx {F : Fn} {cl ws S env S'} (h : F.body cl (ws.map some ++ List.replicate (F.ns - ws.length) none) S = .nx env S') : runF F cl ws S = finW F.keep S.length (.val .none) S' := by
  unfold runF; rw [h]
theorem fin_v {k : Bool} {n : Nat} {u : U} {S' : Store} : finW k n (.val u) S' = .ok (.val u) (S'.take n) := rfl
theorem fin_same {k : Bool} {u : U} {S' S : Store} (h : S'.length = S.length) : finW k S.length (.val u) S' = .ok (.val u) S' := by
  rw [fin_v, List.take_of_length_le (by omega)]

/-! ### the stream -/
def stO (sc : List Int) (a b : Int) : O := .lst [.list (sc.map .int), .int a, .int b]
/-- a stream stands at n -/
def StAt (S : Store) (n : Nat) : Prop := ∃ (sc : List Int) (a b : Nat), S[n]? = some (stO sc a b)
theorem x_st0 {S : Store} {n : Nat} {sc a b} (h : S[n]? = some (stO sc a b)) : gIx S (.loc n) (.val (.int 0)) = some (.val (.list (sc.map .int))) := by
  show (match (oI S[n]?), uInt (.val (.int 0)) with | some (_, ws), some i => L2.atI ws i | _, _ => none) = _
  rw [h]; rfl
theorem x_st1 {S : Store} {n : Nat} {sc a b} (h : S[n]? = some (stO sc a b)) : gIx S (.loc n) (.val (.int 1)) = some (.val (.int a)) := by
  show (match (oI S[n]?), uInt (.val (.int 1)) with | some (_, ws), some i => L2.atI ws i | _, _ => none) = _
  rw [h]; rfl
theorem x_st2 {S : Store} {n : Nat} {sc a b} (h : S[n]? = some (stO sc a b)) : gIx S (.loc n) (.val (.int 2)) = some (.val (.int b)) := by
  show (match (oI S[n]?), uInt (.val (.int 2)) with | some (_, ws), some i => L2.atI ws i | _, _ => none) = _
  rw [h]; rfl
theorem x_sw1 {S : Store} {n : Nat} {sc a b v} {env : Env} (h : S[n]? = some (stO sc a b)) : setL3 (.loc n) (.val (.int v)) env (.ok (.val (.int 1)) S) = .nx env (S.set n (stO sc v b)) :=
  x_set3 (j := 1) h rfl
theorem x_sw2 {S : Store} {n : Nat} {sc a b v} {env : Env} (h : S[n]? = some (stO sc a b)) : setL3 (.loc n) (.val (.int v)) env (.ok (.val (.int 2)) S) = .nx env (S.set n (stO sc a v)) :=
  x_set3 (j := 2) h rfl
theorem set_at {S : Store} {n : Nat} {o o' : O} (h : S[n]? = some o) : (S.set n o')[n]? = some o' := by
  have := (List.getElem?_eq_some_iff.mp h).1
  rw [List.getElem?_set_self (by omega)]
/-- an item of a list of data -/
theorem x_ixV {S : Store} {us : List U} {i : Nat} {u : U} (h : us[i]? = some u) : gIx S (.val (.list us)) (.val (.int (i : Nat))) = some (.val u) := by
  have hl := (List.getElem?_eq_some_iff.mp h).1
  show L2.atI (us.map W.val) (i : Int) = _
  unfold L2.atI
  rw [List.length_map, show L2.ixN us.length (i : Int) = some i by unfold L2.ixN; simp [hl]]
  simp [h]
theorem x_ixT {S : Store} {us : List U} {i : Nat} {u : U} (h : us[i]? = some u) : gIx S (.val (.tuple us)) (.val (.int (i : Nat))) = some (.val u) := by
  have hl := (List.getElem?_eq_some_iff.mp h).1
  show L2.atI (us.map W.val) (i : Int) = _
  unfold L2.atI
  rw [List.length_map, show L2.ixN us.length (i : Int) = some i by unfold L2.ixN; simp [hl]]
  simp [h]
def F_stream (cl : CallO) : SM :=
  (sSeq (sRet (mBox (mLstD (mCons (mBi (on1 bLst) (mCons (mVar 0) mNil)) (mCons (mLit (.int 0)) (mCons (mLit (.int 0)) mNil))))))
    sNil)
theorem stream_run {cl : CallO} {S : Store} {n : Nat} {ns : List Int} (h : S[n]? = some (.scr ns)) : runF ⟨1, 1, true, F_stream⟩ cl [.loc n] S = .ok (.loc S.length) (S ++ [stO ns 0 0]) := by
  have hb : bLst S (.loc n) = some (.val (.list (ns.map .int))) := by
    show ((oI S[n]?).bind fun p => allU p.2).map _ = _
    rw [h]
    have e := allU_vals (ns.map .int)
    rw [List.map_map] at e
    show (allU (ns.map fun i => W.val (.int i))).map _ = _
    rw [show (ns.map fun i => W.val (.int i)) = ns.map (W.val ∘ .int) from rfl, e]; rfl
  have hb2 : ∀ a b c : U, bxK (.ok [W.val a, W.val b, W.val c] S) = .ok (.loc S.length) (S ++ [.lst [a, b, c]]) := fun a b c => x_bxK (us := [a, b, c])
  rw [run_rt (w := .loc S.length) (S' := S ++ [stO ns 0 0])]
  · show (if S.length < S.length then _ else _) = _
    rw [if_neg (by simp)]
    simp [stO]
  · show F_stream cl [some (.loc n)] S = _
    unfold F_stream
    simp -implicitDefEqProofs only [x_m1, x_m2, x_m1K, x_m2K, x_m2L, x_var, x_lit, x_g0, x_gs, x_nil, x_cons, x_mcK, x_mcL, x_bi, x_mbK, x_on1, x_on2, x_call, x_callK0, x_callK1, x_callK2, x_callK3, x_callK4, x_tup, x_tupK0, x_tupK1, x_tupK2, x_tupK3, x_tupK4, x_and, x_or, x_andB, x_orB, x_ite, x_iteB, x_opt, x_not, x_neg, x_ch, x_chK, x_chL, x_chM, x_me, x_lst, x_seq, x_seqN, x_seqR, x_sNil, x_ret, x_retK, x_retN, x_exp, x_expK, x_asg, x_asgN, x_e0, x_es, x_tstB, x_if, x_ifB, x_set, x_set1, x_set2, x_addI, x_subI, x_ltI, x_leI, x_gtI, x_geI, x_eqI, x_neI, x_eqB, x_neB, x_lenV, x_lenL, x_isi, reduceIte, x_bx, hb, x_lstK (show [W.val (PyData.list (ns.map .int)), W.val (.int 0), W.val (.int 0)].length ≤ 16777216 by show 3 ≤ 16777216; decide), hb2]
    rfl
def F_next (cl : CallO) : SM :=
  (sSeq (sIf (m2 gEq (m2 gIx (mVar 0) (mLit (.int 1))) (mLit (.int 0))) (sSeq (sAsg (.nm 2) (m2 gIx (mVar 0) (mLit (.int 2))))
    (sSeq (sAsg (.nm 3) (m2 gAdd (mLit (.int 7)) (mVar 2)))
    (sSeq (sIf (m2 gLt (mVar 2) (mBi (on1 bLen) (mCons (m2 gIx (mVar 0) (mLit (.int 0))) mNil))) (sSeq (sAsg (.nm 3) (mBi (on1 bAbs) (mCons (m2 gIx (m2 gIx (mVar 0) (mLit (.int 0))) (mVar 2)) mNil)))
    sNil) sNil)
    (sSeq (sIf (m2 gLt (mVar 3) (m2 gPow (mLit (.int 10)) (mLit (.int 18)))) (sSeq (sAsg (.nm 3) (m2 gMod (mBi (on1 bInt) (mCons (m2 gAdd (m2 gAdd (m2 gMul (mVar 3) (mLit (.int 48271))) (m2 gMul (mVar 2) (mLit (.int 69621)))) (mLit (.int 11))) mNil)) (mLit (.int 2147483647))))
    (sSeq (sAsg (.nm 3) (m2 gAdd (m2 gMul (m2 gMod (mBi (on1 bInt) (mCons (m2 gAdd (m2 gMul (mVar 3) (mLit (.int 16807))) (mLit (.int 13))) mNil)) (mLit (.int 2147483647))) (mLit (.int 65537))) (mVar 3)))
    sNil)) sNil)
    (sSeq (sSetIx (mVar 0) (mLit (.int 1)) (mVar 3))
    (sSeq (sSetIx (mVar 0) (mLit (.int 2)) (m2 gAdd (mVar 2) (mLit (.int 1))))
    sNil)))))) sNil)
    (sSeq (sAsg (.nm 4) (m2 gMod (mBi (on1 bInt) (mCons (m2 gIx (mVar 0) (mLit (.int 1))) mNil)) (mVar 1)))
    (sSeq (sSetIx (mVar 0) (mLit (.int 1)) (m2 gDiv (m2 gIx (mVar 0) (mLit (.int 1))) (mVar 1)))
    (sSeq (sRet (mVar 4))
    sNil))))
theorem x_int {S i} : bInt S (.val (.int i)) = some (.val (.int i)) := rfl
theorem x_abs {S i} : bAbs S (.val (.int i)) = some (.val (.int (if i < 0 then -i else i))) := rfl
theorem x_pow {S} : gPow S (.val (.int 10)) (.val (.int 18)) = some (.val (.int 1000000000000000000)) := by rfl
theorem okMul_r {i j : Int} (h : -(2 ^ 64) < j ∧ j < 2 ^ 64) : okMul i j = true := by
  unfold okMul
  rw [decide_eq_true h, Bool.or_true]
/-- the second half: a digit is drawn from the cell -/
theorem next_end {S : Store} {n : Nat} {many : Nat} {sc : List Int} {a b : Nat} {o2 o3 : Option W} (h : S[n]? = some (stO sc a b)) (hm : 0 < many) (hm2 : many < 1073741824) :
    (sSeq (sAsg (.nm 4) (m2 gMod (mBi (on1 bInt) (mCons (m2 gIx (mVar 0) (mLit (.int 1))) mNil)) (mVar 1)))
    (sSeq (sSetIx (mVar 0) (mLit (.int 1)) (m2 gDiv (m2 gIx (mVar 0) (mLit (.int 1))) (mVar 1)))
    (sSeq (sRet (mVar 4))
    sNil))) [some (.loc n), some (.val (.int many)), o2, o3, none] S = .rt (.val (.int ((a % many : Nat) : Int))) (S.set n (stO sc ((a / many : Nat) : Int) b)) := by
  have hmod : gMod S (.val (.int (a : Int))) (.val (.int (many : Int))) = some (.val (.int ((a % many : Nat) : Int))) := by
    rw [x_modI (by omega)]; rfl
  have hdiv : gDiv S (.val (.int (a : Int))) (.val (.int (many : Int))) = some (.val (.int ((a / many : Nat) : Int))) := by
    rw [x_divI (by omega)]; rfl
  simp -implicitDefEqProofs only [x_m1, x_m2, x_m1K, x_m2K, x_m2L, x_var, x_lit, x_g0, x_gs, x_nil, x_cons, x_mcK, x_mcL, x_bi, x_mbK, x_on1, x_on2, x_call, x_callK0, x_callK1, x_callK2, x_callK3, x_callK4, x_tup, x_tupK0, x_tupK1, x_tupK2, x_tupK3, x_tupK4, x_and, x_or, x_andB, x_orB, x_ite, x_iteB, x_opt, x_not, x_neg, x_ch, x_chK, x_chL, x_chM, x_me, x_lst, x_seq, x_seqN, x_seqR, x_sNil, x_ret, x_retK, x_retN, x_exp, x_expK, x_asg, x_asgN, x_e0, x_es, x_tstB, x_if, x_ifB, x_set, x_set1, x_set2, x_addI, x_subI, x_ltI, x_leI, x_gtI, x_geI, x_eqI, x_neI, x_eqB, x_neB, x_lenV, x_lenL, x_isi, reduceIte, x_st1 h, x_int, hmod, hdiv, x_sw1 h]
structure Nk where
  T : Int
  P : Int
  k1 : Int
  k2 : Int
  k3 : Int
  k4 : Int
  k5 : Int
  k6 : Int
  thr : M
structure NkOk (c : Nk) : Prop where
  thr : ∀ env S, c.thr env S = .ok (.val (.int c.T)) S
  P : 0 < c.P
  m1 : ∀ i, okMul i c.k1 = true
  m2 : ∀ i, okMul i c.k2 = true
  m4 : ∀ i, okMul i c.k4 = true
  m6 : ∀ i, okMul i c.k6 = true
  n6 : 0 ≤ c.k6
theorem e5_3 {a b c d e w : Option W} : eset [a, b, c, d, e] 3 w = [a, b, c, w, e] := rfl
theorem mod_nat {P : Int} (h : 0 < P) (i : Int) : ∃ x : Nat, i % P = x := ⟨(i % P).toNat, (Int.toNat_of_nonneg (Int.emod_nonneg _ (by omega))).symm⟩
def eA (k : Nk) : M := (m2 gMod (mBi (on1 bInt) (mCons (m2 gAdd (m2 gAdd (m2 gMul (mVar 3) (mLit (.int k.k1))) (m2 gMul (mVar 2) (mLit (.int k.k2)))) (mLit (.int k.k3))) mNil)) (mLit (.int k.P)))
def eB (k : Nk) : M := (m2 gAdd (m2 gMul (m2 gMod (mBi (on1 bInt) (mCons (m2 gAdd (m2 gMul (mVar 3) (mLit (.int k.k4))) (mLit (.int k.k5))) mNil)) (mLit (.int k.P))) (mLit (.int k.k6))) (mVar 3))
def sC : SM := (sSeq (sSetIx (mVar 0) (mLit (.int 1)) (mVar 3))
    (sSeq (sSetIx (mVar 0) (mLit (.int 2)) (m2 gAdd (mVar 2) (mLit (.int 1))))
    sNil))
def sCell (k : Nk) : SM := (sSeq (sIf (m2 gLt (mVar 3) k.thr) (sSeq (sAsg (.nm 3) (eA k))
    (sSeq (sAsg (.nm 3) (eB k))
    sNil)) sNil)
    sC)
theorem eA_run {k : Nk} (ok : NkOk k) {S : Store} {o0 o1 o4 : Option W} {b c : Int} : ∃ x : Nat, eA k [o0, o1, some (.val (.int b)), some (.val (.int c)), o4] S = .ok (.val (.int x)) S := by
  obtain ⟨x, hx⟩ := mod_nat ok.P (c * k.k1 + b * k.k2 + k.k3)
  refine ⟨x, ?_⟩
  unfold eA
  simp -implicitDefEqProofs only [x_m2, x_m2K, x_m2L, x_var, x_lit, x_g0, x_gs, x_opt, x_bi, x_mbK, x_on1, x_cons, x_nil, x_mcK, x_mcL, x_mulI (ok.m1 _), x_mulI (ok.m2 _), x_addI, x_int, x_modI ok.P, hx]
theorem eB_run {k : Nk} (ok : NkOk k) {S : Store} {o0 o1 o2 o4 : Option W} {c : Nat} : ∃ x : Nat, eB k [o0, o1, o2, some (.val (.int c)), o4] S = .ok (.val (.int x)) S := by
  obtain ⟨x, hx⟩ := mod_nat ok.P ((c : Int) * k.k4 + k.k5)
  obtain ⟨z, hz⟩ : ∃ z : Nat, (x : Int) * k.k6 + (c : Int) = z := ⟨_, (Int.toNat_of_nonneg (Int.add_nonneg (Int.mul_nonneg (by omega) ok.n6) (by omega))).symm⟩
  refine ⟨z, ?_⟩
  unfold eB
  simp -implicitDefEqProofs only [x_m2, x_m2K, x_m2L, x_var, x_lit, x_g0, x_gs, x_opt, x_bi, x_mbK, x_on1, x_cons, x_nil, x_mcK, x_mcL, x_mulI (ok.m4 _), x_mulI (ok.m6 _), x_addI, x_int, x_modI ok.P, hx, hz]
theorem sC_run {S : Store} {n : Nat} {o1 o4 : Option W} {sc : List Int} {a c : Int} {b : Nat} (h : S[n]? = some (stO sc a b)) : sC [some (.loc n), o1, some (.val (.int (b : Nat))), some (.val (.int c)), o4] S = .nx [some (.loc n), o1, some (.val (.int (b : Nat))), some (.val (.int c)), o4] (S.set n (stO sc c ((b + 1 : Nat) : Int))) := by
  have h2 : (S.set n (stO sc c b))[n]? = some (stO sc c b) := set_at h
  have e : (b : Int) + 1 = ((b + 1 : Nat) : Int) := by omega
  unfold sC
  simp -implicitDefEqProofs only [x_seq, x_set, x_set1, x_set2, x_m2, x_m2K, x_m2L, x_var, x_lit, x_g0, x_gs, x_opt, x_addI, e, x_sw1 h, x_seqN, x_sw2 h2, List.set_set, x_sNil]
theorem sCell_run {k : Nk} (ok : NkOk k) {S : Store} {n : Nat} {o1 o4 : Option W} {sc : List Int} {a c : Int} {b : Nat} (h : S[n]? = some (stO sc a b)) (hc : 0 ≤ c) : ∃ c' : Nat, sCell k [some (.loc n), o1, some (.val (.int (b : Nat))), some (.val (.int c)), o4] S = .nx [some (.loc n), o1, some (.val (.int (b : Nat))), some (.val (.int (c' : Nat))), o4] (S.set n (stO sc c' ((b + 1 : Nat) : Int))) := by
  unfold sCell
  have ht : (m2 gLt (mVar 3) k.thr) [some (.loc n), o1, some (.val (.int (b : Nat))), some (.val (.int c)), o4] S = .ok (.val (.bool (decide (c < k.T)))) S := by
    simp -implicitDefEqProofs only [x_m2, x_m2K, x_m2L, x_var, x_lit, x_g0, x_gs, x_opt, ok.thr, x_ltI]
  by_cases hs : c < k.T
  · obtain ⟨x, hx⟩ := eA_run ok (S := S) (o0 := some (.loc n)) (o1 := o1) (o4 := o4) (b := (b : Nat)) (c := c)
    obtain ⟨y, hy⟩ := eB_run ok (S := S) (o0 := some (.loc n)) (o1 := o1) (o2 := some (.val (.int (b : Nat)))) (o4 := o4) (c := x)
    refine ⟨y, ?_⟩
    rw [decide_eq_true hs] at ht
    rw [x_seq, x_if, ht, x_tstB, x_ifT, x_seq, x_asg, hx, x_asgN, e5_3, x_seqN, x_seq, x_asg, hy, x_asgN, e5_3, x_seqN, x_sNil, x_seqN]
    exact sC_run h
  · refine ⟨c.toNat, ?_⟩
    have e : c = (c.toNat : Int) := (Int.toNat_of_nonneg hc).symm
    rw [decide_eq_false hs] at ht
    rw [x_seq, x_if, ht, x_tstB, x_ifF, x_sNil, x_seqN, ← e]
    exact sC_run h
def sBeg (k : Nk) : SM := (sSeq (sAsg (.nm 2) (m2 gIx (mVar 0) (mLit (.int 2))))
    (sSeq (sAsg (.nm 3) (m2 gAdd (mLit (.int 7)) (mVar 2)))
    (sSeq (sIf (m2 gLt (mVar 2) (mBi (on1 bLen) (mCons (m2 gIx (mVar 0) (mLit (.int 0))) mNil))) (sSeq (sAsg (.nm 3) (mBi (on1 bAbs) (mCons (m2 gIx (m2 gIx (mVar 0) (mLit (.int 0))) (mVar 2)) mNil)))
    sNil) sNil)
    (sCell k))))
theorem sBeg_run {k : Nk} (ok : NkOk k) {S : Store} {n : Nat} {o1 o2 o3 o4 : Option W} {sc : List Int} {a : Int} {b : Nat} (h : S[n]? = some (stO sc a b)) : ∃ c' : Nat, sBeg k [some (.loc n), o1, o2, o3, o4] S = .nx [some (.loc n), o1, some (.val (.int (b : Nat))), some (.val (.int (c' : Nat))), o4] (S.set n (stO sc c' ((b + 1 : Nat) : Int))) := by
  unfold sBeg
  have ht : ∀ c, (m2 gLt (mVar 2) (mBi (on1 bLen) (mCons (m2 gIx (mVar 0) (mLit (.int 0))) mNil))) [some (.loc n), o1, some (.val (.int (b : Nat))), c, o4] S = .ok (.val (.bool (decide ((b : Int) < (sc.length : Nat))))) S := by
    intro c
    simp -implicitDefEqProofs only [x_m2, x_m2K, x_m2L, x_var, x_lit, x_g0, x_gs, x_opt, x_bi, x_mbK, x_on1, x_cons, x_nil, x_mcK, x_mcL, x_st0 h, x_lenL, x_ltI, List.length_map]
  have h0 : (sAsg (.nm 2) (m2 gIx (mVar 0) (mLit (.int 2)))) [some (.loc n), o1, o2, o3, o4] S = .nx [some (.loc n), o1, some (.val (.int (b : Nat))), o3, o4] S := by
    simp -implicitDefEqProofs only [x_asg, x_m2, x_m2K, x_m2L, x_var, x_lit, x_g0, x_opt, x_st2 h, x_asgN, x_es, x_e0]
  have h1 : (sAsg (.nm 3) (m2 gAdd (mLit (.int 7)) (mVar 2))) [some (.loc n), o1, some (.val (.int (b : Nat))), o3, o4] S = .nx [some (.loc n), o1, some (.val (.int (b : Nat))), some (.val (.int (7 + (b : Int)))), o4] S := by
    simp -implicitDefEqProofs only [x_asg, x_m2, x_m2K, x_m2L, x_var, x_lit, x_g0, x_gs, x_opt, x_addI, x_asgN, x_es, x_e0]
  rw [x_seq, h0, x_seqN, x_seq, h1, x_seqN, x_seq, x_if, ht, x_tstB]
  by_cases hb : b < sc.length
  · have hx : gIx S (.val (.list (sc.map .int))) (.val (.int (b : Nat))) = some (.val (.int sc[b])) := x_ixV (by simp [hb])
    have h3 : (sAsg (.nm 3) (mBi (on1 bAbs) (mCons (m2 gIx (m2 gIx (mVar 0) (mLit (.int 0))) (mVar 2)) mNil))) [some (.loc n), o1, some (.val (.int (b : Nat))), some (.val (.int (7 + (b : Int)))), o4] S = .nx [some (.loc n), o1, some (.val (.int (b : Nat))), some (.val (.int (if sc[b] < 0 then -sc[b] else sc[b]))), o4] S := by
      simp -implicitDefEqProofs only [x_asg, x_m2, x_m2K, x_m2L, x_var, x_lit, x_g0, x_gs, x_opt, x_bi, x_mbK, x_on1, x_cons, x_nil, x_mcK, x_mcL, x_st0 h, hx, x_abs, x_asgN, x_es, x_e0]
    obtain ⟨c', hc⟩ := sCell_run ok (o1 := o1) (o4 := o4) (c := if sc[b] < 0 then -sc[b] else sc[b]) h (by split <;> omega)
    refine ⟨c', ?_⟩
    rw [decide_eq_true (show ((b : Nat) : Int) < (sc.length : Nat) by omega), x_ifT, x_seq, h3, x_seqN, x_sNil, x_seqN]
    exact hc
  · obtain ⟨c', hc⟩ := sCell_run ok (o1 := o1) (o4 := o4) (c := 7 + (b : Int)) h (by omega)
    refine ⟨c', ?_⟩
    rw [decide_eq_false (show ¬ ((b : Nat) : Int) < (sc.length : Nat) by omega), x_ifF, x_sNil, x_seqN]
    exact hc
def sEnd : SM := (sSeq (sAsg (.nm 4) (m2 gMod (mBi (on1 bInt) (mCons (m2 gIx (mVar 0) (mLit (.int 1))) mNil)) (mVar 1)))
    (sSeq (sSetIx (mVar 0) (mLit (.int 1)) (m2 gDiv (m2 gIx (mVar 0) (mLit (.int 1))) (mVar 1)))
    (sSeq (sRet (mVar 4))
    sNil)))
def F_nextG (k : Nk) (cl : CallO) : SM := (sSeq (sIf (m2 gEq (m2 gIx (mVar 0) (mLit (.int 1))) (mLit (.int 0))) (sBeg k) sNil) sEnd)
theorem next_runG {k : Nk} (ok : NkOk k) {cl : CallO} {S : Store} {n : Nat} {many : Nat} (h : StAt S n) (hm : 0 < many) (hm2 : many < 1073741824) :
    ∃ (d : Nat) (sc : List Int) (a b : Nat), runF ⟨2, 5, false, F_nextG k⟩ cl [.loc n, .val (.int many)] S = .ok (.val (.int (d : Nat))) (S.set n (stO sc a b)) ∧ d < many := by
  obtain ⟨sc, a, b, h⟩ := h
  have ht : ∀ o2 o3 o4 : Option W, (m2 gEq (m2 gIx (mVar 0) (mLit (.int 1))) (mLit (.int 0))) [some (.loc n), some (.val (.int many)), o2, o3, o4] S = .ok (.val (.bool (decide ((a : Int) = 0)))) S := by
    intro o2 o3 o4
    simp -implicitDefEqProofs only [x_m2, x_m2K, x_m2L, x_var, x_lit, x_g0, x_opt, x_st1 h, x_eqI]
  by_cases ha : a = 0
  · obtain ⟨c', hc⟩ := sBeg_run ok (o1 := some (.val (.int many))) (o2 := none) (o3 := none) (o4 := none) h
    refine ⟨c' % many, sc, c' / many, b + 1, ?_, Nat.mod_lt _ hm⟩
    rw [run_rt (w := .val (.int ((c' % many : Nat) : Int))) (S' := S.set n (stO sc ((c' / many : Nat) : Int) ((b + 1 : Nat) : Int)))]
    · exact fin_same (by simp)
    · show F_nextG k cl [some (.loc n), some (.val (.int many)), none, none, none] S = _
      unfold F_nextG
      rw [x_seq, x_if, ht, x_tstB, decide_eq_true (show (a : Int) = 0 by omega), x_ifT]
      rw [hc, x_seqN]
      unfold sEnd
      rw [next_end (set_at h) hm hm2, List.set_set]
  · refine ⟨a % many, sc, a / many, b, ?_, Nat.mod_lt _ hm⟩
    rw [run_rt (w := .val (.int ((a % many : Nat) : Int))) (S' := S.set n (stO sc ((a / many : Nat) : Int) (b : Int)))]
    · exact fin_same (by simp)
    · show F_nextG k cl [some (.loc n), some (.val (.int many)), none, none, none] S = _
      unfold F_nextG
      rw [x_seq, x_if, ht, x_tstB, decide_eq_false (show ¬ (a : Int) = 0 by omega), x_ifF]
      rw [x_sNil, x_seqN]
      unfold sEnd
      rw [next_end h hm hm2]
def nk : Nk := ⟨1000000000000000000, 2147483647, 48271, 69621, 11, 16807, 13, 65537, m2 gPow (mLit (.int 10)) (mLit (.int 18))⟩
theorem nk_ok : NkOk nk where
  thr := fun env S => by
    show m2 gPow (mLit (.int 10)) (mLit (.int 18)) env S = .ok (.val (.int 1000000000000000000)) S
    rw [x_m2, x_lit, x_m2K, x_lit, x_m2L, x_pow, x_opt]
  P := by decide
  m1 := fun i => okMul_r (by decide)
  m2 := fun i => okMul_r (by decide)
  m4 := fun i => okMul_r (by decide)
  m6 := fun i => okMul_r (by decide)
  n6 := by decide
theorem next_run {cl : CallO} {S : Store} {n : Nat} {many : Nat} (h : StAt S n) (hm : 0 < many) (hm2 : many < 1073741824) :
    ∃ (d : Nat) (sc : List Int) (a b : Nat), runF ⟨2, 5, false, F_next⟩ cl [.loc n, .val (.int many)] S = .ok (.val (.int (d : Nat))) (S.set n (stO sc a b)) ∧ d < many :=
  next_runG nk_ok h hm hm2
end Rb

/-! Rb21: loops and comprehensions as plain recursion; equality of the laws. -/
namespace Rb
open PySem

/-! ### ranges -/
theorem okR_n {n : Nat} (hn : n < 1000000) : okR (n : Int) = true := by unfold okR; exact decide_eq_true (by omega)
theorem r1_i {g : MA} {env : Env} {S S1 : Store} {i : Int} (h : g env S = .ok [.val (.int i)] S1) (e : okR i = true) : itR1 g env S = .ok (.fix (rgW 0 i.toNat)) S1 := by
  unfold itR1
  rw [h, Out.bind_ok]
  exact if_pos e
theorem r2_i {g : MA} {env : Env} {S S1 : Store} {i j : Int} (h : g env S = .ok [.val (.int i), .val (.int j)] S1) (e : okR i = true) (e' : okR j = true) : itR2 g env S = .ok (.fix (rgW i (j - i).toNat)) S1 := by
  unfold itR2
  rw [h, Out.bind_ok]
  exact if_pos (by rw [e, e']; rfl)
theorem x_r1 {g : MA} {env : Env} {S S1 : Store} {n : Nat} (h : g env S = .ok [.val (.int (n : Nat))] S1) (hn : n < 1000000) : itR1 g env S = .ok (.fix (rgW 0 n)) S1 := by
  have q := r1_i h (okR_n hn)
  rw [Int.toNat_natCast] at q
  exact q
theorem x_r2 {g : MA} {env : Env} {S S1 : Store} {a n : Nat} (h : g env S = .ok [.val (.int (a : Nat)), .val (.int (n : Nat))] S1) (ha : a < 1000000) (hn : n < 1000000) : itR2 g env S = .ok (.fix (rgW a (n - a))) S1 := by
  have q := r2_i h (okR_n ha) (okR_n hn)
  rw [show ((n : Int) - (a : Int)).toNat = n - a by omega] at q
  exact q
theorem rgW_nat (a n : Nat) : rgW a n = ((List.range n).map fun i => W.val (.int ((a + i : Nat) : Int))) := by
  unfold rgW
  exact List.map_congr_left fun i _ => by rw [Int.natCast_add]
theorem rgW_0 (n : Nat) : rgW 0 n = ((List.range n).map fun i => W.val (.int (i : Nat))) := by
  have := rgW_nat 0 n
  simpa using this
/-! ### comprehensions -/
theorem comp_fix {own : List Nat} {it : MI} {tg : Tg} {c : Option M} {elt : M} {env : Env} {S S1 S2 : Store} {ws us : List W} (h1 : it env S = .ok (.fix ws) S1) (h2 : compL tg c elt (wipeE env own) ws S1 = .ok us S2) (hz : us.length ≤ 16777216) : mComp own it tg c elt env S = .ok us S2 := by
  unfold mComp
  rw [h1]
  show (noEx (compL tg c elt (wipeE env own) ws S1)).bind _ = _
  rw [h2]
  show (if us.length ≤ 16777216 then Out.ok us S2 else .bad) = _
  rw [if_pos hz]
theorem comp_live {own : List Nat} {it : MI} {tg : Tg} {c : Option M} {elt : M} {env : Env} {S S1 S2 : Store} {n : Nat} {us : List W} (h1 : it env S = .ok (.live n) S1) (h2 : compV tg c elt (wipeE env own) n 100000 0 S1 = .ok us S2) (hz : us.length ≤ 16777216) : mComp own it tg c elt env S = .ok us S2 := by
  unfold mComp
  rw [h1]
  show (noEx (compV tg c elt (wipeE env own) n 100000 0 S1)).bind _ = _
  rw [h2]
  show (if us.length ≤ 16777216 then Out.ok us S2 else .bad) = _
  rw [if_pos hz]
theorem step_map {tg : Tg} {elt : M} {env env1 : Env} {w u : W} {S S1 : Store} {k : Store → Out (List W)} (h1 : asg tg w env = some env1) (h2 : elt env1 S = .ok u S1) : compStep tg none elt env w S k = (k S1).bind fun us S3 => .ok (u :: us) S3 := by
  unfold compStep
  rw [h1]
  show (noEx (elt env1 S)).bind _ = _
  rw [h2]; rfl
theorem step_if {tg : Tg} {c elt : M} {env env1 : Env} {w : W} {S S1 : Store} {b : Bool} {k : Store → Out (List W)} (h1 : asg tg w env = some env1) (h2 : c env1 S = .ok (.val (.bool b)) S1) : compStep tg (some c) elt env w S k = if b = true then (noEx (elt env1 S1)).bind fun u S2 => (k S2).bind fun us S3 => .ok (u :: us) S3 else k S1 := by
  unfold compStep
  rw [h1]
  show (noEx (tst c env1 S)).bind _ = _
  rw [x_tst, h2]; rfl
theorem compL_map {tg : Tg} {elt : M} {env : Env} {S : Store} (g : W → W) : ∀ {ws : List W}, (∀ w ∈ ws, ∃ env1, asg tg w env = some env1 ∧ elt env1 S = .ok (g w) S) → compL tg none elt env ws S = .ok (ws.map g) S
  | [], _ => rfl
  | w :: ws, h => by
    obtain ⟨env1, h1, h2⟩ := h w List.mem_cons_self
    show compStep tg none elt env w S (compL tg none elt env ws) = _
    rw [step_map h1 h2, compL_map g fun w hw => h w (List.mem_cons_of_mem _ hw)]
    rfl
theorem compL_filt {tg : Tg} {c elt : M} {env : Env} {S : Store} (p : W → Bool) (g : W → W) : ∀ {ws : List W}, (∀ w ∈ ws, ∃ env1, asg tg w env = some env1 ∧ c env1 S = .ok (.val (.bool (p w))) S ∧ (p w = true → elt env1 S = .ok (g w) S)) → compL tg (some c) elt env ws S = .ok ((ws.filter p).map g) S
  | [], _ => rfl
  | w :: ws, h => by
    obtain ⟨env1, h1, h2, h3⟩ := h w List.mem_cons_self
    show compStep tg (some c) elt env w S (compL tg (some c) elt env ws) = _
    rw [step_if h1 h2, List.filter_cons]
    by_cases hp : p w = true
    · rw [if_pos hp, if_pos hp, h3 hp]
      show ((compL tg (some c) elt env ws S).bind _) = _
      rw [compL_filt p g fun w hw => h w (List.mem_cons_of_mem _ hw)]
      rfl
    · rw [if_neg hp, if_neg hp]
      exact compL_filt p g fun w hw => h w (List.mem_cons_of_mem _ hw)
theorem compV_map {tg : Tg} {elt : M} {env : Env} {S : Store} {n : Nat} {b : Bool} {ws : List W} (g : W → W) (hS : oI S[n]? = some (b, ws)) (h : ∀ w ∈ ws, ∃ env1, asg tg w env = some env1 ∧ elt env1 S = .ok (g w) S) : ∀ {f i : Nat}, ws.length - i < f → compV tg none elt env n f i S = .ok ((ws.drop i).map g) S
  | 0, i, hf => by omega
  | f + 1, i, hf => by
    have hn : nextW (.live n) i S = some ws[i]? := by
      show (oI S[n]?).map _ = _
      rw [hS]; rfl
    unfold compV
    rw [hn]
    by_cases hi : i < ws.length
    · rw [List.getElem?_eq_getElem hi]
      obtain ⟨env1, h1, h2⟩ := h ws[i] (List.getElem_mem hi)
      show compStep tg none elt env ws[i] S (compV tg none elt env n f (i + 1)) = _
      rw [step_map h1 h2, compV_map g hS h (by omega), List.drop_eq_getElem_cons hi]
      rfl
    · rw [List.getElem?_eq_none (by omega), List.drop_eq_nil_of_le (by omega)]
      rfl
/-- a comprehension that changes the store -/
theorem compL_inv {tg : Tg} {elt : M} {env : Env} {I : List W → Store → Prop} {ws : List W} (h : ∀ (i : Nat) (w : W) (us : List W) (S : Store), ws[i]? = some w → us.length = i → I us S → ∃ env1 u S1, asg tg w env = some env1 ∧ elt env1 S = .ok u S1 ∧ I (us ++ [u]) S1) :
    ∀ (i : Nat) (us : List W) (S : Store), i ≤ ws.length → us.length = i → I us S → ∃ us' S', compL tg none elt env (ws.drop i) S = .ok us' S' ∧ us'.length = ws.length - i ∧ I (us ++ us') S' := by
  intro i
  generalize hk : ws.length - i = k
  induction k generalizing i with
  | zero =>
    intro us S hi hl hI
    rw [List.drop_eq_nil_of_le (by omega)]
    exact ⟨[], S, rfl, rfl, by rw [List.append_nil]; exact hI⟩
  | succ k ih =>
    intro us S hi hl hI
    have hlt : i < ws.length := by omega
    obtain ⟨env1, u, S1, h1, h2, h3⟩ := h i ws[i] us S (List.getElem?_eq_getElem hlt) hl hI
    obtain ⟨us', S', q1, q2, q3⟩ := ih (i + 1) (by omega) (us ++ [u]) S1 (by omega) (by simp [hl]) h3
    refine ⟨u :: us', S', ?_, by simp [q2], by rw [List.append_assoc] at q3; exact q3⟩
    rw [List.drop_eq_getElem_cons hlt]
    show compStep tg none elt env ws[i] S (compL tg none elt env (ws.drop (i + 1))) = _
    rw [step_map h1 h2, q1]; rfl
theorem compL_invF {tg : Tg} {c elt : M} {env : Env} {I : Store → Prop} {Q : W → Prop} : ∀ {ws : List W}, (∀ w ∈ ws, ∀ S, I S → ∃ env1 b S1, asg tg w env = some env1 ∧ c env1 S = .ok (.val (.bool b)) S1 ∧ (b = false → I S1) ∧ (b = true → ∃ u S2, elt env1 S1 = .ok u S2 ∧ I S2 ∧ Q u)) →
    ∀ {S}, I S → ∃ us S', compL tg (some c) elt env ws S = .ok us S' ∧ I S' ∧ us.length ≤ ws.length ∧ ∀ u ∈ us, Q u
  | [], h, S, hI => ⟨[], S, rfl, hI, Nat.le_refl _, (fun _ h => by cases h)⟩
  | w :: ws, h, S, hI => by
    obtain ⟨env1, b, S1, h1, h2, h3, h4⟩ := h w List.mem_cons_self S hI
    have ih := fun {S} => compL_invF (tg := tg) (c := c) (elt := elt) (env := env) (I := I) (Q := Q) (ws := ws) (fun w hw => h w (List.mem_cons_of_mem _ hw)) (S := S)
    have e : compL tg (some c) elt env (w :: ws) S = compStep tg (some c) elt env w S (compL tg (some c) elt env ws) := rfl
    cases b with
    | false =>
      obtain ⟨us, S', q1, q2, q3, q4⟩ := ih (h3 rfl)
      refine ⟨us, S', ?_, q2, by simp -implicitDefEqProofs only [List.length_cons]; omega, q4⟩
      rw [e, step_if h1 h2, if_neg (by decide)]
      exact q1
    | true =>
      obtain ⟨u, S2, k1, k2, k3⟩ := h4 rfl
      obtain ⟨us, S', q1, q2, q3, q4⟩ := ih k2
      refine ⟨u :: us, S', ?_, q2, by simp -implicitDefEqProofs only [List.length_cons]; omega, fun v hv => ?_⟩
      · rw [e, step_if h1 h2, if_pos rfl, k1]
        show ((compL tg (some c) elt env ws S2).bind _) = _
        rw [q1]; rfl
      · rcases List.mem_cons.mp hv with z | z
        · rw [z]; exact k3
        · exact q4 v z
/-! ### for -/
theorem turn_nx {env env2 : Env} {S S2 : Store} {k : Env → Store → SO} (h : okE S.length (keepE env env2) = true) : turnEnd env S (.nx env2 S2) k = k (keepE env env2) (S2.take S.length) := if_pos h
theorem forL_inv {tg : Tg} {body : SM} {I : Nat → Env → Store → Prop} {ws : List W} (h : ∀ (i : Nat) (w : W) (env : Env) (S : Store), ws[i]? = some w → I i env S → ∃ env1 env2 S2, asg tg w env = some env1 ∧ body env1 S = .nx env2 S2 ∧ okE S.length (keepE env env2) = true ∧ I (i + 1) (keepE env env2) (S2.take S.length)) :
    ∀ (i : Nat) (env : Env) (S : Store), i ≤ ws.length → I i env S → ∃ env' S', forL tg body (ws.drop i) env S = .nx env' S' ∧ I ws.length env' S' := by
  intro i
  generalize hk : ws.length - i = k
  induction k generalizing i with
  | zero =>
    intro env S hi hI
    rw [List.drop_eq_nil_of_le (by omega)]
    exact ⟨env, S, rfl, by rw [show ws.length = i by omega]; exact hI⟩
  | succ k ih =>
    intro env S hi hI
    have hlt : i < ws.length := by omega
    obtain ⟨env1, env2, S2, h1, h2, h3, h4⟩ := h i ws[i] env S (List.getElem?_eq_getElem hlt) hI
    obtain ⟨env', S', q1, q2⟩ := ih (i + 1) (by omega) _ _ (by omega) h4
    refine ⟨env', S', ?_, q2⟩
    rw [List.drop_eq_getElem_cons hlt]
    show forStep tg body env ws[i] S (forL tg body (ws.drop (i + 1))) = _
    unfold forStep
    rw [h1]
    show turnEnd env S (body env1 S) _ = _
    rw [h2, turn_nx h3, q1]
theorem x_for {it : MI} {tg : Tg} {body : SM} {env : Env} {S S1 : Store} {ws : List W} (h : it env S = .ok (.fix ws) S1) : sFor it tg body env S = forL tg body ws env S1 := by
  unfold sFor
  rw [h]; rfl
theorem for_inv {it : MI} {tg : Tg} {body : SM} {env : Env} {S S1 : Store} {ws : List W} (I : Nat → Env → Store → Prop) (hi : it env S = .ok (.fix ws) S1) (h0 : I 0 env S1)
    (h : ∀ (i : Nat) (w : W) (env : Env) (S : Store), ws[i]? = some w → I i env S → ∃ env1 env2 S2, asg tg w env = some env1 ∧ body env1 S = .nx env2 S2 ∧ okE S.length (keepE env env2) = true ∧ I (i + 1) (keepE env env2) (S2.take S.length)) :
    ∃ env' S', sFor it tg body env S = .nx env' S' ∧ I ws.length env' S' := by
  rw [x_for hi]
  have := forL_inv h 0 env S1 (Nat.zero_le _) h0
  rwa [List.drop_zero] at this
/-! ### booleans -/
theorem bls_true : ∀ n : Nat, blsU (List.replicate n (.bool true)) = some (List.replicate n true)
  | 0 => rfl
  | n + 1 => by
    rw [List.replicate_succ]
    show (blsU _).map _ = _
    rw [bls_true n]; rfl
theorem bls_map (bs : List Bool) : blsU (bs.map .bool) = some bs := by
  induction bs with
  | nil => rfl
  | cons b bs ih =>
    show (blsU (bs.map .bool)).map _ = _
    rw [ih]; rfl
theorem x_all {S : Store} (bs : List Bool) : bAll S (.val (.list (bs.map .bool))) = some (.val (.bool (bs.all id))) := by
  show (blsU (bs.map .bool)).map _ = _
  rw [bls_map]; rfl
/-! ### a law's equality -/
inductive Nice : Nat → U → Prop
  | non {d : Nat} : Nice (d + 1) .none
  | bl {d : Nat} (b : Bool) : Nice (d + 1) (.bool b)
  | int {d : Nat} (i : Int) : Nice (d + 1) (.int i)
  | tup {d : Nat} {us : List U} : us.length < 100000 → (∀ u ∈ us, Nice d u) → Nice (d + 1) (.tuple us)
  | lst {d : Nat} {us : List U} : us.length < 100000 → (∀ u ∈ us, Nice d u) → Nice (d + 1) (.list us)
def F_isint (cl : CallO) : SM :=
  (sSeq (sRet (mAnd (m1 (gIsi "int") (mVar 0)) (m1 gNot (m1 (gIsi "bool") (mVar 0)))))
    sNil)
theorem isint_int {cl : CallO} {S : Store} {i : Int} : runF ⟨1, 1, false, F_isint⟩ cl [.val (.int i)] S = .ok (.val (.bool true)) S := by
  rw [run_rt (w := .val (.bool true)) (S' := S)]
  · exact fin_same rfl
  · show F_isint cl [some (.val (.int i))] S = _
    unfold F_isint
    simp -implicitDefEqProofs only [x_m1, x_m2, x_m1K, x_m2K, x_m2L, x_var, x_lit, x_g0, x_gs, x_nil, x_cons, x_mcK, x_mcL, x_bi, x_mbK, x_on1, x_on2, x_call, x_callK0, x_callK1, x_callK2, x_callK3, x_callK4, x_tup, x_tupK0, x_tupK1, x_tupK2, x_tupK3, x_tupK4, x_and, x_or, x_andB, x_orB, x_ite, x_iteB, x_opt, x_not, x_neg, x_ch, x_chK, x_chL, x_chM, x_me, x_lst, x_seq, x_seqN, x_seqR, x_sNil, x_ret, x_retK, x_retN, x_exp, x_expK, x_asg, x_asgN, x_e0, x_es, x_tstB, x_if, x_ifB, x_set, x_set1, x_set2, x_addI, x_subI, x_ltI, x_leI, x_gtI, x_geI, x_eqI, x_neI, x_eqB, x_neB, x_lenV, x_lenL, x_isi, reduceIte]
    rfl
def F_equal (cl : CallO) : SM :=
  (sSeq (sIf (m2 gIs (mVar 1) (mLit .none)) (sSeq (sRet (m2 gIs (mVar 0) (mLit .none)))
    sNil) sNil)
    (sSeq (sIf (m1 (gIsi "bool") (mVar 1)) (sSeq (sRet (mAnd (m1 (gIsi "bool") (mVar 0)) (m2 gEq (mVar 0) (mVar 1))))
    sNil) sNil)
    (sSeq (sIf (m1 (gIsi "int") (mVar 1)) (sSeq (sRet (mAnd (mCall cl "_law_is_integer" 1 (mCons (mVar 0) mNil)) (m2 gEq (mVar 0) (mVar 1))))
    sNil) sNil)
    (sSeq (sIf (m1 (gIsi "str") (mVar 1)) (sSeq (sRet (mAnd (m1 (gIsi "str") (mVar 0)) (m2 gEq (mVar 0) (mVar 1))))
    sNil) sNil)
    (sSeq (sIf (mAnd (m1 (gIsi "tuple") (mVar 1)) (m1 gNot (m1 (gIsi "tuple") (mVar 0)))) (sSeq (sRet (mLit (.bool false)))
    sNil) sNil)
    (sSeq (sIf (mAnd (m1 (gIsi "list") (mVar 1)) (m1 gNot (m1 (gIsi "list") (mVar 0)))) (sSeq (sRet (mLit (.bool false)))
    sNil) sNil)
    (sSeq (sIf (m2 gNe (mBi (on1 bLen) (mCons (mVar 0) mNil)) (mBi (on1 bLen) (mCons (mVar 1) mNil))) (sSeq (sRet (mLit (.bool false)))
    sNil) sNil)
    (sSeq (sRet (mBi (on1 bAll) (mCons (mSnap (mComp [2] (itR1 (mCons (mBi (on1 bLen) (mCons (mVar 1) mNil)) mNil)) (.nm 2) none (mCall cl "_law_equal" 2 (mCons (m2 gIx (mVar 0) (mVar 2)) (mCons (m2 gIx (mVar 1) (mVar 2)) mNil))))) mNil)))
    sNil))))))))
def isTy (T : String) (u : U) : Bool := isT T (tyU u)
/-- the last row of _law_equal, u a sequence -/
theorem equal_seq {cl : CallO} {d : Nat} {u : U} {us : List U} {S : Store} (hu : u = .tuple us ∨ u = .list us) (hl : us.length < 100000) (ih : ∀ v ∈ us, ∀ S, cl "_law_equal" [.val v, .val v] S = .ok (.val (.bool true)) S) :
    (sSeq (sRet (mBi (on1 bAll) (mCons (mSnap (mComp [2] (itR1 (mCons (mBi (on1 bLen) (mCons (mVar 1) mNil)) mNil)) (.nm 2) none (mCall cl "_law_equal" 2 (mCons (m2 gIx (mVar 0) (mVar 2)) (mCons (m2 gIx (mVar 1) (mVar 2)) mNil))))) mNil)))
    sNil) [some (.val u), some (.val u), none] S = .rt (.val (.bool true)) S := by
  have hlen : bLen S (.val u) = some (.val (.int (us.length : Nat))) := by rcases hu with rfl | rfl <;> simp -implicitDefEqProofs only [x_lenV, x_lenL]
  have hix : ∀ i v, us[i]? = some v → gIx S (.val u) (.val (.int (i : Nat))) = some (.val v) := fun i v h => by
    rcases hu with rfl | rfl
    · exact x_ixT h
    · exact x_ixV h
  have hr : itR1 (mCons (mBi (on1 bLen) (mCons (mVar 1) mNil)) mNil) [some (.val u), some (.val u), none] S = .ok (.fix (rgW 0 us.length)) S := x_r1 (by simp -implicitDefEqProofs only [x_m1, x_m2, x_m1K, x_m2K, x_m2L, x_var, x_lit, x_g0, x_gs, x_nil, x_cons, x_mcK, x_mcL, x_bi, x_mbK, x_on1, x_on2, x_call, x_callK0, x_callK1, x_callK2, x_callK3, x_callK4, x_tup, x_tupK0, x_tupK1, x_tupK2, x_tupK3, x_tupK4, x_and, x_or, x_andB, x_orB, x_ite, x_iteB, x_opt, x_not, x_neg, x_ch, x_chK, x_chL, x_chM, x_me, x_lst, x_seq, x_seqN, x_seqR, x_sNil, x_ret, x_retK, x_retN, x_exp, x_expK, x_asg, x_asgN, x_e0, x_es, x_tstB, x_if, x_ifB, x_set, x_set1, x_set2, x_addI, x_subI, x_ltI, x_leI, x_gtI, x_geI, x_eqI, x_neI, x_eqB, x_neB, x_lenV, x_lenL, x_isi, reduceIte, hlen]) (by omega)
  have hc : compL (.nm 2) none (mCall cl "_law_equal" 2 (mCons (m2 gIx (mVar 0) (mVar 2)) (mCons (m2 gIx (mVar 1) (mVar 2)) mNil))) [some (.val u), some (.val u), none] (rgW 0 us.length) S = .ok ((rgW 0 us.length).map fun _ => .val (.bool true)) S := by
    refine compL_map (fun _ => .val (.bool true)) fun w hw => ?_
    rw [rgW_0] at hw
    obtain ⟨i, hi, rfl⟩ := List.mem_map.mp hw
    have hi := List.mem_range.mp hi
    refine ⟨_, rfl, ?_⟩
    have hx := hix i us[i] (List.getElem?_eq_getElem hi)
    simp -implicitDefEqProofs only [x_es, x_e0, x_m1, x_m2, x_m1K, x_m2K, x_m2L, x_var, x_lit, x_g0, x_gs, x_nil, x_cons, x_mcK, x_mcL, x_bi, x_mbK, x_on1, x_on2, x_call, x_callK0, x_callK1, x_callK2, x_callK3, x_callK4, x_tup, x_tupK0, x_tupK1, x_tupK2, x_tupK3, x_tupK4, x_and, x_or, x_andB, x_orB, x_ite, x_iteB, x_opt, x_not, x_neg, x_ch, x_chK, x_chL, x_chM, x_me, x_lst, x_seq, x_seqN, x_seqR, x_sNil, x_ret, x_retK, x_retN, x_exp, x_expK, x_asg, x_asgN, x_e0, x_es, x_tstB, x_if, x_ifB, x_set, x_set1, x_set2, x_addI, x_subI, x_ltI, x_leI, x_gtI, x_geI, x_eqI, x_neI, x_eqB, x_neB, x_lenV, x_lenL, x_isi, reduceIte, hx]
    exact ih _ (List.getElem_mem hi) S
  have hm : mComp [2] (itR1 (mCons (mBi (on1 bLen) (mCons (mVar 1) mNil)) mNil)) (.nm 2) none (mCall cl "_law_equal" 2 (mCons (m2 gIx (mVar 0) (mVar 2)) (mCons (m2 gIx (mVar 1) (mVar 2)) mNil))) [some (.val u), some (.val u), none] S = .ok (List.map W.val ((List.replicate us.length true).map .bool)) S := by
    rw [comp_fix hr hc (by rw [rgW_0]; simp; omega)]
    congr 1
    rw [rgW_0, List.map_map, List.map_map, List.map_replicate]
    exact List.ext_getElem (by simp) fun i h1 h2 => by simp
  simp -implicitDefEqProofs only [x_seq, x_ret, x_bi, x_cons, x_sn, hm, x_snK, x_mcK, x_nil, x_mcL, x_mbK, x_on1, x_all, x_opt, x_retK, x_seqR]
  congr 2
  simp
theorem equal_self {cl : CallO} {d : Nat} (hint : ∀ i S, cl "_law_is_integer" [.val (.int i)] S = .ok (.val (.bool true)) S) (ih : ∀ u, Nice d u → ∀ S, cl "_law_equal" [.val u, .val u] S = .ok (.val (.bool true)) S) {u : U} (h : Nice (d + 1) u) {S : Store} :
    runF ⟨2, 3, false, F_equal⟩ cl [.val u, .val u] S = .ok (.val (.bool true)) S := by
  rw [run_rt (w := .val (.bool true)) (S' := S)]
  · exact fin_same rfl
  · show F_equal cl [some (.val u), some (.val u), none] S = _
    have hi : ∀ T u, gIsi T S (.val u) = some (.val (.bool (isTy T u))) := fun _ _ => rfl
    unfold F_equal
    cases h with
    | non => rfl
    | bl b =>
      have e1 : isTy "bool" (.bool b) = true := rfl
      have e0 : gIs S (.val (.bool b)) (.val .none) = some (.val (.bool false)) := rfl
      rw [x_seq, x_if, x_m2, x_var, x_gs, x_g0, x_opt, x_m2K, x_lit, x_m2L, e0, x_opt, x_tstB, x_ifF, x_sNil, x_seqN, x_seq, x_if, x_m1, x_var, x_gs, x_g0, x_opt, x_m1K, hi, e1, x_opt, x_tstB, x_ifT]
      simp -implicitDefEqProofs only [x_m1, x_m2, x_m1K, x_m2K, x_m2L, x_var, x_lit, x_g0, x_gs, x_nil, x_cons, x_mcK, x_mcL, x_bi, x_mbK, x_on1, x_on2, x_call, x_callK0, x_callK1, x_callK2, x_callK3, x_callK4, x_tup, x_tupK0, x_tupK1, x_tupK2, x_tupK3, x_tupK4, x_and, x_or, x_andB, x_orB, x_ite, x_iteB, x_opt, x_not, x_neg, x_ch, x_chK, x_chL, x_chM, x_me, x_lst, x_seq, x_seqN, x_seqR, x_sNil, x_ret, x_retK, x_retN, x_exp, x_expK, x_asg, x_asgN, x_e0, x_es, x_tstB, x_if, x_ifB, x_set, x_set1, x_set2, x_addI, x_subI, x_ltI, x_leI, x_gtI, x_geI, x_eqI, x_neI, x_eqB, x_neB, x_lenV, x_lenL, x_isi, reduceIte]
      cases b <;> rfl
    | int i =>
      have e0 : gIs S (.val (.int i)) (.val .none) = some (.val (.bool false)) := rfl
      have e1 : isTy "bool" (.int i) = false := rfl
      have e2 : isTy "int" (.int i) = true := rfl
      rw [x_seq, x_if, x_m2, x_var, x_gs, x_g0, x_opt, x_m2K, x_lit, x_m2L, e0, x_opt, x_tstB, x_ifF, x_sNil, x_seqN, x_seq, x_if, x_m1, x_var, x_gs, x_g0, x_opt, x_m1K, hi, e1, x_opt, x_tstB, x_ifF, x_sNil, x_seqN,
        x_seq, x_if, x_m1, x_var, x_gs, x_g0, x_opt, x_m1K, hi, e2, x_opt, x_tstB, x_ifT]
      simp -implicitDefEqProofs only [x_m1, x_m2, x_m1K, x_m2K, x_m2L, x_var, x_lit, x_g0, x_gs, x_nil, x_cons, x_mcK, x_mcL, x_bi, x_mbK, x_on1, x_on2, x_call, x_callK0, x_callK1, x_callK2, x_callK3, x_callK4, x_tup, x_tupK0, x_tupK1, x_tupK2, x_tupK3, x_tupK4, x_and, x_or, x_andB, x_orB, x_ite, x_iteB, x_opt, x_not, x_neg, x_ch, x_chK, x_chL, x_chM, x_me, x_lst, x_seq, x_seqN, x_seqR, x_sNil, x_ret, x_retK, x_retN, x_exp, x_expK, x_asg, x_asgN, x_e0, x_es, x_tstB, x_if, x_ifB, x_set, x_set1, x_set2, x_addI, x_subI, x_ltI, x_leI, x_gtI, x_geI, x_eqI, x_neI, x_eqB, x_neB, x_lenV, x_lenL, x_isi, reduceIte, hint, decide_true]
    | tup hl hn =>
      rename_i us
      have e0 : gIs S (.val (.tuple us)) (.val .none) = some (.val (.bool false)) := rfl
      rw [x_seq, x_if, x_m2, x_var, x_gs, x_g0, x_opt, x_m2K, x_lit, x_m2L, e0, x_opt, x_tstB, x_ifF, x_sNil, x_seqN, x_seq, x_if, x_m1, x_var, x_gs, x_g0, x_opt, x_m1K, hi, show isTy "bool" (.tuple us) = false from rfl, x_opt, x_tstB, x_ifF, x_sNil, x_seqN,
        x_seq, x_if, x_m1, x_var, x_gs, x_g0, x_opt, x_m1K, hi, show isTy "int" (.tuple us) = false from rfl, x_opt, x_tstB, x_ifF, x_sNil, x_seqN, x_seq, x_if, x_m1, x_var, x_gs, x_g0, x_opt, x_m1K, hi, show isTy "str" (.tuple us) = false from rfl, x_opt, x_tstB, x_ifF, x_sNil, x_seqN]
      simp -implicitDefEqProofs only [x_seq, x_if, x_and, x_m1, x_var, x_gs, x_g0, x_opt, x_m1K, hi, show isTy "tuple" (.tuple us) = true from rfl, show isTy "list" (.tuple us) = false from rfl, x_andB, x_not, x_tstB, x_ifB, x_sNil, x_seqN, Bool.not_true, Bool.false_eq_true, reduceIte,
        x_m2, x_bi, x_cons, x_nil, x_mcK, x_mcL, x_mbK, x_on1, x_lenV, x_m2K, x_m2L, x_neI, decide_true]
      have := equal_seq (cl := cl) (d := d) (S := S) (.inl rfl) hl fun v hv S => ih v (hn v hv) S
      rw [x_seq] at this
      exact this
    | lst hl hn =>
      rename_i us
      have e0 : gIs S (.val (.list us)) (.val .none) = some (.val (.bool false)) := rfl
      rw [x_seq, x_if, x_m2, x_var, x_gs, x_g0, x_opt, x_m2K, x_lit, x_m2L, e0, x_opt, x_tstB, x_ifF, x_sNil, x_seqN, x_seq, x_if, x_m1, x_var, x_gs, x_g0, x_opt, x_m1K, hi, show isTy "bool" (.list us) = false from rfl, x_opt, x_tstB, x_ifF, x_sNil, x_seqN,
        x_seq, x_if, x_m1, x_var, x_gs, x_g0, x_opt, x_m1K, hi, show isTy "int" (.list us) = false from rfl, x_opt, x_tstB, x_ifF, x_sNil, x_seqN, x_seq, x_if, x_m1, x_var, x_gs, x_g0, x_opt, x_m1K, hi, show isTy "str" (.list us) = false from rfl, x_opt, x_tstB, x_ifF, x_sNil, x_seqN]
      simp -implicitDefEqProofs only [x_seq, x_if, x_and, x_m1, x_var, x_gs, x_g0, x_opt, x_m1K, hi, show isTy "tuple" (.list us) = false from rfl, show isTy "list" (.list us) = true from rfl, x_andB, x_not, x_tstB, x_ifB, x_sNil, x_seqN, Bool.not_true, Bool.false_eq_true, reduceIte,
        x_m2, x_bi, x_cons, x_nil, x_mcK, x_mcL, x_mbK, x_on1, x_lenL, x_m2K, x_m2L, x_neI, decide_true]
      have := equal_seq (cl := cl) (d := d) (S := S) (.inr rfl) hl fun v hv S => ih v (hn v hv) S
      rw [x_seq] at this
      exact this
end Rb

/-! Rb22: tournaments as data. -/
namespace Rb
open PySem

def natU (r : List Nat) : U := .tuple (r.map fun x => .int (x : Nat))
def tourU (rows : List (List Nat)) : U := .tuple (rows.map natU)
theorem x_isiU {T S u} : gIsi T S (.val u) = some (.val (.bool (isTy T u))) := rfl
theorem tyT {us} : isTy "tuple" (.tuple us) = true := rfl
theorem tyTl {us} : isTy "list" (.tuple us) = false := rfl
theorem tyI {i} : isTy "int" (.int i) = true := rfl
theorem tyIb {i} : isTy "bool" (.int i) = false := rfl
theorem tyB {i} : isTy "bool" (.bool i) = true := rfl
theorem x_anyT {f : M} {env : Env} {S S1 : Store} {us : List U} (h : f env S = .ok (.val (.tuple us)) S1) : itAny f env S = .ok (.fix (us.map .val)) S1 := by
  unfold itAny
  rw [h]; rfl
theorem x_anyL {f : M} {env : Env} {S S1 : Store} {us : List U} (h : f env S = .ok (.val (.list us)) S1) : itAny f env S = .ok (.fix (us.map .val)) S1 := by
  unfold itAny
  rw [h]; rfl
theorem x_anyV {f : M} {env : Env} {S S1 : Store} {n : Nat} (h : f env S = .ok (.loc n) S1) : itAny f env S = .ok (.live n) S1 := by
  unfold itAny
  rw [h]; rfl
theorem x_allc {f : MF} {env : Env} {S S1 : Store} {bs : List Bool} (h : f env S = .ok (List.map W.val (bs.map .bool)) S1) : mBi (on1 bAll) (mCons (mSnap f) mNil) env S = .ok (.val (.bool (bs.all id))) S1 := by
  rw [x_bi, x_cons, x_sn, h, x_snK, x_mcK, x_nil, x_mcL, x_mbK, x_on1, x_all, x_opt]
theorem comp_bools {own : List Nat} {it : MI} {tg : Tg} {elt : M} {env : Env} {S S1 : Store} {ws : List W} (p : W → Bool) (h1 : it env S = .ok (.fix ws) S1)
    (h2 : ∀ w ∈ ws, ∃ env1, asg tg w (wipeE env own) = some env1 ∧ elt env1 S1 = .ok (.val (.bool (p w))) S1) (hz : ws.length ≤ 16777216) : mComp own it tg none elt env S = .ok (List.map W.val ((ws.map p).map .bool)) S1 := by
  have q := comp_fix h1 (compL_map (fun w => .val (.bool (p w))) h2) (by rw [List.length_map]; exact hz)
  rw [q, List.map_map, List.map_map]
  rfl
theorem x_allB {own : List Nat} {it : MI} {tg : Tg} {elt : M} {env : Env} {S S1 : Store} {ws : List W} (p : W → Bool) (h1 : it env S = .ok (.fix ws) S1)
    (h2 : ∀ w ∈ ws, ∃ env1, asg tg w (wipeE env own) = some env1 ∧ elt env1 S1 = .ok (.val (.bool (p w))) S1) (hz : ws.length ≤ 16777216) : mBi (on1 bAll) (mCons (mSnap (mComp own it tg none elt)) mNil) env S = .ok (.val (.bool (ws.all p))) S1 := by
  rw [x_allc (comp_bools p h1 h2 hz)]
  congr 3
  rw [List.all_map]; rfl
theorem canAll_nat (r : List Nat) : PyData.canLayAll0 (r.map fun x => (.int (x : Nat) : U)) = true := by
  induction r with
  | nil => rfl
  | cons x r ih => exact ih
theorem x_in {S : Store} {p : Nat} {r : List Nat} : gInN false S (.val (.int (p : Nat))) (.val (natU r)) = some (.val (.bool (decide (p ∈ r)))) := by
  have e : (r.map fun x => (.int (x : Nat) : U)).any (fun z => PyData.eqv z (.int (p : Nat))) = decide (p ∈ r) := by
    rw [Bool.eq_iff_iff, List.any_eq_true, decide_eq_true_iff]
    constructor
    · rintro ⟨z, hz, hq⟩
      obtain ⟨x, hx, rfl⟩ := List.mem_map.mp hz
      rw [eqv_int, decide_eq_true_iff] at hq
      have : x = p := by omega
      rw [← this]; exact hx
    · intro h
      exact ⟨_, List.mem_map.mpr ⟨p, h, rfl⟩, by rw [eqv_int, decide_eq_true_iff]⟩
  have hc : (SeqAt.shaped (.int (p : Nat)) && PyData.canLayAll0 (r.map fun x => (.int (x : Nat) : U))) = true := by
    rw [canAll_nat, Bool.and_true]; rfl
  show (if (SeqAt.shaped (.int (p : Nat)) && PyData.canLayAll0 (r.map fun x => (.int (x : Nat) : U))) = true then some (W.val (.bool (false != (r.map fun x => (.int (x : Nat) : U)).any fun z => PyData.eqv z (.int (p : Nat))))) else none) = _
  rw [if_pos hc, e, Bool.false_bne]
theorem x_inL {S : Store} {p : Nat} {r : List Nat} : gInN false S (.val (.int (p : Nat))) (.val (.list (r.map fun x => .int (x : Nat)))) = some (.val (.bool (decide (p ∈ r)))) := x_in (S := S)
theorem nat_get {r : List Nat} {i : Nat} (h : i < r.length) : (r.map fun x => (.int (x : Nat) : U))[i]? = some (.int ((r[i] : Nat) : Int)) := by
  rw [List.getElem?_map, List.getElem?_eq_getElem h]; rfl
theorem tour_get {rows : List (List Nat)} {i : Nat} (h : i < rows.length) : (rows.map natU)[i]? = some (natU rows[i]) := by
  rw [List.getElem?_map, List.getElem?_eq_getElem h]; rfl

/-! ### is_whole, is_climbing, is_tournament -/
def F_is_whole (cl : CallO) : SM :=
  (sSeq (sRet (mAnd (m1 (gIsi "int") (mVar 0)) (mAnd (m1 gNot (m1 (gIsi "bool") (mVar 0))) (mChain gLe gLe (mVar 1) (mVar 0) (mVar 2)))))
    sNil)
theorem is_whole_run {cl : CallO} {S : Store} {v lo hi : Int} : runF ⟨3, 3, false, F_is_whole⟩ cl [.val (.int v), .val (.int lo), .val (.int hi)] S = .ok (.val (.bool (decide (lo ≤ v ∧ v ≤ hi)))) S := by
  rw [run_rt (w := .val (.bool (decide (lo ≤ v ∧ v ≤ hi)))) (S' := S)]
  · exact fin_same rfl
  · show F_is_whole cl [some (.val (.int v)), some (.val (.int lo)), some (.val (.int hi))] S = _
    unfold F_is_whole
    rw [x_seq, x_ret, x_and, x_m1, x_var, x_g0, x_opt, x_m1K, x_isiU, tyI, x_opt, x_andT, x_and, x_m1, x_m1, x_var, x_g0, x_opt, x_m1K, x_isiU, tyIb, x_opt, x_m1K, x_not, x_opt, Bool.not_false, x_andT]
    have q : ∀ b : Bool, (if b = true then (Out.ok (.val (.bool (decide (v ≤ hi)))) S : Out W) else .ok (.val (.bool false)) S) = .ok (.val (.bool (b && decide (v ≤ hi)))) S := fun b => by cases b <;> rfl
    simp -implicitDefEqProofs only [x_ch, x_var, x_gs, x_g0, x_opt, x_chK, x_chL, x_leI, x_chM, x_m2L, q, x_retK, x_seqR]
    rw [Bool.decide_and]
def F_is_climbing (cl : CallO) : SM :=
  (sSeq (sIf (mOr (m1 gNot (m1 (gIsi "tuple") (mVar 0))) (m1 gNot (mBi (on1 bAll) (mCons (mSnap (mComp [2] (itAny (mVar 0)) (.nm 2) none (mCall cl "is_whole" 3 (mCons (mVar 2) (mCons (mLit (.int 0)) (mCons (m2 gSub (mVar 1) (mLit (.int 1))) mNil)))))) mNil)))) (sSeq (sRet (mLit (.bool false)))
    sNil) sNil)
    (sSeq (sRet (mBi (on1 bAll) (mCons (mSnap (mComp [3] (itR1 (mCons (m2 gSub (mBi (on1 bLen) (mCons (mVar 0) mNil)) (mLit (.int 1))) mNil)) (.nm 3) none (m2 gLt (m2 gIx (mVar 0) (mVar 3)) (m2 gIx (mVar 0) (m2 gAdd (mVar 3) (mLit (.int 1))))))) mNil)))
    sNil))
def Whole (cl : CallO) : Prop := ∀ v lo hi S, cl "is_whole" [.val (.int v), .val (.int lo), .val (.int hi)] S = .ok (.val (.bool (decide (lo ≤ v ∧ v ≤ hi)))) S
/-- strictly rising, below many -/
def Climbs (r : List Nat) (many : Nat) : Prop := r.Pairwise (· < ·) ∧ ∀ x ∈ r, x < many
theorem r1_neg {g : MA} {env : Env} {S S1 : Store} (h : g env S = .ok [.val (.int (-1))] S1) : itR1 g env S = .ok (.fix (rgW 0 0)) S1 := r1_i (i := -1) h rfl
theorem is_climbing_run {cl : CallO} {S : Store} {r : List Nat} {many : Nat} (hw : Whole cl) (h : Climbs r many) (hl : r.length < 100000) : runF ⟨2, 4, false, F_is_climbing⟩ cl [.val (natU r), .val (.int (many : Nat))] S = .ok (.val (.bool true)) S := by
  rw [run_rt (w := .val (.bool true)) (S' := S)]
  · exact fin_same rfl
  · show F_is_climbing cl [some (.val (natU r)), some (.val (.int (many : Nat))), none, none] S = _
    unfold F_is_climbing
    have h1 : mBi (on1 bAll) (mCons (mSnap (mComp [2] (itAny (mVar 0)) (.nm 2) none (mCall cl "is_whole" 3 (mCons (mVar 2) (mCons (mLit (.int 0)) (mCons (m2 gSub (mVar 1) (mLit (.int 1))) mNil)))))) mNil) [some (.val (natU r)), some (.val (.int (many : Nat))), none, none] S = .ok (.val (.bool true)) S := by
      rw [x_allB (ws := (r.map fun x => (.int (x : Nat) : U)).map .val) (fun _ => true) (x_anyT (by rw [x_var, x_g0, x_opt]; rfl)) (fun w hw' => ?_) (by simp; omega)]
      · congr 3
        rw [List.all_eq_true]; intro _ _; rfl
      · obtain ⟨u, hu, rfl⟩ := List.mem_map.mp hw'
        obtain ⟨x, hx, rfl⟩ := List.mem_map.mp hu
        refine ⟨_, rfl, ?_⟩
        have hb := h.2 x hx
        simp -implicitDefEqProofs only [x_m1, x_m2, x_m1K, x_m2K, x_m2L, x_var, x_lit, x_g0, x_gs, x_nil, x_cons, x_mcK, x_mcL, x_bi, x_mbK, x_on1, x_on2, x_call, x_callK0, x_callK1, x_callK2, x_callK3, x_callK4, x_tup, x_tupK0, x_tupK1, x_tupK2, x_tupK3, x_tupK4, x_and, x_or, x_andB, x_orB, x_ite, x_iteB, x_opt, x_not, x_neg, x_ch, x_chK, x_chL, x_chM, x_me, x_lst, x_seq, x_seqN, x_seqR, x_sNil, x_ret, x_retK, x_retN, x_exp, x_expK, x_asg, x_asgN, x_e0, x_es, x_tstB, x_if, x_ifB, x_set, x_set1, x_set2, x_addI, x_subI, x_ltI, x_leI, x_gtI, x_geI, x_eqI, x_neI, x_eqB, x_neB, x_lenV, x_lenL, x_isi, reduceIte, wipeE]
        show cl "is_whole" [.val (.int (x : Nat)), .val (.int 0), .val (.int ((many : Int) - 1))] S = _
        rw [hw, decide_eq_true (by omega)]
    have h2 : mBi (on1 bAll) (mCons (mSnap (mComp [3] (itR1 (mCons (m2 gSub (mBi (on1 bLen) (mCons (mVar 0) mNil)) (mLit (.int 1))) mNil)) (.nm 3) none (m2 gLt (m2 gIx (mVar 0) (mVar 3)) (m2 gIx (mVar 0) (m2 gAdd (mVar 3) (mLit (.int 1))))))) mNil) [some (.val (natU r)), some (.val (.int (many : Nat))), none, none] S = .ok (.val (.bool true)) S := by
      have hr : itR1 (mCons (m2 gSub (mBi (on1 bLen) (mCons (mVar 0) mNil)) (mLit (.int 1))) mNil) [some (.val (natU r)), some (.val (.int (many : Nat))), none, none] S = .ok (.fix (rgW 0 (r.length - 1))) S := by
        have hlen : mCons (m2 gSub (mBi (on1 bLen) (mCons (mVar 0) mNil)) (mLit (.int 1))) mNil [some (.val (natU r)), some (.val (.int (many : Nat))), none, none] S = .ok [.val (.int ((r.length : Nat) - 1))] S := by
          have : bLen S (.val (natU r)) = some (.val (.int (r.length : Nat))) := by unfold natU; rw [x_lenV, List.length_map]
          simp -implicitDefEqProofs only [x_m1, x_m2, x_m1K, x_m2K, x_m2L, x_var, x_lit, x_g0, x_gs, x_nil, x_cons, x_mcK, x_mcL, x_bi, x_mbK, x_on1, x_on2, x_call, x_callK0, x_callK1, x_callK2, x_callK3, x_callK4, x_tup, x_tupK0, x_tupK1, x_tupK2, x_tupK3, x_tupK4, x_and, x_or, x_andB, x_orB, x_ite, x_iteB, x_opt, x_not, x_neg, x_ch, x_chK, x_chL, x_chM, x_me, x_lst, x_seq, x_seqN, x_seqR, x_sNil, x_ret, x_retK, x_retN, x_exp, x_expK, x_asg, x_asgN, x_e0, x_es, x_tstB, x_if, x_ifB, x_set, x_set1, x_set2, x_addI, x_subI, x_ltI, x_leI, x_gtI, x_geI, x_eqI, x_neI, x_eqB, x_neB, x_lenV, x_lenL, x_isi, reduceIte, this]
        by_cases h0 : r.length = 0
        · rw [h0] at hlen ⊢
          exact r1_neg hlen
        · rw [show ((r.length : Nat) : Int) - 1 = ((r.length - 1 : Nat) : Int) by omega] at hlen
          exact x_r1 hlen (by omega)
      rw [x_allB (fun _ => true) hr (fun w hw' => ?_) (by rw [rgW_0]; simp; omega)]
      · congr 3
        rw [List.all_eq_true]; intro _ _; rfl
      · rw [rgW_0] at hw'
        obtain ⟨i, hi, rfl⟩ := List.mem_map.mp hw'
        have hi := List.mem_range.mp hi
        refine ⟨_, rfl, ?_⟩
        have e1 : gIx S (.val (natU r)) (.val (.int (i : Nat))) = some (.val (.int ((r[i] : Nat) : Int))) := x_ixT (nat_get (by omega))
        have e2 : gIx S (.val (natU r)) (.val (.int ((i + 1 : Nat) : Int))) = some (.val (.int ((r[i + 1] : Nat) : Int))) := x_ixT (nat_get (by omega))
        have e3 : (i : Int) + 1 = ((i + 1 : Nat) : Int) := by omega
        have hlt : r[i] < r[i + 1] := List.pairwise_iff_getElem.mp h.1 i (i + 1) (by omega) (by omega) (by omega)
        simp -implicitDefEqProofs only [x_m1, x_m2, x_m1K, x_m2K, x_m2L, x_var, x_lit, x_g0, x_gs, x_nil, x_cons, x_mcK, x_mcL, x_bi, x_mbK, x_on1, x_on2, x_call, x_callK0, x_callK1, x_callK2, x_callK3, x_callK4, x_tup, x_tupK0, x_tupK1, x_tupK2, x_tupK3, x_tupK4, x_and, x_or, x_andB, x_orB, x_ite, x_iteB, x_opt, x_not, x_neg, x_ch, x_chK, x_chL, x_chM, x_me, x_lst, x_seq, x_seqN, x_seqR, x_sNil, x_ret, x_retK, x_retN, x_exp, x_expK, x_asg, x_asgN, x_e0, x_es, x_tstB, x_if, x_ifB, x_set, x_set1, x_set2, x_addI, x_subI, x_ltI, x_leI, x_gtI, x_geI, x_eqI, x_neI, x_eqB, x_neB, x_lenV, x_lenL, x_isi, reduceIte, wipeE, e1, e3, e2]
        rw [decide_eq_true (by omega)]
    rw [x_seq, x_if, x_or, x_m1, x_m1, x_var, x_g0, x_opt, x_m1K, x_isiU, show isTy "tuple" (natU r) = true from rfl, x_opt, x_m1K, x_not, x_opt, Bool.not_true, x_orF, x_m1, h1, x_m1K, x_not, x_opt, Bool.not_true, x_tstB, x_ifF, x_sNil, x_seqN,
      x_seq, x_ret, h2, x_retK, x_seqR]
def F_is_tournament (cl : CallO) : SM :=
  (sSeq (sIf (mOr (m1 gNot (m1 (gIsi "tuple") (mVar 0))) (m1 gNot (mChain gLe gLe (mLit (.int 1)) (mBi (on1 bLen) (mCons (mVar 0) mNil)) (mLit (.int 8))))) (sSeq (sRet (mLit (.bool false)))
    sNil) sNil)
    (sSeq (sIf (m1 gNot (mBi (on1 bAll) (mCons (mSnap (mComp [1] (itAny (mVar 0)) (.nm 1) none (mCall cl "is_climbing" 2 (mCons (mVar 1) (mCons (mBi (on1 bLen) (mCons (mVar 0) mNil)) mNil))))) mNil))) (sSeq (sRet (mLit (.bool false)))
    sNil) sNil)
    (sSeq (sFor (itR1 (mCons (mBi (on1 bLen) (mCons (mVar 0) mNil)) mNil)) (.nm 2) (sSeq (sIf (mOr (m2 (gInN false) (mVar 2) (m2 gIx (mVar 0) (mVar 2))) (m1 gNot (mBi (on1 bAll) (mCons (mSnap (mComp [3] (itR1 (mCons (mVar 2) mNil)) (.nm 3) none (m2 gNe (m2 (gInN false) (mVar 3) (m2 gIx (mVar 0) (mVar 2))) (m2 (gInN false) (mVar 2) (m2 gIx (mVar 0) (mVar 3)))))) mNil)))) (sSeq (sRet (mLit (.bool false)))
    sNil) sNil)
    sNil))
    (sSeq (sRet (mLit (.bool true)))
    sNil))))
structure IsT (rows : List (List Nat)) : Prop where
  one : 1 ≤ rows.length
  most : rows.length ≤ 8
  climb : ∀ r ∈ rows, Climbs r rows.length
  self : ∀ (p : Nat) (h : p < rows.length), p ∉ rows[p]
  two : ∀ (p q : Nat) (hp : p < rows.length) (hq : q < rows.length), p ≠ q → (q ∈ rows[p] ↔ ¬ p ∈ rows[q])
def Climbing (cl : CallO) : Prop := ∀ (r : List Nat) (many : Nat) S, Climbs r many → r.length < 100000 → cl "is_climbing" [.val (natU r), .val (.int (many : Nat))] S = .ok (.val (.bool true)) S
theorem climbs_len {r : List Nat} {n : Nat} (h : Climbs r n) : r.length ≤ n := by
  have hs : ∀ (i : Nat) (hi : i < r.length), i ≤ r[i] := by
    intro i
    induction i with
    | zero => intro _; exact Nat.zero_le _
    | succ i ih =>
      intro hi
      have a := ih (by omega)
      have b := List.pairwise_iff_getElem.mp h.1 i (i + 1) (by omega) hi (by omega)
      omega
  by_cases h0 : r.length = 0
  · omega
  · have a := hs (r.length - 1) (by omega)
    have b := h.2 r[r.length - 1] (List.getElem_mem _)
    omega
theorem is_tournament_run {cl : CallO} {S : Store} {rows : List (List Nat)} (hc : Climbing cl) (h : IsT rows) : runF ⟨1, 4, false, F_is_tournament⟩ cl [.val (tourU rows)] S = .ok (.val (.bool true)) S := by
  have hm := h.most
  have ho := h.one
  rw [run_rt (w := .val (.bool true)) (S' := S)]
  · exact fin_same rfl
  · show F_is_tournament cl [some (.val (tourU rows)), none, none, none] S = _
    unfold F_is_tournament
    have hlen : ∀ S, bLen S (.val (tourU rows)) = some (.val (.int (rows.length : Nat))) := fun S => by unfold tourU; rw [x_lenV, List.length_map]
    have h1 : mBi (on1 bAll) (mCons (mSnap (mComp [1] (itAny (mVar 0)) (.nm 1) none (mCall cl "is_climbing" 2 (mCons (mVar 1) (mCons (mBi (on1 bLen) (mCons (mVar 0) mNil)) mNil))))) mNil) [some (.val (tourU rows)), none, none, none] S = .ok (.val (.bool true)) S := by
      rw [x_allB (ws := (rows.map natU).map .val) (fun _ => true) (x_anyT (by rw [x_var, x_g0, x_opt]; rfl)) (fun w hw' => ?_) (by simp; omega)]
      · congr 3
        rw [List.all_eq_true]; intro _ _; rfl
      · obtain ⟨u, hu, rfl⟩ := List.mem_map.mp hw'
        obtain ⟨r, hr, rfl⟩ := List.mem_map.mp hu
        refine ⟨_, rfl, ?_⟩
        have := climbs_len (h.climb r hr)
        simp -implicitDefEqProofs only [x_m1, x_m2, x_m1K, x_m2K, x_m2L, x_var, x_lit, x_g0, x_gs, x_nil, x_cons, x_mcK, x_mcL, x_bi, x_mbK, x_on1, x_on2, x_call, x_callK0, x_callK1, x_callK2, x_callK3, x_callK4, x_tup, x_tupK0, x_tupK1, x_tupK2, x_tupK3, x_tupK4, x_and, x_or, x_andB, x_orB, x_ite, x_iteB, x_opt, x_not, x_neg, x_ch, x_chK, x_chL, x_chM, x_me, x_lst, x_seq, x_seqN, x_seqR, x_sNil, x_ret, x_retK, x_retN, x_exp, x_expK, x_asg, x_asgN, x_e0, x_es, x_tstB, x_if, x_ifB, x_set, x_set1, x_set2, x_addI, x_subI, x_ltI, x_leI, x_gtI, x_geI, x_eqI, x_neI, x_eqB, x_neB, x_lenV, x_lenL, x_isi, reduceIte, wipeE, hlen]
        exact hc r rows.length S (h.climb r hr) (by omega)
    have h0 : mOr (m1 gNot (m1 (gIsi "tuple") (mVar 0))) (m1 gNot (mChain gLe gLe (mLit (.int 1)) (mBi (on1 bLen) (mCons (mVar 0) mNil)) (mLit (.int 8)))) [some (.val (tourU rows)), none, none, none] S = .ok (.val (.bool false)) S := by
      rw [x_or, x_m1, x_m1, x_var, x_g0, x_opt, x_m1K, x_isiU, show isTy "tuple" (tourU rows) = true from rfl, x_opt, x_m1K, x_not, x_opt, Bool.not_true, x_orF]
      simp -implicitDefEqProofs only [x_m1, x_ch, x_lit, x_chK, x_bi, x_cons, x_nil, x_var, x_g0, x_opt, x_mcK, x_mcL, x_mbK, x_on1, hlen, x_chL, x_leI, decide_eq_true (show (1 : Int) ≤ (rows.length : Nat) by omega), x_chM, reduceIte, x_m2L, decide_eq_true (show ((rows.length : Nat) : Int) ≤ 8 by omega), x_m1K, x_not, Bool.not_true]
    have hf : ∃ env' S', sFor (itR1 (mCons (mBi (on1 bLen) (mCons (mVar 0) mNil)) mNil)) (.nm 2) (sSeq (sIf (mOr (m2 (gInN false) (mVar 2) (m2 gIx (mVar 0) (mVar 2))) (m1 gNot (mBi (on1 bAll) (mCons (mSnap (mComp [3] (itR1 (mCons (mVar 2) mNil)) (.nm 3) none (m2 gNe (m2 (gInN false) (mVar 3) (m2 gIx (mVar 0) (mVar 2))) (m2 (gInN false) (mVar 2) (m2 gIx (mVar 0) (mVar 3)))))) mNil)))) (sSeq (sRet (mLit (.bool false)))
    sNil) sNil)
    sNil) [some (.val (tourU rows)), none, none, none] S = .nx env' S' ∧ (env' = [some (.val (tourU rows)), none, none, none] ∧ S' = S) := by
      refine for_inv (fun _ env' S' => env' = [some (.val (tourU rows)), none, none, none] ∧ S' = S) (x_r1 (n := rows.length) (by simp -implicitDefEqProofs only [x_m1, x_m2, x_m1K, x_m2K, x_m2L, x_var, x_lit, x_g0, x_gs, x_nil, x_cons, x_mcK, x_mcL, x_bi, x_mbK, x_on1, x_on2, x_call, x_callK0, x_callK1, x_callK2, x_callK3, x_callK4, x_tup, x_tupK0, x_tupK1, x_tupK2, x_tupK3, x_tupK4, x_and, x_or, x_andB, x_orB, x_ite, x_iteB, x_opt, x_not, x_neg, x_ch, x_chK, x_chL, x_chM, x_me, x_lst, x_seq, x_seqN, x_seqR, x_sNil, x_ret, x_retK, x_retN, x_exp, x_expK, x_asg, x_asgN, x_e0, x_es, x_tstB, x_if, x_ifB, x_set, x_set1, x_set2, x_addI, x_subI, x_ltI, x_leI, x_gtI, x_geI, x_eqI, x_neI, x_eqB, x_neB, x_lenV, x_lenL, x_isi, reduceIte, hlen]) (by omega)) ⟨rfl, rfl⟩ ?_
      rintro i w env S hw ⟨rfl, rfl⟩
      rw [rgW_0, List.getElem?_map] at hw
      obtain ⟨p, hp, rfl⟩ := Option.map_eq_some_iff.mp hw
      obtain ⟨hi, hp⟩ := List.getElem?_eq_some_iff.mp hp
      rw [List.getElem_range] at hp
      subst hp
      rw [List.length_range] at hi
      have e1 : gIx S (.val (tourU rows)) (.val (.int (i : Nat))) = some (.val (natU rows[i])) := x_ixT (tour_get hi)
      refine ⟨_, [some (.val (tourU rows)), none, some (.val (.int (i : Nat))), none], S, rfl, ?_, rfl, rfl, List.take_length⟩
      have h2 : mBi (on1 bAll) (mCons (mSnap (mComp [3] (itR1 (mCons (mVar 2) mNil)) (.nm 3) none (m2 gNe (m2 (gInN false) (mVar 3) (m2 gIx (mVar 0) (mVar 2))) (m2 (gInN false) (mVar 2) (m2 gIx (mVar 0) (mVar 3)))))) mNil) [some (.val (tourU rows)), none, some (.val (.int (i : Nat))), none] S = .ok (.val (.bool true)) S := by
        rw [x_allB (S1 := S) (fun _ => true) (x_r1 (n := i) (by simp -implicitDefEqProofs only [x_m1, x_m2, x_m1K, x_m2K, x_m2L, x_var, x_lit, x_g0, x_gs, x_nil, x_cons, x_mcK, x_mcL, x_bi, x_mbK, x_on1, x_on2, x_call, x_callK0, x_callK1, x_callK2, x_callK3, x_callK4, x_tup, x_tupK0, x_tupK1, x_tupK2, x_tupK3, x_tupK4, x_and, x_or, x_andB, x_orB, x_ite, x_iteB, x_opt, x_not, x_neg, x_ch, x_chK, x_chL, x_chM, x_me, x_lst, x_seq, x_seqN, x_seqR, x_sNil, x_ret, x_retK, x_retN, x_exp, x_expK, x_asg, x_asgN, x_e0, x_es, x_tstB, x_if, x_ifB, x_set, x_set1, x_set2, x_addI, x_subI, x_ltI, x_leI, x_gtI, x_geI, x_eqI, x_neI, x_eqB, x_neB, x_lenV, x_lenL, x_isi, reduceIte]) (by omega)) (fun w hw' => ?_) (by rw [rgW_0]; simp; omega)]
        · congr 3
          rw [List.all_eq_true]; intro _ _; rfl
        · rw [rgW_0] at hw'
          obtain ⟨j, hj, rfl⟩ := List.mem_map.mp hw'
          have hj := List.mem_range.mp hj
          refine ⟨_, rfl, ?_⟩
          have e2 : gIx S (.val (tourU rows)) (.val (.int (j : Nat))) = some (.val (natU rows[j])) := x_ixT (tour_get (by omega))
          have e3 := h.two i j hi (by omega) (by omega)
          simp -implicitDefEqProofs only [x_m1, x_m2, x_m1K, x_m2K, x_m2L, x_var, x_lit, x_g0, x_gs, x_nil, x_cons, x_mcK, x_mcL, x_bi, x_mbK, x_on1, x_on2, x_call, x_callK0, x_callK1, x_callK2, x_callK3, x_callK4, x_tup, x_tupK0, x_tupK1, x_tupK2, x_tupK3, x_tupK4, x_and, x_or, x_andB, x_orB, x_ite, x_iteB, x_opt, x_not, x_neg, x_ch, x_chK, x_chL, x_chM, x_me, x_lst, x_seq, x_seqN, x_seqR, x_sNil, x_ret, x_retK, x_retN, x_exp, x_expK, x_asg, x_asgN, x_e0, x_es, x_tstB, x_if, x_ifB, x_set, x_set1, x_set2, x_addI, x_subI, x_ltI, x_leI, x_gtI, x_geI, x_eqI, x_neI, x_eqB, x_neB, x_lenV, x_lenL, x_isi, reduceIte, wipeE, e1, x_in, e2]
          congr 3
          by_cases hq : j ∈ rows[i]
          · rw [decide_eq_true hq, decide_eq_false (e3.mp hq)]; rfl
          · rw [decide_eq_false hq, decide_eq_true (Classical.byContradiction fun z => hq (e3.mpr z))]; rfl
      show sSeq _ sNil [some (.val (tourU rows)), none, some (.val (.int (i : Nat))), none] S = _
      rw [x_seq, x_if, x_or, x_m2, x_var, x_gs, x_gs, x_g0, x_opt, x_m2K, x_m2, x_var, x_g0, x_opt, x_m2K, x_var, x_gs, x_gs, x_g0, x_opt, x_m2L, e1, x_opt, x_m2L, x_in, x_opt, decide_eq_false (h.self i hi), x_orF, x_m1, h2, x_m1K, x_not, x_opt, Bool.not_true, x_tstB, x_ifF, x_sNil, x_seqN, x_sNil]
    obtain ⟨env', S', hf, rfl, rfl⟩ := hf
    rw [x_seq, x_if, h0, x_tstB, x_ifF, x_sNil, x_seqN, x_seq, x_if, x_m1, h1, x_m1K, x_not, x_opt, Bool.not_true, x_tstB, x_ifF, x_sNil, x_seqN, x_seq, hf, x_seqN, x_seq, x_ret, x_lit, x_retK, x_seqR]
end Rb

/-! Rb23: rows in the store; orders. -/
namespace Rb
open PySem

/-! ### a list of lists in the store -/
def rowO (r : List Nat) : O := .lst (r.map fun x => .int (x : Nat))
def RowsAt (S : Store) (R : List (List Nat)) : Store := S ++ R.map rowO ++ [.lol ((List.range R.length).map (S.length + ·))]
theorem rowsAt_len (S : Store) (R : List (List Nat)) : (RowsAt S R).length = S.length + R.length + 1 := by unfold RowsAt; simp; omega
theorem rowsAt_take (S : Store) (R : List (List Nat)) : (RowsAt S R).take S.length = S := by
  unfold RowsAt
  rw [List.append_assoc, List.take_left]
theorem rowsAt_row {S : Store} {R : List (List Nat)} {p : Nat} (h : p < R.length) : (RowsAt S R)[S.length + p]? = some (rowO R[p]) := by
  unfold RowsAt
  rw [List.append_assoc, List.getElem?_append_right (by omega), show S.length + p - S.length = p by omega, List.getElem?_append_left (by simpa using h), List.getElem?_map, List.getElem?_eq_getElem h]
  rfl
theorem rowsAt_lol {S : Store} {R : List (List Nat)} : (RowsAt S R)[S.length + R.length]? = some (.lol ((List.range R.length).map (S.length + ·))) := by
  unfold RowsAt
  rw [List.getElem?_append_right (by simp)]
  simp
theorem ixN_nat {n i : Nat} (h : i < n) : L2.ixN n (i : Int) = some i := by unfold L2.ixN; simp [h]
theorem x_ixR {S : Store} {R : List (List Nat)} {p : Nat} (h : p < R.length) : gIx (RowsAt S R) (.loc (S.length + R.length)) (.val (.int (p : Nat))) = some (.loc (S.length + p)) := by
  show (match (oI (RowsAt S R)[S.length + R.length]?), uInt (.val (.int (p : Nat))) with | some (_, ws), some i => L2.atI ws i | _, _ => none) = _
  rw [rowsAt_lol]
  show L2.atI (((List.range R.length).map (S.length + ·)).map W.loc) (p : Int) = _
  unfold L2.atI
  rw [ixN_nat (by simpa using h)]
  simp [h]
/-- one more in row p -/
def addR (R : List (List Nat)) (p q : Nat) : List (List Nat) := match R[p]? with
  | some r => R.set p (r ++ [q])
  | none => R
theorem addR_len {R : List (List Nat)} {p q : Nat} : (addR R p q).length = R.length := by
  unfold addR
  split
  · rw [List.length_set]
  · rfl
theorem addR_get {R : List (List Nat)} {p q i : Nat} (hi : i < R.length) : (addR R p q)[i]'(by rw [addR_len]; exact hi) = if i = p then R[i] ++ [q] else R[i] := by
  have e : (addR R p q)[i]? = some (if i = p then R[i] ++ [q] else R[i]) := by
    unfold addR
    by_cases hp : p < R.length
    · rw [List.getElem?_eq_getElem hp]
      show (R.set p (R[p] ++ [q]))[i]? = _
      rw [List.getElem?_set]
      by_cases e : p = i
      · subst e; simp [hp]
      · rw [if_neg e, if_neg (fun z => e z.symm), List.getElem?_eq_getElem hi]
    · have hn : R[p]? = none := List.getElem?_eq_none (Nat.le_of_not_lt hp)
      have hne : i ≠ p := fun z => hp (by rw [← z]; exact hi)
      simp -implicitDefEqProofs only [hn, if_neg hne, List.getElem?_eq_getElem hi]
  exact (List.getElem?_eq_some_iff.mp e).2
theorem rowsAt_set {S : Store} {R : List (List Nat)} {p q : Nat} (h : p < R.length) : (RowsAt S R).set (S.length + p) (rowO (R[p] ++ [q])) = RowsAt S (addR R p q) := by
  have e : addR R p q = R.set p (R[p] ++ [q]) := by unfold addR; rw [List.getElem?_eq_getElem h]
  rw [e]
  unfold RowsAt
  rw [List.length_set, List.append_assoc, List.append_assoc, List.set_append_right _ _ (by omega), show S.length + p - S.length = p by omega, List.set_append_left _ _ (by simpa using h), List.map_set]
theorem x_app {S : Store} {R : List (List Nat)} {p q : Nat} (h : p < R.length) (hl : R[p].length < 16777216) {f : M} {g : MA} {env : Env} (hf : f env (RowsAt S R) = .ok (.loc (S.length + p)) (RowsAt S R)) (hg : g env (RowsAt S R) = .ok [.val (.int (q : Nat))] (RowsAt S R)) :
    sExpr (mMeth "list" gApp f g) env (RowsAt S R) = .nx env (RowsAt S (addR R p q)) := by
  have ht : tyW (RowsAt S R) (.loc (S.length + p)) = some "list" := by
    show tyO (RowsAt S R)[S.length + p]? = _
    rw [rowsAt_row h]; rfl
  have ha : gApp (RowsAt S R) (.loc (S.length + p)) [.val (.int (q : Nat))] = some (.val .none, RowsAt S (addR R p q)) := by
    unfold gApp
    have hb : bxL (RowsAt S R) (.loc (S.length + p)) = some (S.length + p, R[p].map fun x => .int (x : Nat)) := by
      unfold bxL
      simp -implicitDefEqProofs only [rowsAt_row h, rowO]
    rw [hb]
    show (if (R[p].map fun x => (.int (x : Nat) : U)).length < 16777216 then some (W.val .none, (RowsAt S R).set (S.length + p) (.lst ((R[p].map fun x => .int (x : Nat)) ++ [.int (q : Nat)]))) else none) = _
    rw [if_pos (by rw [List.length_map]; exact hl), ← rowsAt_set h]
    unfold rowO
    rw [List.map_append]; rfl
  rw [x_exp, x_me, hf, x_meK ht, hg, x_meL ha, x_expK]
theorem locs_nat (k n : Nat) : allL ((List.range n).map fun i => W.loc (k + i)) = some ((List.range n).map (k + ·)) := by
  have : ∀ l : List Nat, allL (l.map fun i => W.loc (k + i)) = some (l.map (k + ·)) := by
    intro l
    induction l with
    | nil => rfl
    | cons a l ih =>
      show (allL (l.map fun i => W.loc (k + i))).map _ = _
      rw [ih]; rfl
  exact this _
/-- [[] for .. in ..] -/
theorem x_new {own : List Nat} {it : MI} {tg : Tg} {env : Env} {S : Store} {ws : List W} (h1 : it env S = .ok (.fix ws) S) (h2 : ∀ w ∈ ws, ∃ env1, asg tg w (wipeE env own) = some env1) (h0 : 0 < ws.length) (hz : ws.length ≤ 16777216) :
    mBox (mComp own it tg none (mBox (mLstD mNil))) env S = .ok (.loc (S.length + ws.length)) (RowsAt S (List.replicate ws.length [])) := by
  have key : ∃ us' S', compL tg none (mBox (mLstD mNil)) (wipeE env own) (ws.drop 0) S = .ok us' S' ∧ us'.length = ws.length - 0 ∧ (([] ++ us') = ((List.range ([] ++ us').length).map fun i => W.loc (S.length + i)) ∧ S' = S ++ List.replicate ([] ++ us').length (rowO [])) := by
    refine compL_inv (I := fun us S' => us = ((List.range us.length).map fun i => W.loc (S.length + i)) ∧ S' = S ++ List.replicate us.length (rowO [])) (ws := ws) ?_ 0 [] S (Nat.zero_le _) rfl ⟨rfl, by simp⟩
    rintro i w us S1 hw hl ⟨e1, e2⟩
    obtain ⟨env1, ha⟩ := h2 w (List.mem_of_getElem? hw)
    refine ⟨env1, .loc S1.length, S1 ++ [rowO []], ha, ?_, ?_, ?_⟩
    · rw [x_bx, x_lst, x_nil, x_lstK (by decide)]; rfl
    · rw [List.length_append, List.length_singleton, List.range_succ, List.map_append, ← e1, e2]
      simp
    · rw [List.length_append, List.length_singleton, e2, List.append_assoc, List.replicate_succ']
  obtain ⟨us, S', q1, q2, q3, q4⟩ := key
  rw [List.nil_append] at q3 q4
  rw [List.drop_zero] at q1
  have hl : us.length = ws.length := by omega
  rw [x_bx, comp_fix h1 q1 (by omega)]
  have hm : mkO us = some (.lol ((List.range us.length).map (S.length + ·))) := by
    unfold mkO
    have hn : allU us = none := by
      rw [q3, hl]
      obtain ⟨k, hk⟩ : ∃ k, ws.length = k + 1 := ⟨ws.length - 1, by omega⟩
      rw [hk, List.range_succ_eq_map]
      rfl
    rw [hn, q3, List.length_map, List.length_range, locs_nat]
    rfl
  show (match mkO us with | some o => (Out.ok (W.loc S'.length) (S' ++ [o]) : Out W) | none => .bad) = _
  rw [hm]
  show (Out.ok (W.loc S'.length) (S' ++ [.lol ((List.range us.length).map (S.length + ·))]) : Out W) = _
  rw [q4, hl]
  congr 1
  · simp
  · unfold RowsAt
    rw [List.map_replicate, List.length_replicate]
/-- sorted, of natural numbers -/
def sortN (r : List Nat) : List Nat := (sortI (r.map fun x => ((x : Nat) : Int))).map Int.toNat
theorem sortN_eq (r : List Nat) : sortI (r.map fun x => ((x : Nat) : Int)) = (sortN r).map fun x => ((x : Nat) : Int) := by
  unfold sortN
  rw [List.map_map]
  have hp := sortI_perm (r.map fun x => ((x : Nat) : Int))
  refine ((List.map_id _).symm.trans ?_)
  refine List.map_congr_left fun i hi => ?_
  obtain ⟨x, _, rfl⟩ := List.mem_map.mp (hp.mem_iff.mp hi)
  rfl
theorem sortN_perm (r : List Nat) : (sortN r).Perm r := by
  unfold sortN
  have := (sortI_perm (r.map fun x => ((x : Nat) : Int))).map Int.toNat
  rw [List.map_map] at this
  refine this.trans (List.Perm.of_eq ?_)
  exact (List.map_congr_left fun x _ => Int.toNat_natCast x).trans (List.map_id _)
theorem sortN_pw {r : List Nat} (h : r.Nodup) : (sortN r).Pairwise (· < ·) := by
  have h1 : ((sortN r).map fun x => ((x : Nat) : Int)).Pairwise (· ≤ ·) := by rw [← sortN_eq]; exact sortI_pw _
  rw [List.pairwise_map] at h1
  have h2 : (sortN r).Nodup := (sortN_perm r).nodup_iff.mpr h
  have h3 : (sortN r).Pairwise (fun a b : Nat => ((a : Nat) : Int) ≤ ((b : Nat) : Int) ∧ a ≠ b) := List.pairwise_and_iff.mpr ⟨h1, h2⟩
  exact h3.imp fun {a b} q => by omega
theorem ints_nat (r : List Nat) : intsU (r.map fun x => (.int (x : Nat) : U)) = some (r.map fun x => ((x : Nat) : Int)) := by
  induction r with
  | nil => rfl
  | cons a r ih =>
    show (intsU (r.map fun x => (.int (x : Nat) : U))).map _ = _
    rw [ih]; rfl
theorem x_sort {S : Store} {n : Nat} {r : List Nat} (h : S[n]? = some (rowO r)) : bSortI S (.loc n) = some (.val (.list ((sortN r).map fun x => .int (x : Nat)))) := by
  show ((oS S[n]?).bind fun p => if p.1 = true then (intsU p.2).map fun ns => W.val (.list ((sortI ns).map .int)) else none) = _
  rw [h]
  show (intsU (r.map fun x => (.int (x : Nat) : U))).map _ = _
  rw [ints_nat]
  show some (W.val (.list ((sortI (r.map fun x => ((x : Nat) : Int))).map .int))) = _
  rw [sortN_eq, List.map_map]; rfl
theorem x_tupL {S : Store} {us : List U} : bTup S (.val (.list us)) = some (.val (.tuple us)) := rfl
/-- tuple([tuple(sorted(row)) for row in rows]) -/
theorem x_out {own : List Nat} {k : Nat} {f : M} {env : Env} {S : Store} {R : List (List Nat)} (hf : f env (RowsAt S R) = .ok (.loc (S.length + R.length)) (RowsAt S R)) (hk : k < env.length) (ho : own = [k]) (hz : R.length < 100000) :
    mBi (on1 bTup) (mCons (mSnap (mComp own (itAny f) (.nm k) none (mBi (on1 bTup) (mCons (mBi (on1 bSortI) (mCons (mVar k) mNil)) mNil)))) mNil) env (RowsAt S R) = .ok (.val (tourU (R.map sortN))) (RowsAt S R) := by
  subst ho
  have hg : ∀ (env : Env) (k : Nat) (w : W), k < env.length → eget (eset env k (some w)) k = some w := by
    intro env
    induction env with
    | nil => intro k w h; exact absurd h (by simp)
    | cons a env ih =>
      intro k w h
      cases k with
      | zero => rfl
      | succ k => exact ih k w (by simpa using h)
  have hS : oI (RowsAt S R)[S.length + R.length]? = some (true, (List.range R.length).map fun i => W.loc (S.length + i)) := by
    rw [rowsAt_lol]
    show some (true, ((List.range R.length).map (S.length + ·)).map W.loc) = _
    rw [List.map_map]; rfl
  let g : W → W := fun w => match w with
    | .loc j => .val (natU (sortN ((R[j - S.length]?).getD [])))
    | w => w
  have hc := compV_map (tg := .nm k) (elt := mBi (on1 bTup) (mCons (mBi (on1 bSortI) (mCons (mVar k) mNil)) mNil)) (env := wipeE env [k]) (S := RowsAt S R) (n := S.length + R.length) g hS (fun w hw => by
    obtain ⟨i, hi, rfl⟩ := List.mem_map.mp hw
    have hi := List.mem_range.mp hi
    refine ⟨_, rfl, ?_⟩
    have h1 : eget (eset (wipeE env [k]) k (some (W.loc (S.length + i)))) k = some (W.loc (S.length + i)) := hg _ _ _ (by rw [wipeE_length]; exact hk)
    rw [x_bi, x_cons, x_bi, x_cons, x_var, h1, x_opt, x_mcK, x_nil, x_mcL, x_mbK, x_on1, x_sort (rowsAt_row hi), x_opt, x_mcK, x_nil, x_mcL, x_mbK, x_on1, x_tupL, x_opt]
    show Out.ok _ _ = Out.ok (W.val (natU (sortN ((R[S.length + i - S.length]?).getD [])))) _
    rw [show S.length + i - S.length = i by omega, List.getElem?_eq_getElem hi]
    rfl) (f := 100000) (i := 0) (by simp; omega)
  have hm := comp_live (own := [k]) (x_anyV hf) hc (by simp; omega)
  have e : (((List.range R.length).map fun i => W.loc (S.length + i)).drop 0).map g = List.map W.val ((R.map sortN).map natU) := by
    rw [List.drop_zero]
    refine List.ext_getElem (by simp) fun i h1 h2 => ?_
    simp -implicitDefEqProofs only [List.getElem_map, List.getElem_range]
    show W.val (natU (sortN ((R[S.length + i - S.length]?).getD []))) = _
    have hi : i < R.length := by simpa using h2
    rw [show S.length + i - S.length = i by omega, List.getElem?_eq_getElem hi]
    rfl
  rw [e] at hm
  rw [x_bi, x_cons, x_sn, hm, x_snK, x_mcK, x_nil, x_mcL, x_mbK, x_on1, x_tupL, x_opt]
  rfl
end Rb

/-! Rb24: signed orders and their tournaments. -/
namespace Rb
open PySem

def sgU (p : Nat × Bool) : U := .tuple [.int (p.1 : Nat), .bool p.2]
def ordU (o : List (Nat × Bool)) : U := .tuple (o.map sgU)
theorem ord_len {S : Store} {o : List (Nat × Bool)} : bLen S (.val (ordU o)) = some (.val (.int (o.length : Nat))) := by unfold ordU; rw [x_lenV, List.length_map]
theorem ord_get {S : Store} {o : List (Nat × Bool)} {i : Nat} (h : i < o.length) : gIx S (.val (ordU o)) (.val (.int (i : Nat))) = some (.val (sgU o[i])) := x_ixT (by rw [List.getElem?_map, List.getElem?_eq_getElem h]; rfl)
theorem sg_0 {S : Store} {p : Nat × Bool} : gIx S (.val (sgU p)) (.val (.int 0)) = some (.val (.int (p.1 : Nat))) := rfl
theorem sg_1 {S : Store} {p : Nat × Bool} : gIx S (.val (sgU p)) (.val (.int 1)) = some (.val (.bool p.2)) := rfl
structure OkO (o : List (Nat × Bool)) : Prop where
  one : 1 ≤ o.length
  most : o.length ≤ 8
  low : ∀ p ∈ o, p.1 < o.length
  nd : (o.map (·.1)).Nodup
def F_is_player (cl : CallO) : SM :=
  (sSeq (sRet (mAnd (m1 (gIsi "int") (mVar 0)) (mAnd (m1 gNot (m1 (gIsi "bool") (mVar 0))) (mChain gLe gLt (mLit (.int 0)) (mVar 0) (mVar 1)))))
    sNil)
theorem is_player_run {cl : CallO} {S : Store} {v many : Int} : runF ⟨2, 2, false, F_is_player⟩ cl [.val (.int v), .val (.int many)] S = .ok (.val (.bool (decide (0 ≤ v ∧ v < many)))) S := by
  rw [run_rt (w := .val (.bool (decide (0 ≤ v ∧ v < many)))) (S' := S)]
  · exact fin_same rfl
  · show F_is_player cl [some (.val (.int v)), some (.val (.int many))] S = _
    unfold F_is_player
    rw [x_seq, x_ret, x_and, x_m1, x_var, x_g0, x_opt, x_m1K, x_isiU, tyI, x_opt, x_andT, x_and, x_m1, x_m1, x_var, x_g0, x_opt, x_m1K, x_isiU, tyIb, x_opt, x_m1K, x_not, x_opt, Bool.not_false, x_andT]
    have q : ∀ b : Bool, (if b = true then (Out.ok (.val (.bool (decide (v < many)))) S : Out W) else .ok (.val (.bool false)) S) = .ok (.val (.bool (b && decide (v < many)))) S := fun b => by cases b <;> rfl
    simp -implicitDefEqProofs only [x_ch, x_lit, x_var, x_gs, x_g0, x_opt, x_chK, x_chL, x_leI, x_ltI, x_chM, x_m2L, q, x_retK, x_seqR]
    rw [Bool.decide_and]
def Player (cl : CallO) : Prop := ∀ v many S, cl "is_player" [.val (.int v), .val (.int many)] S = .ok (.val (.bool (decide (0 ≤ v ∧ v < many)))) S
def F_is_signed (cl : CallO) : SM :=
  (sSeq (sIf (mOr (m1 gNot (m1 (gIsi "tuple") (mVar 0))) (m2 gNe (mBi (on1 bLen) (mCons (mVar 0) mNil)) (mLit (.int 2)))) (sSeq (sRet (mLit (.bool false)))
    sNil) sNil)
    (sSeq (sRet (mAnd (mCall cl "is_player" 2 (mCons (m2 gIx (mVar 0) (mLit (.int 0))) (mCons (mVar 1) mNil))) (m1 (gIsi "bool") (m2 gIx (mVar 0) (mLit (.int 1))))))
    sNil))
theorem is_signed_run {cl : CallO} {S : Store} {p : Nat × Bool} {many : Nat} (hp : Player cl) (h : p.1 < many) : runF ⟨2, 2, false, F_is_signed⟩ cl [.val (sgU p), .val (.int (many : Nat))] S = .ok (.val (.bool true)) S := by
  rw [run_rt (w := .val (.bool true)) (S' := S)]
  · exact fin_same rfl
  · show F_is_signed cl [some (.val (sgU p)), some (.val (.int (many : Nat)))] S = _
    unfold F_is_signed
    have hl : bLen S (.val (sgU p)) = some (.val (.int 2)) := rfl
    rw [x_seq, x_if, x_or, x_m1, x_m1, x_var, x_g0, x_opt, x_m1K, x_isiU, show isTy "tuple" (sgU p) = true from rfl, x_opt, x_m1K, x_not, x_opt, Bool.not_true, x_orF, x_m2, x_bi, x_cons, x_var, x_g0, x_opt, x_mcK, x_nil, x_mcL, x_mbK, x_on1, hl, x_opt, x_m2K, x_lit, x_m2L, x_neI, x_opt,
      decide_eq_true (show (2 : Int) = 2 from rfl), Bool.not_true, x_tstB, x_ifF, x_sNil, x_seqN]
    simp -implicitDefEqProofs only [x_seq, x_ret, x_and, x_call, x_cons, x_nil, x_m2, x_var, x_g0, x_gs, x_opt, x_m2K, x_lit, x_m2L, sg_0, x_mcK, x_mcL, x_callK2, hp _ _ S, decide_eq_true (show 0 ≤ ((p.1 : Nat) : Int) ∧ ((p.1 : Nat) : Int) < (many : Nat) by omega), x_andT, x_m1, sg_1, x_m1K, x_isiU, tyB, x_retK, x_seqR]
def Signed (cl : CallO) : Prop := ∀ (p : Nat × Bool) (many : Nat) S, p.1 < many → cl "is_signed" [.val (sgU p), .val (.int (many : Nat))] S = .ok (.val (.bool true)) S
def F_is_order (cl : CallO) : SM :=
  (sSeq (sIf (mOr (m1 gNot (m1 (gIsi "tuple") (mVar 0))) (m1 gNot (mChain gLe gLe (mLit (.int 1)) (mBi (on1 bLen) (mCons (mVar 0) mNil)) (mLit (.int 8))))) (sSeq (sRet (mLit (.bool false)))
    sNil) sNil)
    (sSeq (sIf (m1 gNot (mBi (on1 bAll) (mCons (mSnap (mComp [1] (itAny (mVar 0)) (.nm 1) none (mCall cl "is_signed" 2 (mCons (mVar 1) (mCons (mBi (on1 bLen) (mCons (mVar 0) mNil)) mNil))))) mNil))) (sSeq (sRet (mLit (.bool false)))
    sNil) sNil)
    (sSeq (sRet (m2 gEq (mDcLen [1] (itAny (mVar 0)) (.nm 1) none (m2 gIx (mVar 1) (mLit (.int 0)))) (mBi (on1 bLen) (mCons (mVar 0) mNil))))
    sNil)))
theorem keys_nat (l : List Nat) : keysW (l.map fun x => W.val (.int (x : Nat))) = some (l.map fun x => .inl ((x : Nat) : Int)) := by
  induction l with
  | nil => rfl
  | cons a l ih =>
    show (keyW (W.val (.int (a : Nat)))).bind (fun k => (keysW (l.map fun x => W.val (.int (x : Nat)))).map fun ks => k :: ks) = _
    rw [ih]; rfl
theorem addK_nd : ∀ (l acc : List Nat), (acc ++ l).Nodup → (l.map fun x => (.inl ((x : Nat) : Int) : L2.Key)).foldl addK (acc.map fun x => .inl ((x : Nat) : Int)) = (acc ++ l).map fun x => .inl ((x : Nat) : Int)
  | [], acc, _ => by rw [List.append_nil]; rfl
  | a :: l, acc, h => by
    rw [List.map_cons, List.foldl_cons]
    have hn : ¬ a ∈ acc := fun z => by
      have := List.nodup_append.mp h
      exact this.2.2 a z a List.mem_cons_self rfl
    have e : addK (acc.map fun x => .inl ((x : Nat) : Int)) (.inl ((a : Nat) : Int)) = (acc ++ [a]).map fun x => .inl ((x : Nat) : Int) := by
      unfold addK
      rw [if_neg, List.map_append]; rfl
      intro hq
      obtain ⟨k, hk, e⟩ := List.any_eq_true.mp hq
      obtain ⟨x, hx, rfl⟩ := List.mem_map.mp hk
      have e := of_decide_eq_true e
      have e2 : ((x : Nat) : Int) = (a : Nat) := Sum.inl.inj e
      have : x = a := by omega
      exact hn (this ▸ hx)
    rw [e, addK_nd l (acc ++ [a]) (by rw [List.append_assoc]; exact h), List.append_assoc]
    rfl
theorem is_order_run {cl : CallO} {S : Store} {o : List (Nat × Bool)} (hs : Signed cl) (h : OkO o) : runF ⟨1, 2, false, F_is_order⟩ cl [.val (ordU o)] S = .ok (.val (.bool true)) S := by
  have hm := h.most
  have ho := h.one
  rw [run_rt (w := .val (.bool true)) (S' := S)]
  · exact fin_same rfl
  · show F_is_order cl [some (.val (ordU o)), none] S = _
    unfold F_is_order
    have h0 : mOr (m1 gNot (m1 (gIsi "tuple") (mVar 0))) (m1 gNot (mChain gLe gLe (mLit (.int 1)) (mBi (on1 bLen) (mCons (mVar 0) mNil)) (mLit (.int 8)))) [some (.val (ordU o)), none] S = .ok (.val (.bool false)) S := by
      rw [x_or, x_m1, x_m1, x_var, x_g0, x_opt, x_m1K, x_isiU, show isTy "tuple" (ordU o) = true from rfl, x_opt, x_m1K, x_not, x_opt, Bool.not_true, x_orF]
      simp -implicitDefEqProofs only [x_m1, x_ch, x_lit, x_chK, x_bi, x_cons, x_nil, x_var, x_g0, x_opt, x_mcK, x_mcL, x_mbK, x_on1, ord_len, x_chL, x_leI, decide_eq_true (show (1 : Int) ≤ (o.length : Nat) by omega), x_chM, reduceIte, x_m2L, decide_eq_true (show ((o.length : Nat) : Int) ≤ 8 by omega), x_m1K, x_not, Bool.not_true]
    have h1 : mBi (on1 bAll) (mCons (mSnap (mComp [1] (itAny (mVar 0)) (.nm 1) none (mCall cl "is_signed" 2 (mCons (mVar 1) (mCons (mBi (on1 bLen) (mCons (mVar 0) mNil)) mNil))))) mNil) [some (.val (ordU o)), none] S = .ok (.val (.bool true)) S := by
      rw [x_allB (ws := (o.map sgU).map .val) (S1 := S) (fun _ => true) (x_anyT (by rw [x_var, x_g0, x_opt]; rfl)) (fun w hw' => ?_) (by simp; omega)]
      · congr 3
        rw [List.all_eq_true]; intro _ _; rfl
      · obtain ⟨u, hu, rfl⟩ := List.mem_map.mp hw'
        obtain ⟨p, hp, rfl⟩ := List.mem_map.mp hu
        refine ⟨_, rfl, ?_⟩
        simp -implicitDefEqProofs only [x_m1, x_m2, x_m1K, x_m2K, x_m2L, x_var, x_lit, x_g0, x_gs, x_nil, x_cons, x_mcK, x_mcL, x_bi, x_mbK, x_on1, x_on2, x_call, x_callK0, x_callK1, x_callK2, x_callK3, x_callK4, x_tup, x_tupK0, x_tupK1, x_tupK2, x_tupK3, x_tupK4, x_and, x_or, x_andB, x_orB, x_ite, x_iteB, x_opt, x_not, x_neg, x_ch, x_chK, x_chL, x_chM, x_me, x_lst, x_seq, x_seqN, x_seqR, x_sNil, x_ret, x_retK, x_retN, x_exp, x_expK, x_asg, x_asgN, x_e0, x_es, x_tstB, x_if, x_ifB, x_set, x_set1, x_set2, x_addI, x_subI, x_ltI, x_leI, x_gtI, x_geI, x_eqI, x_neI, x_eqB, x_neB, x_lenV, x_lenL, x_isi, reduceIte, wipeE, ord_len]
        exact hs p o.length S (h.low p hp)
    have h2 : mDcLen [1] (itAny (mVar 0)) (.nm 1) none (m2 gIx (mVar 1) (mLit (.int 0))) [some (.val (ordU o)), none] S = .ok (.val (.int (o.length : Nat))) S := by
      have hi : itAny (mVar 0) [some (.val (ordU o)), none] S = .ok (.fix ((o.map sgU).map .val)) S := x_anyT (by rw [x_var, x_g0, x_opt]; rfl)
      let g : W → W := fun w => match w with
        | .val (.tuple [.int i, _]) => .val (.int i)
        | w => w
      have hc : compL (.nm 1) none (m2 gIx (mVar 1) (mLit (.int 0))) (wipeE [some (.val (ordU o)), none] [1]) ((o.map sgU).map .val) S = .ok (((o.map sgU).map .val).map g) S := compL_map g fun w hw => by
        obtain ⟨u, hu, rfl⟩ := List.mem_map.mp hw
        obtain ⟨p, hp, rfl⟩ := List.mem_map.mp hu
        refine ⟨_, rfl, ?_⟩
        simp -implicitDefEqProofs only [wipeE, x_es, x_e0, x_m2, x_var, x_gs, x_g0, x_opt, x_m2K, x_lit, x_m2L, sg_0]
        rfl
      have e : ((o.map sgU).map W.val).map g = (o.map (·.1)).map fun x => W.val (.int (x : Nat)) := by
        rw [List.map_map, List.map_map, List.map_map]; rfl
      rw [e] at hc
      unfold mDcLen
      rw [hi, Out.bind_ok]
      show (noEx (compL (.nm 1) none (m2 gIx (mVar 1) (mLit (.int 0))) (wipeE [some (.val (ordU o)), none] [1]) ((o.map sgU).map .val) S)).bind _ = _
      rw [hc, noEx_ok, Out.bind_ok, keys_nat]
      have hn := addK_nd (o.map (·.1)) [] (by rw [List.nil_append]; exact h.nd)
      have hn' : ((o.map (·.1)).map fun x => (.inl ((x : Nat) : Int) : L2.Key)).foldl addK [] = (o.map (·.1)).map fun x => .inl ((x : Nat) : Int) := hn
      simp -implicitDefEqProofs only [hn', List.length_map]
      rw [if_pos (by omega)]
    rw [x_seq, x_if, h0, x_tstB, x_ifF, x_sNil, x_seqN, x_seq, x_if, x_m1, h1, x_m1K, x_not, x_opt, Bool.not_true, x_tstB, x_ifF, x_sNil, x_seqN, x_seq, x_ret, x_m2, h2, x_m2K, x_bi, x_cons, x_var, x_g0, x_opt, x_mcK, x_nil, x_mcL, x_mbK, x_on1, ord_len, x_opt, x_m2L, x_eqI, decide_eq_true rfl, x_opt, x_retK, x_seqR]

/-! ### the tournament of an order -/
def addP (x : Nat × Bool) (R : List (List Nat)) (y : Nat × Bool) : List (List Nat) := if x.2 = y.2 then addR R x.1 y.1 else addR R y.1 x.1
def stepO (o : List (Nat × Bool)) (R : List (List Nat)) (k : Nat) : List (List Nat) := match o[k]? with
  | some x => (o.drop (k + 1)).foldl (addP x) R
  | none => R
def upto (o : List (Nat × Bool)) (i : Nat) : List (List Nat) := (List.range i).foldl (stepO o) (List.replicate o.length [])
def T_of (o : List (Nat × Bool)) : List (List Nat) := (upto o o.length).map sortN
theorem addP_len {x y R} : (addP x R y).length = R.length := by
  unfold addP
  split <;> exact addR_len
theorem foldP_len {x} : ∀ {ys : List (Nat × Bool)} {R : List (List Nat)}, (ys.foldl (addP x) R).length = R.length
  | [], _ => rfl
  | y :: ys, R => by rw [List.foldl_cons, foldP_len, addP_len]
theorem stepO_len {o R k} : (stepO o R k).length = R.length := by
  unfold stepO
  split
  · exact foldP_len
  · rfl
theorem upto_len {o : List (Nat × Bool)} : ∀ {i : Nat}, (upto o i).length = o.length
  | 0 => by unfold upto; simp
  | i + 1 => by
    have : upto o (i + 1) = stepO o (upto o i) i := by unfold upto; rw [List.range_succ, List.foldl_append]; rfl
    rw [this, stepO_len, upto_len]
theorem upto_succ {o : List (Nat × Bool)} {i : Nat} : upto o (i + 1) = stepO o (upto o i) i := by unfold upto; rw [List.range_succ, List.foldl_append]; rfl
def Short (R : List (List Nat)) (c : Nat) : Prop := ∀ (p : Nat) (h : p < R.length), R[p].length ≤ c
theorem addR_short {R : List (List Nat)} {p q c : Nat} (h : Short R c) : Short (addR R p q) (c + 1) := by
  intro i hi
  have hi' : i < R.length := by rw [addR_len] at hi; exact hi
  rw [addR_get hi']
  have := h i hi'
  split
  · simp; omega
  · omega
theorem addP_short {x y} {R : List (List Nat)} {c : Nat} (h : Short R c) : Short (addP x R y) (c + 1) := by
  unfold addP
  split <;> exact addR_short h
theorem foldP_short {x} : ∀ {ys : List (Nat × Bool)} {R : List (List Nat)} {c : Nat}, Short R c → Short (ys.foldl (addP x) R) (c + ys.length)
  | [], _, _, h => h
  | y :: ys, R, c, h => by
    have := foldP_short (x := x) (ys := ys) (addP_short (x := x) (y := y) h)
    rw [List.foldl_cons, List.length_cons, show c + (ys.length + 1) = c + 1 + ys.length by omega]
    exact this
theorem upto_short {o : List (Nat × Bool)} : ∀ {i : Nat}, Short (upto o i) (i * o.length)
  | 0 => by
    intro p hp
    unfold upto
    simp
  | i + 1 => by
    rw [upto_succ]
    unfold stepO
    split
    · have := foldP_short (x := ‹Nat × Bool›) (ys := o.drop (i + 1)) (upto_short (o := o) (i := i))
      intro p hp
      have q := this p hp
      rw [List.length_drop] at q
      rw [Nat.succ_mul]
      omega
    · intro p hp
      have q := upto_short (o := o) (i := i) p hp
      rw [Nat.succ_mul]
      omega
end Rb

/-! Rb25: the two texts that make an order's tournament. -/
namespace Rb
open PySem

theorem x_slT {f : M} {fl : MO} {env : Env} {S : Store} {us : List U} {k : Nat} (h1 : f env S = .ok (.val (.tuple us)) S) (h2 : fl env S = .ok (some (k : Int)) S) : mSl f fl mNo env S = .ok (.val (.tuple (us.drop k))) S := by
  unfold mSl
  rw [h1, Out.bind_ok, h2, Out.bind_ok, x_no, Out.bind_ok]
  show (Out.ok (W.val (.tuple (cutU us (some (k : Int)) none))) S : Out W) = _
  congr 3
  unfold cutU
  rw [HT.sIx_none, HT.sIx_nat]
  by_cases h : k ≤ us.length
  · rw [Nat.min_eq_left h, List.take_of_length_le (Nat.le_of_eq (by rw [List.length_drop]))]
  · rw [Nat.min_eq_right (by omega), List.drop_eq_nil_of_le (Nat.le_refl _), List.drop_eq_nil_of_le (by omega), List.take_nil]
theorem x_prt {f : M} {env : Env} {S : Store} {i : Int} (h : f env S = .ok (.val (.int i)) S) : mPart f env S = .ok (some i) S := by
  unfold mPart
  rw [h]; rfl
theorem fold_take {x : Nat × Bool} {ys : List (Nat × Bool)} {R : List (List Nat)} {j : Nat} (h : j < ys.length) : (ys.take (j + 1)).foldl (addP x) R = addP x ((ys.take j).foldl (addP x) R) ys[j] := by
  rw [List.take_succ, List.getElem?_eq_getElem h, List.foldl_append]
  rfl
def F_tournament_by (cl : CallO) : SM :=
  (sSeq (sAsg (.nm 2) (mBox (mComp [1] (itAny (mVar 0)) (.nm 1) none (mBox (mLstD mNil)))))
    (sSeq (sFor (itEn (mCons (mVar 0) mNil)) (.tp [(.nm 3), (.tp [(.nm 4), (.nm 5)])]) (sSeq (sFor (itAny (mSl (mVar 0) (mPart (m2 gAdd (mVar 3) (mLit (.int 1)))) mNo)) (.tp [(.nm 6), (.nm 7)]) (sSeq (sIf (m2 gEq (mVar 5) (mVar 7)) (sSeq (sExpr (mMeth "list" gApp (m2 gIx (mVar 2) (mVar 4)) (mCons (mVar 6) mNil)))
    sNil) (sSeq (sExpr (mMeth "list" gApp (m2 gIx (mVar 2) (mVar 6)) (mCons (mVar 4) mNil)))
    sNil))
    sNil))
    sNil))
    (sSeq (sRet (mBi (on1 bTup) (mCons (mSnap (mComp [8] (itAny (mVar 2)) (.nm 8) none (mBi (on1 bTup) (mCons (mBi (on1 bSortI) (mCons (mVar 8) mNil)) mNil)))) mNil)))
    sNil)))
theorem env_by {o : List (Nat × Bool)} {S : Store} {L : Nat} {i : Nat} {x : Nat × Bool} : keepE [some (.val (ordU o)), none, some (.loc L), none, none, none, none, none, none] [some (.val (ordU o)), none, some (.loc L), some (.val (.int (i : Nat))), some (.val (.int (x.1 : Nat))), some (.val (.bool x.2)), none, none, none] = [some (.val (ordU o)), none, some (.loc L), none, none, none, none, none, none] := rfl
theorem short_at {R : List (List Nat)} {c p : Nat} (h : Short R c) (hp : p < R.length) (hc : c < 16777216) : R[p].length < 16777216 := by
  have := h p hp
  omega
theorem tournament_by_run {cl : CallO} {S : Store} {o : List (Nat × Bool)} (h : OkO o) : runF ⟨1, 9, false, F_tournament_by⟩ cl [.val (ordU o)] S = .ok (.val (tourU (T_of o))) S := by
  have hm := h.most
  have ho := h.one
  rw [run_rt (w := .val (tourU (T_of o))) (S' := RowsAt S (upto o o.length))]
  · rw [fin_v, rowsAt_take]
  · show F_tournament_by cl [some (.val (ordU o)), none, none, none, none, none, none, none, none] S = _
    unfold F_tournament_by
    have hi : itAny (mVar 0) [some (.val (ordU o)), none, none, none, none, none, none, none, none] S = .ok (.fix ((o.map sgU).map .val)) S := x_anyT (by rw [x_var, x_g0, x_opt]; rfl)
    have h1 : mBox (mComp [1] (itAny (mVar 0)) (.nm 1) none (mBox (mLstD mNil))) [some (.val (ordU o)), none, none, none, none, none, none, none, none] S = .ok (.loc (S.length + o.length)) (RowsAt S (upto o 0)) := by
      rw [x_new hi (fun w _ => ⟨_, rfl⟩) (by simp; omega) (by simp; omega)]
      rw [List.length_map, List.length_map]
      rfl
    have hen : ∀ S', itEn (mCons (mVar 0) mNil) [some (.val (ordU o)), none, some (.loc (S.length + o.length)), none, none, none, none, none, none] S' = .ok (.fix (enW 0 (o.map sgU))) S' := fun S' => by
      unfold itEn
      rw [x_cons, x_var, x_g0, x_opt, x_mcK, x_nil, x_mcL]
      rfl
    have hf : ∃ env' S', sFor (itEn (mCons (mVar 0) mNil)) (.tp [(.nm 3), (.tp [(.nm 4), (.nm 5)])]) (sSeq (sFor (itAny (mSl (mVar 0) (mPart (m2 gAdd (mVar 3) (mLit (.int 1)))) mNo)) (.tp [(.nm 6), (.nm 7)]) (sSeq (sIf (m2 gEq (mVar 5) (mVar 7)) (sSeq (sExpr (mMeth "list" gApp (m2 gIx (mVar 2) (mVar 4)) (mCons (mVar 6) mNil)))
    sNil) (sSeq (sExpr (mMeth "list" gApp (m2 gIx (mVar 2) (mVar 6)) (mCons (mVar 4) mNil)))
    sNil))
    sNil))
    sNil) [some (.val (ordU o)), none, some (.loc (S.length + o.length)), none, none, none, none, none, none] (RowsAt S (upto o 0)) = .nx env' S' ∧ (env' = [some (.val (ordU o)), none, some (.loc (S.length + o.length)), none, none, none, none, none, none] ∧ S' = RowsAt S (upto o (enW 0 (o.map sgU)).length)) := by
      refine for_inv (fun i env' S' => env' = [some (.val (ordU o)), none, some (.loc (S.length + o.length)), none, none, none, none, none, none] ∧ S' = RowsAt S (upto o i)) (hen _) ⟨rfl, rfl⟩ ?_
      rintro i w env S1 hw ⟨rfl, rfl⟩
      rw [enW_get] at hw
      obtain ⟨u, hu, rfl⟩ := Option.map_eq_some_iff.mp hw
      rw [List.getElem?_map] at hu
      obtain ⟨x, hx, rfl⟩ := Option.map_eq_some_iff.mp hu
      obtain ⟨hil, hx'⟩ := List.getElem?_eq_some_iff.mp hx
      rw [Nat.zero_add]
      have hxm : x ∈ o := List.mem_of_getElem? hx
      -- the inner walk
      have hsl : itAny (mSl (mVar 0) (mPart (m2 gAdd (mVar 3) (mLit (.int 1)))) mNo) [some (.val (ordU o)), none, some (.loc (S.length + o.length)), some (.val (.int (i : Nat))), some (.val (.int (x.1 : Nat))), some (.val (.bool x.2)), none, none, none] (RowsAt S (upto o i)) = .ok (.fix (((o.map sgU).drop (i + 1)).map .val)) (RowsAt S (upto o i)) := by
        refine x_anyT (x_slT (by rw [x_var, x_g0, x_opt]; rfl) (x_prt ?_))
        rw [x_m2, x_var, x_gs, x_gs, x_gs, x_g0, x_opt, x_m2K, x_lit, x_m2L, x_addI, x_opt]
        rfl
      have hin : ∃ env' S', sFor (itAny (mSl (mVar 0) (mPart (m2 gAdd (mVar 3) (mLit (.int 1)))) mNo)) (.tp [(.nm 6), (.nm 7)]) (sSeq (sIf (m2 gEq (mVar 5) (mVar 7)) (sSeq (sExpr (mMeth "list" gApp (m2 gIx (mVar 2) (mVar 4)) (mCons (mVar 6) mNil)))
    sNil) (sSeq (sExpr (mMeth "list" gApp (m2 gIx (mVar 2) (mVar 6)) (mCons (mVar 4) mNil)))
    sNil))
    sNil) [some (.val (ordU o)), none, some (.loc (S.length + o.length)), some (.val (.int (i : Nat))), some (.val (.int (x.1 : Nat))), some (.val (.bool x.2)), none, none, none] (RowsAt S (upto o i)) = .nx env' S' ∧
          (env' = [some (.val (ordU o)), none, some (.loc (S.length + o.length)), some (.val (.int (i : Nat))), some (.val (.int (x.1 : Nat))), some (.val (.bool x.2)), none, none, none] ∧ S' = RowsAt S (((o.drop (i + 1)).take (((o.map sgU).drop (i + 1)).map W.val).length).foldl (addP x) (upto o i))) := by
        refine for_inv (fun j env' S' => env' = [some (.val (ordU o)), none, some (.loc (S.length + o.length)), some (.val (.int (i : Nat))), some (.val (.int (x.1 : Nat))), some (.val (.bool x.2)), none, none, none] ∧ S' = RowsAt S (((o.drop (i + 1)).take j).foldl (addP x) (upto o i))) hsl ⟨rfl, by rw [List.take_zero]; rfl⟩ ?_
        rintro j w env S1 hw ⟨rfl, rfl⟩
        rw [← List.map_drop, List.getElem?_map, List.getElem?_map] at hw
        obtain ⟨u, hu, rfl⟩ := Option.map_eq_some_iff.mp hw
        obtain ⟨y, hy, rfl⟩ := Option.map_eq_some_iff.mp hu
        obtain ⟨hj, hy'⟩ := List.getElem?_eq_some_iff.mp hy
        have hym : y ∈ o := List.mem_of_mem_drop (List.mem_of_getElem? hy)
        generalize hR : ((o.drop (i + 1)).take j).foldl (addP x) (upto o i) = R
        have hRl : R.length = o.length := by rw [← hR, foldP_len, upto_len]
        have hsh : Short R (i * o.length + 8) := by
          have q := foldP_short (x := x) (ys := (o.drop (i + 1)).take j) (upto_short (o := o) (i := i))
          rw [hR] at q
          intro p hp
          have := q p hp
          have : ((o.drop (i + 1)).take j).length ≤ 8 := by rw [List.length_take, List.length_drop]; omega
          omega
        have hio : i * o.length ≤ 64 := by
          have : i * o.length ≤ 8 * 8 := Nat.mul_le_mul (by omega) hm
          omega
        have hx1 : x.1 < R.length := by rw [hRl]; exact h.low x hxm
        have hy1 : y.1 < R.length := by rw [hRl]; exact h.low y hym
        have ixx : ∀ p, p < R.length → gIx (RowsAt S R) (.loc (S.length + o.length)) (.val (.int (p : Nat))) = some (.loc (S.length + p)) := fun p hp => by rw [← hRl]; exact x_ixR hp
        refine ⟨_, [some (.val (ordU o)), none, some (.loc (S.length + o.length)), some (.val (.int (i : Nat))), some (.val (.int (x.1 : Nat))), some (.val (.bool x.2)), some (.val (.int (y.1 : Nat))), some (.val (.bool y.2)), none], RowsAt S (addP x R y), rfl, ?_, ?_, rfl, ?_⟩
        · show sSeq _ sNil [some (.val (ordU o)), none, some (.loc (S.length + o.length)), some (.val (.int (i : Nat))), some (.val (.int (x.1 : Nat))), some (.val (.bool x.2)), some (.val (.int (y.1 : Nat))), some (.val (.bool y.2)), none] (RowsAt S R) = _
          rw [x_seq, x_if, x_m2, x_var, x_gs, x_gs, x_gs, x_gs, x_gs, x_g0, x_opt, x_m2K, x_var, x_gs, x_gs, x_gs, x_gs, x_gs, x_gs, x_gs, x_g0, x_opt, x_m2L, x_eqB, x_opt, x_tstB]
          by_cases hs : x.2 = y.2
          · rw [decide_eq_true hs, x_ifT, x_seq, x_app (p := x.1) (q := y.1) hx1 (short_at hsh hx1 (by omega)), x_seqN, x_sNil, x_seqN, x_sNil]
            · unfold addP; rw [if_pos hs]
            · rw [x_m2, x_var, x_gs, x_gs, x_g0, x_opt, x_m2K, x_var, x_gs, x_gs, x_gs, x_gs, x_g0, x_opt, x_m2L, ixx _ hx1, x_opt]
            · rw [x_cons, x_var, x_gs, x_gs, x_gs, x_gs, x_gs, x_gs, x_g0, x_opt, x_mcK, x_nil, x_mcL]
          · rw [decide_eq_false hs, x_ifF, x_seq, x_app (p := y.1) (q := x.1) hy1 (short_at hsh hy1 (by omega)), x_seqN, x_sNil, x_seqN, x_sNil]
            · unfold addP; rw [if_neg hs]
            · rw [x_m2, x_var, x_gs, x_gs, x_g0, x_opt, x_m2K, x_var, x_gs, x_gs, x_gs, x_gs, x_gs, x_gs, x_g0, x_opt, x_m2L, ixx _ hy1, x_opt]
            · rw [x_cons, x_var, x_gs, x_gs, x_gs, x_gs, x_g0, x_opt, x_mcK, x_nil, x_mcL]
        · show (decide (S.length + o.length < (RowsAt S R).length) && true) = true
          rw [rowsAt_len, hRl, decide_eq_true (by omega)]; rfl
        · rw [fold_take hj, hy', hR]
          rw [List.take_of_length_le (Nat.le_of_eq (by rw [rowsAt_len, rowsAt_len, addP_len]))]
      obtain ⟨env', S', hin, rfl, rfl⟩ := hin
      refine ⟨_, [some (.val (ordU o)), none, some (.loc (S.length + o.length)), some (.val (.int (i : Nat))), some (.val (.int (x.1 : Nat))), some (.val (.bool x.2)), none, none, none], RowsAt S (upto o (i + 1)), rfl, ?_, ?_, rfl, ?_⟩
      · show sSeq _ sNil [some (.val (ordU o)), none, some (.loc (S.length + o.length)), some (.val (.int (i : Nat))), some (.val (.int (x.1 : Nat))), some (.val (.bool x.2)), none, none, none] (RowsAt S (upto o i)) = _
        rw [x_seq, hin, x_seqN, x_sNil, upto_succ]
        unfold stepO
        rw [hx]
        congr 2
        rw [List.take_of_length_le (Nat.le_of_eq (by rw [List.length_map, List.length_drop, List.length_drop, List.length_map]))]
      · show (decide (S.length + o.length < (RowsAt S (upto o i)).length) && true) = true
        rw [rowsAt_len, upto_len, decide_eq_true (by omega)]; rfl
      · rw [List.take_of_length_le (Nat.le_of_eq (by rw [rowsAt_len, rowsAt_len, upto_len, upto_len]))]
    obtain ⟨env', S', hf, rfl, rfl⟩ := hf
    rw [enW_len, List.length_map] at hf
    have hout := x_out (own := [8]) (k := 8) (f := mVar 2) (env := [some (.val (ordU o)), none, some (.loc (S.length + o.length)), none, none, none, none, none, none]) (S := S) (R := upto o o.length) (by rw [x_var, upto_len]; rfl) (by simp) rfl (by rw [upto_len]; omega)
    rw [x_seq, x_asg, h1, x_asgN]
    show seqK _ (.nx [some (.val (ordU o)), none, some (.loc (S.length + o.length)), none, none, none, none, none, none] _) = _
    rw [x_seqN, x_seq, hf, x_seqN, x_seq, x_ret, hout, x_retK, x_seqR]
    rfl
end Rb

/-! Rb26: _law_stands. -/
namespace Rb
open PySem

def F_stands (cl : CallO) : SM :=
  (sSeq (sAsg (.nm 2) (mBox (mComp [1] (itAny (mVar 0)) (.nm 1) none (mBox (mLstD mNil)))))
    (sSeq (sFor (itR1 (mCons (mBi (on1 bLen) (mCons (mVar 0) mNil)) mNil)) (.nm 3) (sSeq (sFor (itR2 (mCons (m2 gAdd (mVar 3) (mLit (.int 1))) (mCons (mBi (on1 bLen) (mCons (mVar 0) mNil)) mNil))) (.nm 4) (sSeq (sIf (m2 gEq (m2 gIx (m2 gIx (mVar 0) (mVar 3)) (mLit (.int 1))) (m2 gIx (m2 gIx (mVar 0) (mVar 4)) (mLit (.int 1)))) (sSeq (sExpr (mMeth "list" gApp (m2 gIx (mVar 2) (m2 gIx (m2 gIx (mVar 0) (mVar 3)) (mLit (.int 0)))) (mCons (m2 gIx (m2 gIx (mVar 0) (mVar 4)) (mLit (.int 0))) mNil)))
    sNil) (sSeq (sExpr (mMeth "list" gApp (m2 gIx (mVar 2) (m2 gIx (m2 gIx (mVar 0) (mVar 4)) (mLit (.int 0)))) (mCons (m2 gIx (m2 gIx (mVar 0) (mVar 3)) (mLit (.int 0))) mNil)))
    sNil))
    sNil))
    sNil))
    (sSeq (sRet (mBi (on1 bTup) (mCons (mSnap (mComp [5] (itAny (mVar 2)) (.nm 5) none (mBi (on1 bTup) (mCons (mBi (on1 bSortI) (mCons (mVar 5) mNil)) mNil)))) mNil)))
    sNil)))
/-- order[i][c] -/
theorem at_0 {o : List (Nat × Bool)} {env : Env} {S : Store} {i k : Nat} (hi : i < o.length) (h0 : eget env 0 = some (.val (ordU o))) (hk : eget env k = some (.val (.int (i : Nat)))) : m2 gIx (m2 gIx (mVar 0) (mVar k)) (mLit (.int 0)) env S = .ok (.val (.int ((o[i].1 : Nat) : Int))) S := by
  rw [x_m2, x_m2, x_var, h0, x_opt, x_m2K, x_var, hk, x_opt, x_m2L, ord_get hi, x_opt, x_m2K, x_lit, x_m2L, sg_0, x_opt]
theorem at_1 {o : List (Nat × Bool)} {env : Env} {S : Store} {i k : Nat} (hi : i < o.length) (h0 : eget env 0 = some (.val (ordU o))) (hk : eget env k = some (.val (.int (i : Nat)))) : m2 gIx (m2 gIx (mVar 0) (mVar k)) (mLit (.int 1)) env S = .ok (.val (.bool o[i].2)) S := by
  rw [x_m2, x_m2, x_var, h0, x_opt, x_m2K, x_var, hk, x_opt, x_m2L, ord_get hi, x_opt, x_m2K, x_lit, x_m2L, sg_1, x_opt]
theorem stands_run {cl : CallO} {S : Store} {o : List (Nat × Bool)} (h : OkO o) : runF ⟨1, 6, false, F_stands⟩ cl [.val (ordU o)] S = .ok (.val (tourU (T_of o))) S := by
  have hm := h.most
  have ho := h.one
  rw [run_rt (w := .val (tourU (T_of o))) (S' := RowsAt S (upto o o.length))]
  · rw [fin_v, rowsAt_take]
  · show F_stands cl [some (.val (ordU o)), none, none, none, none, none] S = _
    unfold F_stands
    have hi : itAny (mVar 0) [some (.val (ordU o)), none, none, none, none, none] S = .ok (.fix ((o.map sgU).map .val)) S := x_anyT (by rw [x_var, x_g0, x_opt]; rfl)
    have h1 : mBox (mComp [1] (itAny (mVar 0)) (.nm 1) none (mBox (mLstD mNil))) [some (.val (ordU o)), none, none, none, none, none] S = .ok (.loc (S.length + o.length)) (RowsAt S (upto o 0)) := by
      rw [x_new hi (fun w _ => ⟨_, rfl⟩) (by simp; omega) (by simp; omega)]
      rw [List.length_map, List.length_map]
      rfl
    have hr : ∀ S', itR1 (mCons (mBi (on1 bLen) (mCons (mVar 0) mNil)) mNil) [some (.val (ordU o)), none, some (.loc (S.length + o.length)), none, none, none] S' = .ok (.fix (rgW 0 o.length)) S' := fun S' => x_r1 (by rw [x_cons, x_bi, x_cons, x_var, x_g0, x_opt, x_mcK, x_nil, x_mcL, x_mbK, x_on1, ord_len, x_opt, x_mcK, x_nil, x_mcL]) (by omega)
    have hf : ∃ env' S', sFor (itR1 (mCons (mBi (on1 bLen) (mCons (mVar 0) mNil)) mNil)) (.nm 3) (sSeq (sFor (itR2 (mCons (m2 gAdd (mVar 3) (mLit (.int 1))) (mCons (mBi (on1 bLen) (mCons (mVar 0) mNil)) mNil))) (.nm 4) (sSeq (sIf (m2 gEq (m2 gIx (m2 gIx (mVar 0) (mVar 3)) (mLit (.int 1))) (m2 gIx (m2 gIx (mVar 0) (mVar 4)) (mLit (.int 1)))) (sSeq (sExpr (mMeth "list" gApp (m2 gIx (mVar 2) (m2 gIx (m2 gIx (mVar 0) (mVar 3)) (mLit (.int 0)))) (mCons (m2 gIx (m2 gIx (mVar 0) (mVar 4)) (mLit (.int 0))) mNil)))
    sNil) (sSeq (sExpr (mMeth "list" gApp (m2 gIx (mVar 2) (m2 gIx (m2 gIx (mVar 0) (mVar 4)) (mLit (.int 0)))) (mCons (m2 gIx (m2 gIx (mVar 0) (mVar 3)) (mLit (.int 0))) mNil)))
    sNil))
    sNil))
    sNil) [some (.val (ordU o)), none, some (.loc (S.length + o.length)), none, none, none] (RowsAt S (upto o 0)) = .nx env' S' ∧ (env' = [some (.val (ordU o)), none, some (.loc (S.length + o.length)), none, none, none] ∧ S' = RowsAt S (upto o (rgW 0 o.length).length)) := by
      refine for_inv (fun i env' S' => env' = [some (.val (ordU o)), none, some (.loc (S.length + o.length)), none, none, none] ∧ S' = RowsAt S (upto o i)) (hr _) ⟨rfl, rfl⟩ ?_
      rintro i w env S1 hw ⟨rfl, rfl⟩
      rw [rgW_0, List.getElem?_map] at hw
      obtain ⟨p, hp, rfl⟩ := Option.map_eq_some_iff.mp hw
      obtain ⟨hil, hp⟩ := List.getElem?_eq_some_iff.mp hp
      rw [List.getElem_range] at hp
      subst hp
      rw [List.length_range] at hil
      have hx : o[i]? = some o[i] := List.getElem?_eq_getElem hil
      have hxm : o[i] ∈ o := List.getElem_mem hil
      have hsl : itR2 (mCons (m2 gAdd (mVar 3) (mLit (.int 1))) (mCons (mBi (on1 bLen) (mCons (mVar 0) mNil)) mNil)) [some (.val (ordU o)), none, some (.loc (S.length + o.length)), some (.val (.int (i : Nat))), none, none] (RowsAt S (upto o i)) = .ok (.fix (rgW ((i + 1 : Nat) : Int) (o.length - (i + 1)))) (RowsAt S (upto o i)) := by
        refine x_r2 ?_ (by omega) (by omega)
        rw [x_cons, x_m2, x_var, x_gs, x_gs, x_gs, x_g0, x_opt, x_m2K, x_lit, x_m2L, x_addI, x_opt, x_mcK, x_cons, x_bi, x_cons, x_var, x_g0, x_opt, x_mcK, x_nil, x_mcL, x_mbK, x_on1, ord_len, x_opt, x_mcK, x_nil, x_mcL, x_mcL]
        rfl
      have hin : ∃ env' S', sFor (itR2 (mCons (m2 gAdd (mVar 3) (mLit (.int 1))) (mCons (mBi (on1 bLen) (mCons (mVar 0) mNil)) mNil))) (.nm 4) (sSeq (sIf (m2 gEq (m2 gIx (m2 gIx (mVar 0) (mVar 3)) (mLit (.int 1))) (m2 gIx (m2 gIx (mVar 0) (mVar 4)) (mLit (.int 1)))) (sSeq (sExpr (mMeth "list" gApp (m2 gIx (mVar 2) (m2 gIx (m2 gIx (mVar 0) (mVar 3)) (mLit (.int 0)))) (mCons (m2 gIx (m2 gIx (mVar 0) (mVar 4)) (mLit (.int 0))) mNil)))
    sNil) (sSeq (sExpr (mMeth "list" gApp (m2 gIx (mVar 2) (m2 gIx (m2 gIx (mVar 0) (mVar 4)) (mLit (.int 0)))) (mCons (m2 gIx (m2 gIx (mVar 0) (mVar 3)) (mLit (.int 0))) mNil)))
    sNil))
    sNil) [some (.val (ordU o)), none, some (.loc (S.length + o.length)), some (.val (.int (i : Nat))), none, none] (RowsAt S (upto o i)) = .nx env' S' ∧
          (env' = [some (.val (ordU o)), none, some (.loc (S.length + o.length)), some (.val (.int (i : Nat))), none, none] ∧ S' = RowsAt S (((o.drop (i + 1)).take (rgW ((i + 1 : Nat) : Int) (o.length - (i + 1))).length).foldl (addP o[i]) (upto o i))) := by
        refine for_inv (fun j env' S' => env' = [some (.val (ordU o)), none, some (.loc (S.length + o.length)), some (.val (.int (i : Nat))), none, none] ∧ S' = RowsAt S (((o.drop (i + 1)).take j).foldl (addP o[i]) (upto o i))) hsl ⟨rfl, by rw [List.take_zero]; rfl⟩ ?_
        rintro j w env S1 hw ⟨rfl, rfl⟩
        rw [rgW_nat, List.getElem?_map] at hw
        obtain ⟨j', hj', rfl⟩ := Option.map_eq_some_iff.mp hw
        obtain ⟨hjl, hj'⟩ := List.getElem?_eq_some_iff.mp hj'
        rw [List.getElem_range] at hj'
        subst hj'
        rw [List.length_range] at hjl
        have hyl : i + 1 + j < o.length := by omega
        have hj : j < (o.drop (i + 1)).length := by rw [List.length_drop]; omega
        have hy' : (o.drop (i + 1))[j] = o[i + 1 + j] := by rw [List.getElem_drop]
        have hym : o[i + 1 + j] ∈ o := List.getElem_mem hyl
        generalize hR : ((o.drop (i + 1)).take j).foldl (addP o[i]) (upto o i) = R
        have hRl : R.length = o.length := by rw [← hR, foldP_len, upto_len]
        have hsh : Short R (i * o.length + 8) := by
          have q := foldP_short (x := o[i]) (ys := (o.drop (i + 1)).take j) (upto_short (o := o) (i := i))
          rw [hR] at q
          intro p hp
          have := q p hp
          have : ((o.drop (i + 1)).take j).length ≤ 8 := by rw [List.length_take, List.length_drop]; omega
          omega
        have hio : i * o.length ≤ 64 := by
          have : i * o.length ≤ 8 * 8 := Nat.mul_le_mul (by omega) hm
          omega
        have hx1 : o[i].1 < R.length := by rw [hRl]; exact h.low _ hxm
        have hy1 : o[i + 1 + j].1 < R.length := by rw [hRl]; exact h.low _ hym
        have ixx : ∀ p, p < R.length → gIx (RowsAt S R) (.loc (S.length + o.length)) (.val (.int (p : Nat))) = some (.loc (S.length + p)) := fun p hp => by rw [← hRl]; exact x_ixR hp
        refine ⟨_, [some (.val (ordU o)), none, some (.loc (S.length + o.length)), some (.val (.int (i : Nat))), some (.val (.int ((i + 1 + j : Nat) : Int))), none], RowsAt S (addP o[i] R o[i + 1 + j]), rfl, ?_, ?_, rfl, ?_⟩
        · show sSeq _ sNil [some (.val (ordU o)), none, some (.loc (S.length + o.length)), some (.val (.int (i : Nat))), some (.val (.int ((i + 1 + j : Nat) : Int))), none] (RowsAt S R) = _
          rw [x_seq, x_if, x_m2, at_1 hil rfl rfl, x_m2K, at_1 hyl rfl rfl, x_m2L, x_eqB, x_opt, x_tstB]
          by_cases hs : o[i].2 = o[i + 1 + j].2
          · rw [decide_eq_true hs, x_ifT, x_seq, x_app (p := o[i].1) (q := o[i + 1 + j].1) hx1 (short_at hsh hx1 (by omega)), x_seqN, x_sNil, x_seqN, x_sNil]
            · unfold addP; rw [if_pos hs]
            · rw [x_m2, x_var, x_gs, x_gs, x_g0, x_opt, x_m2K, at_0 hil rfl rfl, x_m2L, ixx _ hx1, x_opt]
            · rw [x_cons, at_0 hyl rfl rfl, x_mcK, x_nil, x_mcL]
          · rw [decide_eq_false hs, x_ifF, x_seq, x_app (p := o[i + 1 + j].1) (q := o[i].1) hy1 (short_at hsh hy1 (by omega)), x_seqN, x_sNil, x_seqN, x_sNil]
            · unfold addP; rw [if_neg hs]
            · rw [x_m2, x_var, x_gs, x_gs, x_g0, x_opt, x_m2K, at_0 hyl rfl rfl, x_m2L, ixx _ hy1, x_opt]
            · rw [x_cons, at_0 hil rfl rfl, x_mcK, x_nil, x_mcL]
        · show (decide (S.length + o.length < (RowsAt S R).length) && true) = true
          rw [rowsAt_len, hRl, decide_eq_true (by omega)]; rfl
        · rw [fold_take hj, hy', hR]
          rw [List.take_of_length_le (Nat.le_of_eq (by rw [rowsAt_len, rowsAt_len, addP_len]))]
      obtain ⟨env', S', hin, rfl, rfl⟩ := hin
      refine ⟨_, [some (.val (ordU o)), none, some (.loc (S.length + o.length)), some (.val (.int (i : Nat))), none, none], RowsAt S (upto o (i + 1)), rfl, ?_, ?_, rfl, ?_⟩
      · show sSeq _ sNil [some (.val (ordU o)), none, some (.loc (S.length + o.length)), some (.val (.int (i : Nat))), none, none] (RowsAt S (upto o i)) = _
        have e : (o.drop (i + 1)).take (rgW ((i + 1 : Nat) : Int) (o.length - (i + 1))).length = o.drop (i + 1) := List.take_of_length_le (Nat.le_of_eq (by rw [rgW_nat, List.length_map, List.length_range, List.length_drop]))
        rw [e] at hin
        rw [x_seq, hin, x_seqN, x_sNil, upto_succ]
        unfold stepO
        rw [hx]
      · show (decide (S.length + o.length < (RowsAt S (upto o i)).length) && true) = true
        rw [rowsAt_len, upto_len, decide_eq_true (by omega)]; rfl
      · rw [List.take_of_length_le (Nat.le_of_eq (by rw [rowsAt_len, rowsAt_len, upto_len, upto_len]))]
    obtain ⟨env', S', hf, rfl, rfl⟩ := hf
    rw [show (rgW 0 o.length).length = o.length by rw [rgW_0]; simp] at hf
    have hout := x_out (own := [5]) (k := 5) (f := mVar 2) (env := [some (.val (ordU o)), none, some (.loc (S.length + o.length)), none, none, none]) (S := S) (R := upto o o.length) (by rw [x_var, upto_len]; rfl) (by simp) rfl (by rw [upto_len]; omega)
    rw [x_seq, x_asg, h1, x_asgN]
    show seqK _ (.nx [some (.val (ordU o)), none, some (.loc (S.length + o.length)), none, none, none] _) = _
    rw [x_seqN, x_seq, hf, x_seqN, x_seq, x_ret, hout, x_retK, x_seqR]
    rfl
end Rb

/-! Rb27: the plain law of orders. -/
namespace Rb
open PySem

def pr (x y : Nat × Bool) : Nat × Nat := if x.2 = y.2 then (x.1, y.1) else (y.1, x.1)
def addE (R : List (List Nat)) (e : Nat × Nat) : List (List Nat) := addR R e.1 e.2
def Lr : List (Nat × Bool) → List (Nat × Nat)
  | [] => []
  | x :: r => r.map (pr x) ++ Lr r
theorem addP_pr {x y R} : addP x R y = addE R (pr x y) := by
  unfold addP addE pr
  split <;> rfl
theorem foldP_pr {x} : ∀ {ys : List (Nat × Bool)} {R : List (List Nat)}, ys.foldl (addP x) R = (ys.map (pr x)).foldl addE R
  | [], _ => rfl
  | y :: ys, R => by rw [List.foldl_cons, List.map_cons, List.foldl_cons, addP_pr, foldP_pr]
theorem range_Lr : ∀ (o : List (Nat × Bool)) (R : List (List Nat)), (List.range o.length).foldl (stepO o) R = (Lr o).foldl addE R
  | [], _ => rfl
  | x :: r, R => by
    rw [List.length_cons, List.range_succ_eq_map, List.foldl_cons, List.foldl_map]
    show (List.range r.length).foldl (fun R k => stepO (x :: r) R (k + 1)) (stepO (x :: r) R 0) = _
    have e : (fun (R : List (List Nat)) (k : Nat) => stepO (x :: r) R (k + 1)) = stepO r := by
      funext R k
      unfold stepO
      rw [List.getElem?_cons_succ]
      rfl
    have e0 : stepO (x :: r) R 0 = r.foldl (addP x) R := rfl
    rw [e, e0, foldP_pr, range_Lr r]
    show _ = (r.map (pr x) ++ Lr r).foldl addE R
    rw [List.foldl_append]
theorem addE_len {L : List (Nat × Nat)} : ∀ {R : List (List Nat)}, (L.foldl addE R).length = R.length := by
  induction L with
  | nil => intro R; rfl
  | cons e L ih => intro R; rw [List.foldl_cons, ih]; exact addR_len
theorem rows_of : ∀ (L : List (Nat × Nat)) (R : List (List Nat)) (p : Nat) (hp : p < R.length), (L.foldl addE R)[p]? = some (R[p] ++ (L.filter fun e => decide (e.1 = p)).map (·.2))
  | [], R, p, hp => by simp [hp]
  | e :: L, R, p, hp => by
    rw [List.foldl_cons, rows_of L (addE R e) p (by unfold addE; rw [addR_len]; exact hp)]
    congr 1
    unfold addE
    rw [addR_get hp, List.filter_cons]
    by_cases h : e.1 = p
    · rw [if_pos h.symm, if_pos (decide_eq_true h), List.map_cons, List.append_assoc]; rfl
    · rw [if_neg (fun z => h z.symm), if_neg (by simpa using h)]
/-- row p of an order's tournament -/
def rowP (o : List (Nat × Bool)) (p : Nat) : List Nat := ((Lr o).filter fun e => decide (e.1 = p)).map (·.2)
theorem T_len {o : List (Nat × Bool)} : (T_of o).length = o.length := by unfold T_of; rw [List.length_map, upto_len]
theorem T_get {o : List (Nat × Bool)} {p : Nat} (h : p < (T_of o).length) : (T_of o)[p] = sortN (rowP o p) := by
  have hp : p < o.length := by rw [← T_len (o := o)]; exact h
  have e : (upto o o.length)[p]? = some (rowP o p) := by
    unfold upto
    rw [range_Lr, rows_of _ _ _ (by simpa using hp)]
    simp [rowP]
  have e2 : (T_of o)[p]? = some (sortN (rowP o p)) := by
    unfold T_of
    rw [List.getElem?_map, e]; rfl
  exact (List.getElem?_eq_some_iff.mp e2).2
theorem mem_row {o : List (Nat × Bool)} {p q : Nat} : q ∈ rowP o p ↔ (p, q) ∈ Lr o := by
  unfold rowP
  rw [List.mem_map]
  constructor
  · rintro ⟨e, he, rfl⟩
    rw [List.mem_filter] at he
    have := of_decide_eq_true he.2
    rw [← this]; exact he.1
  · intro h
    exact ⟨(p, q), List.mem_filter.mpr ⟨h, decide_eq_true rfl⟩, rfl⟩
theorem mem_T {o : List (Nat × Bool)} {p q : Nat} (h : p < (T_of o).length) : q ∈ (T_of o)[p] ↔ (p, q) ∈ Lr o := by
  rw [T_get h, (sortN_perm _).mem_iff, mem_row]
theorem pr_mem {x y : Nat × Bool} : (pr x y = (x.1, y.1)) ∨ (pr x y = (y.1, x.1)) := by
  unfold pr
  split
  · exact .inl rfl
  · exact .inr rfl
theorem Lr_in : ∀ {o : List (Nat × Bool)} {e : Nat × Nat}, e ∈ Lr o → e.1 ∈ o.map (·.1) ∧ e.2 ∈ o.map (·.1)
  | [], e, h => by cases h
  | x :: r, e, h => by
    rcases List.mem_append.mp h with h | h
    · obtain ⟨y, hy, rfl⟩ := List.mem_map.mp h
      have h1 : y.1 ∈ (x :: r).map (·.1) := List.mem_map.mpr ⟨y, List.mem_cons_of_mem _ hy, rfl⟩
      have h2 : x.1 ∈ (x :: r).map (·.1) := List.mem_map.mpr ⟨x, List.mem_cons_self, rfl⟩
      rcases pr_mem (x := x) (y := y) with e | e <;> rw [e] <;> first | exact ⟨h2, h1⟩ | exact ⟨h1, h2⟩
    · have := Lr_in h
      exact ⟨by rw [List.map_cons]; exact List.mem_cons_of_mem _ this.1, by rw [List.map_cons]; exact List.mem_cons_of_mem _ this.2⟩
theorem Lr_ne : ∀ {o : List (Nat × Bool)} {e : Nat × Nat}, (o.map (·.1)).Nodup → e ∈ Lr o → e.1 ≠ e.2
  | [], e, _, h => by cases h
  | x :: r, e, hn, h => by
    rw [List.map_cons, List.nodup_cons] at hn
    rcases List.mem_append.mp h with h | h
    · obtain ⟨y, hy, rfl⟩ := List.mem_map.mp h
      have hne : x.1 ≠ y.1 := fun z => hn.1 (z ▸ List.mem_map.mpr ⟨y, hy, rfl⟩)
      rcases pr_mem (x := x) (y := y) with e | e <;> rw [e] <;> first | exact hne | exact hne.symm
    · exact Lr_ne hn.2 h
theorem Lr_nd : ∀ {o : List (Nat × Bool)}, (o.map (·.1)).Nodup → (Lr o).Nodup
  | [], _ => List.nodup_nil
  | x :: r, hn => by
    rw [List.map_cons, List.nodup_cons] at hn
    show (r.map (pr x) ++ Lr r).Nodup
    rw [List.nodup_append]
    refine ⟨?_, Lr_nd hn.2, ?_⟩
    · have h2 : r.Pairwise (fun a b => a.1 ≠ b.1) := by
        have := hn.2
        rw [List.Nodup, List.pairwise_map] at this
        exact this
      have hx : ∀ y ∈ r, x.1 ≠ y.1 := fun y hy z => hn.1 (z ▸ List.mem_map.mpr ⟨y, hy, rfl⟩)
      rw [List.Nodup, List.pairwise_map]
      refine h2.imp_of_mem fun {a b} ha hb hab => ?_
      have h1 := hx a ha
      have h3 := hx b hb
      rcases pr_mem (x := x) (y := a) with e | e <;> rcases pr_mem (x := x) (y := b) with e' | e' <;> rw [e, e'] <;> intro z <;> injection z with z1 z2 <;> first | exact hab z2 | exact hab z1 | exact h3 z1 | exact h1 z1.symm
    · intro a ha b hb e
      subst e
      obtain ⟨y, hy, rfl⟩ := List.mem_map.mp ha
      have := Lr_in hb
      rcases pr_mem (x := x) (y := y) with e | e <;> rw [e] at this <;> first | exact hn.1 this.1 | exact hn.1 this.2
theorem Lr_one : ∀ {o : List (Nat × Bool)} {p q : Nat}, (o.map (·.1)).Nodup → p ∈ o.map (·.1) → q ∈ o.map (·.1) → p ≠ q → ((p, q) ∈ Lr o ↔ ¬ (q, p) ∈ Lr o)
  | [], p, q, _, h, _, _ => by cases h
  | x :: r, p, q, hn, hp, hq, hne => by
    rw [List.map_cons, List.nodup_cons] at hn
    have key : ∀ {a b : Nat}, (a, b) ∈ Lr (x :: r) ↔ (∃ y ∈ r, pr x y = (a, b)) ∨ (a, b) ∈ Lr r := fun {a b} => by
      show (a, b) ∈ r.map (pr x) ++ Lr r ↔ _
      rw [List.mem_append, List.mem_map]
    have hfirst : ∀ {b : Nat}, b ∈ r.map (·.1) → ((x.1, b) ∈ Lr (x :: r) ↔ ¬ (b, x.1) ∈ Lr (x :: r)) := fun {b} hb => by
      obtain ⟨y, hy, rfl⟩ := List.mem_map.mp hb
      have hxy : x.1 ≠ y.1 := fun z => hn.1 (z ▸ hb)
      have uniq : ∀ z ∈ r, z.1 = y.1 → z = y := fun z hz e => by
        have := hn.2
        rw [List.Nodup, List.pairwise_map] at this
        exact Classical.byContradiction fun hzy => by
          have hp2 := List.pairwise_iff_getElem.mp this
          obtain ⟨i, hi, rfl⟩ := List.mem_iff_getElem.mp hz
          obtain ⟨j, hj, rfl⟩ := List.mem_iff_getElem.mp hy
          rcases Nat.lt_trichotomy i j with l | l | l
          · exact hp2 i j hi hj l e
          · subst l; exact hzy rfl
          · exact hp2 j i hj hi l e.symm
      have no1 : ¬ (x.1, y.1) ∈ Lr r := fun z => hn.1 (Lr_in z).1
      have no2 : ¬ (y.1, x.1) ∈ Lr r := fun z => hn.1 (Lr_in z).2
      rw [key, key]
      constructor
      · rintro (⟨z, hz, e⟩ | h) (⟨z', hz', e'⟩ | h')
        · have a1 : z = y := by
            rcases pr_mem (x := x) (y := z) with q | q <;> rw [q] at e <;> injection e with e1 e2
            · exact uniq z hz e2
            · exact absurd e2 hxy
          have a2 : z' = y := by
            rcases pr_mem (x := x) (y := z') with q | q <;> rw [q] at e' <;> injection e' with e1 e2
            · exact absurd e1 hxy
            · exact uniq z' hz' e1
          rw [a1] at e
          rw [a2, e] at e'
          injection e' with e1 e2
          exact hxy e1
        · exact no2 h'
        · exact no1 h
        · exact no1 h
      · intro h
        rcases pr_mem (x := x) (y := y) with q | q
        · exact .inl ⟨y, hy, q⟩
        · exact absurd (.inl ⟨y, hy, q⟩) h
    rw [List.map_cons] at hp hq
    rcases List.mem_cons.mp hp with rfl | hp
    · rcases List.mem_cons.mp hq with e | hq
      · exact absurd e.symm hne
      · exact hfirst hq
    · rcases List.mem_cons.mp hq with rfl | hq
      · have := hfirst hp
        constructor
        · intro a b; exact (this.mp b) a
        · intro a; exact Classical.byContradiction fun z => a (this.mpr z)
      · have hpx : p ≠ x.1 := fun z => hn.1 (z ▸ hp)
        have hqx : q ≠ x.1 := fun z => hn.1 (z ▸ hq)
        have no : ∀ {a b : Nat}, a ≠ x.1 → b ≠ x.1 → ¬ ∃ y ∈ r, pr x y = (a, b) := fun {a b} ha hb ⟨y, hy, e⟩ => by
          rcases pr_mem (x := x) (y := y) with q | q <;> rw [q] at e <;> injection e with e1 e2
          · exact ha e1.symm
          · exact hb e2.symm
        rw [key, key]
        have ih := Lr_one hn.2 hp hq hne
        constructor
        · rintro (z | z) (z' | z')
          · exact no hpx hqx z
          · exact no hpx hqx z
          · exact no hqx hpx z'
          · exact ih.mp z z'
        · intro a
          exact .inr (ih.mpr fun z => a (.inr z))
theorem nd_le : ∀ {l m : List Nat}, l.Nodup → (∀ x ∈ l, x ∈ m) → l.length ≤ m.length
  | [], m, _, _ => Nat.zero_le _
  | a :: l, m, hn, h => by
    rw [List.nodup_cons] at hn
    have ha := h a List.mem_cons_self
    have := nd_le (m := m.erase a) hn.2 fun x hx => by
      have hxa : x ≠ a := fun z => hn.1 (by rw [← z]; exact hx)
      rw [List.mem_erase_of_ne hxa]
      exact h x (List.mem_cons_of_mem _ hx)
    rw [List.length_erase_of_mem ha] at this
    have hm : 0 < m.length := List.length_pos_of_mem ha
    rw [List.length_cons]
    omega
theorem ok_all_in {o : List (Nat × Bool)} (h : OkO o) {p : Nat} (hp : p < o.length) : p ∈ o.map (·.1) := by
  have h1 : (o.map (·.1)).length = o.length := by rw [List.length_map]
  -- n distinct numbers below n are all
  have key : ∀ (n : Nat) (l : List Nat), l.Nodup → (∀ x ∈ l, x < n) → l.length = n → ∀ p, p < n → p ∈ l := by
    intro n l hn hl hlen p hp
    refine Classical.byContradiction fun hc => ?_
    have hs : ∀ x ∈ l, x ∈ (List.range n).erase p := fun x hx => by
      have hxp : x ≠ p := fun z => hc (by rw [← z]; exact hx)
      rw [List.mem_erase_of_ne hxp]
      exact List.mem_range.mpr (hl x hx)
    have := nd_le hn hs
    rw [List.length_erase_of_mem (List.mem_range.mpr hp), List.length_range] at this
    omega
  refine key o.length _ h.nd (fun x hx => ?_) h1 p hp
  obtain ⟨y, hy, rfl⟩ := List.mem_map.mp hx
  exact h.low y hy
theorem T_isT {o : List (Nat × Bool)} (h : OkO o) : IsT (T_of o) where
  one := by rw [T_len]; exact h.one
  most := by rw [T_len]; exact h.most
  climb := by
    intro r hr
    obtain ⟨p, hp, rfl⟩ := List.mem_iff_getElem.mp hr
    rw [T_get hp]
    refine ⟨sortN_pw ?_, fun x hx => ?_⟩
    · unfold rowP
      have hf : ((Lr o).filter fun e => decide (e.1 = p)).Nodup := (Lr_nd h.nd).filter _
      rw [List.Nodup, List.pairwise_map]
      refine List.Pairwise.imp_of_mem ?_ hf
      intro a b ha hb hab z
      have h1 := of_decide_eq_true (List.mem_filter.mp ha).2
      have h2 := of_decide_eq_true (List.mem_filter.mp hb).2
      exact hab (Prod.ext (h1.trans h2.symm) z)
    · rw [(sortN_perm _).mem_iff, mem_row] at hx
      have := (Lr_in hx).2
      obtain ⟨y, hy, e⟩ := List.mem_map.mp this
      rw [T_len]
      have hl := h.low y hy
      have e : y.1 = x := e
      omega
  self := fun p hp z => Lr_ne h.nd ((mem_T hp).mp z) rfl
  two := fun p q hp hq hne => by
    rw [mem_T hp, mem_T hq]
    rw [T_len] at hp hq
    exact Lr_one h.nd (ok_all_in h hp) (ok_all_in h hq) hne

/-! ### signs that are turned -/
def fl (c : Nat → Bool) (x : Nat × Bool) : Nat × Bool := (x.1, x.2 != c x.1)
theorem pr_fl (c : Nat → Bool) (x y : Nat × Bool) (p q : Nat) : pr (fl c x) (fl c y) = (p, q) ↔ pr x y = if c p = c q then (p, q) else (q, p) := by
  obtain ⟨a, s⟩ := x
  obtain ⟨b, t⟩ := y
  unfold pr fl
  simp only
  by_cases hc : c a = c b
  · have e : ((s != c a) = (t != c b)) ↔ s = t := by rw [hc]; cases s <;> cases t <;> cases c b <;> decide
    by_cases hs : s = t
    · rw [if_pos (e.mpr hs), if_pos hs]
      constructor
      · intro h; injection h with h1 h2; subst h1 h2; rw [if_pos hc]
      · intro h
        by_cases hpq : c p = c q
        · rw [if_pos hpq] at h; exact h
        · rw [if_neg hpq] at h; injection h with h1 h2; subst h1 h2; exact absurd hc.symm hpq
    · rw [if_neg (fun z => hs (e.mp z)), if_neg hs]
      constructor
      · intro h; injection h with h1 h2; subst h1 h2; rw [if_pos hc.symm]
      · intro h
        by_cases hpq : c p = c q
        · rw [if_pos hpq] at h; exact h
        · rw [if_neg hpq] at h; injection h with h1 h2; subst h1 h2; exact absurd hc hpq
  · have e : ((s != c a) = (t != c b)) ↔ ¬ s = t := by
      revert hc
      cases s <;> cases t <;> cases c a <;> cases c b <;> decide
    by_cases hs : s = t
    · rw [if_neg (fun z => (e.mp z) hs), if_pos hs]
      constructor
      · intro h; injection h with h1 h2; subst h1 h2; rw [if_neg (fun z => hc z.symm)]
      · intro h
        by_cases hpq : c p = c q
        · rw [if_pos hpq] at h; injection h with h1 h2; subst h1 h2; exact absurd hpq hc
        · rw [if_neg hpq] at h; injection h with h1 h2; subst h1 h2; rfl
    · rw [if_pos (e.mpr hs), if_neg hs]
      constructor
      · intro h; injection h with h1 h2; subst h1 h2; rw [if_neg hc]
      · intro h
        by_cases hpq : c p = c q
        · rw [if_pos hpq] at h; injection h with h1 h2; subst h1 h2; exact absurd hpq.symm hc
        · rw [if_neg hpq] at h; injection h with h1 h2; subst h1 h2; rfl
theorem Lr_fl (c : Nat → Bool) : ∀ {o : List (Nat × Bool)} {p q : Nat}, (p, q) ∈ Lr (o.map (fl c)) ↔ (if c p = c q then (p, q) else (q, p)) ∈ Lr o
  | [], p, q => by constructor <;> intro h <;> cases h
  | x :: r, p, q => by
    rw [List.map_cons]
    show (p, q) ∈ (r.map (fl c)).map (pr (fl c x)) ++ Lr (r.map (fl c)) ↔ _ ∈ r.map (pr x) ++ Lr r
    rw [List.mem_append, List.mem_append, Lr_fl c, List.mem_map, List.mem_map]
    constructor
    · rintro (⟨y, hy, e⟩ | h)
      · obtain ⟨z, hz, rfl⟩ := List.mem_map.mp hy
        exact .inl ⟨z, hz, (pr_fl c x z p q).mp e⟩
      · exact .inr h
    · rintro (⟨y, hy, e⟩ | h)
      · exact .inl ⟨fl c y, List.mem_map.mpr ⟨y, hy, rfl⟩, (pr_fl c x y p q).mpr e⟩
      · exact .inr h
theorem ok_fl {c : Nat → Bool} {o : List (Nat × Bool)} (h : OkO o) : OkO (o.map (fl c)) where
  one := by rw [List.length_map]; exact h.one
  most := by rw [List.length_map]; exact h.most
  low := by
    intro p hp
    obtain ⟨y, hy, rfl⟩ := List.mem_map.mp hp
    rw [List.length_map]
    exact h.low y hy
  nd := by
    rw [List.map_map]
    exact h.nd
/-- what the law asks of the two tournaments -/
theorem turned {c : Nat → Bool} {o : List (Nat × Bool)} (h : OkO o) {p q : Nat} (hp : p < o.length) (hq : q < o.length) (hne : p ≠ q) (h1 : p < (T_of o).length) (h2 : p < (T_of (o.map (fl c))).length) :
    decide (q ∈ (T_of (o.map (fl c)))[p]) = (decide (q ∈ (T_of o)[p]) != (c p != c q)) := by
  have e1 : decide (q ∈ (T_of (o.map (fl c)))[p]) = decide ((if c p = c q then (p, q) else (q, p)) ∈ Lr o) := by
    rw [decide_eq_decide, mem_T h2, Lr_fl]
  have e2 : decide (q ∈ (T_of o)[p]) = decide ((p, q) ∈ Lr o) := by rw [decide_eq_decide, mem_T h1]
  rw [e1, e2]
  by_cases hc : c p = c q
  · rw [if_pos hc, hc, show (c q != c q) = false by cases c q <;> rfl]
    cases decide ((p, q) ∈ Lr o) <;> rfl
  · rw [if_neg hc, show (c p != c q) = true by revert hc; cases c p <;> cases c q <;> decide]
    have := Lr_one h.nd (ok_all_in h hp) (ok_all_in h hq) hne
    by_cases hm : (p, q) ∈ Lr o
    · rw [decide_eq_true hm, decide_eq_false (this.mp hm)]; rfl
    · rw [decide_eq_false hm, decide_eq_true (Classical.byContradiction fun z => hm (this.mpr z))]; rfl
end Rb

/-! Rb28: equality of tournaments, the callers. -/
namespace Rb
open PySem

theorem dep_nats : ∀ r : List Nat, PyData.depthAll (r.map fun x => (.int (x : Nat) : U)) ≤ 2
  | [] => by simp [PyData.depthAll]
  | a :: r => by
    have := dep_nats r
    simp -implicitDefEqProofs only [List.map_cons, PyData.depthAll, PyData.depth]
    omega
theorem dep_rows : ∀ R : List (List Nat), PyData.depthAll (R.map natU) ≤ 5
  | [] => by simp [PyData.depthAll]
  | r :: R => by
    have h1 := dep_rows R
    have h2 := dep_nats r
    simp -implicitDefEqProofs only [List.map_cons, PyData.depthAll, natU, PyData.depth]
    omega
theorem can_rows : ∀ R : List (List Nat), PyData.canLayAll0 (R.map natU) = true
  | [] => rfl
  | r :: R => by
    rw [List.map_cons]
    show (PyData.canLayAll0 (r.map fun x => (.int (x : Nat) : U)) && PyData.canLayAll0 (R.map natU)) = true
    rw [canAll_nat, can_rows R]; rfl
theorem shaped_tour (R : List (List Nat)) : SeqAt.shaped (tourU R) = true := by
  unfold SeqAt.shaped
  rw [Bool.and_eq_true]
  refine ⟨can_rows R, decide_eq_true ?_⟩
  have := dep_rows R
  unfold tourU
  simp -implicitDefEqProofs only [PyData.depth]
  omega
theorem x_eqT {S : Store} {R : List (List Nat)} : gEq S (.val (tourU R)) (.val (tourU R)) = some (.val (.bool true)) := by
  show (if (SeqAt.shaped (tourU R) && SeqAt.shaped (tourU R)) = true then some (W.val (.bool (PyData.eqv (tourU R) (tourU R)))) else none) = _
  rw [if_pos (by rw [shaped_tour]; rfl), SeqAt.eqv_refl (tourU R) (can_rows R)]
def Tourn (cl : CallO) : Prop := ∀ R S, IsT R → cl "is_tournament" [.val (tourU R)] S = .ok (.val (.bool true)) S
def Order (cl : CallO) : Prop := ∀ o S, OkO o → cl "is_order" [.val (ordU o)] S = .ok (.val (.bool true)) S
def By (cl : CallO) : Prop := ∀ o S, OkO o → cl "tournament_by" [.val (ordU o)] S = .ok (.val (tourU (T_of o))) S
def Check (cl : CallO) : Prop := ∀ R S, IsT R → cl "check_tournament" [.val (tourU R)] S = .ok (.val .none) S
def F_check (cl : CallO) : SM :=
  (sSeq (sIf (m1 gNot (mCall cl "is_tournament" 1 (mCons (mVar 0) mNil))) (sSeq sBad
    sNil) sNil)
    sNil)
theorem check_run {cl : CallO} {S : Store} {R : List (List Nat)} (ht : Tourn cl) (h : IsT R) : runF ⟨1, 1, false, F_check⟩ cl [.val (tourU R)] S = .ok (.val .none) S := by
  rw [run_nx (env := [some (.val (tourU R))]) (S' := S)]
  · exact fin_same rfl
  · show F_check cl [some (.val (tourU R))] S = _
    unfold F_check
    rw [x_seq, x_if, x_m1, x_call, x_cons, x_var, x_g0, x_opt, x_mcK, x_nil, x_mcL, x_callK1, ht R S h, x_m1K, x_not, x_opt, Bool.not_true, x_tstB, x_ifF, x_sNil, x_seqN, x_sNil]
def F_stands_for (cl : CallO) : SM :=
  (sSeq (sIf (m1 gNot (mCall cl "is_order" 1 (mCons (mVar 0) mNil))) (sSeq sBad
    sNil) sNil)
    (sSeq (sRet (mCall cl "tournament_by" 1 (mCons (mVar 0) mNil)))
    sNil))
theorem stands_for_run {cl : CallO} {S : Store} {o : List (Nat × Bool)} (ho : Order cl) (hb : By cl) (h : OkO o) : runF ⟨1, 1, false, F_stands_for⟩ cl [.val (ordU o)] S = .ok (.val (tourU (T_of o))) S := by
  rw [run_rt (w := .val (tourU (T_of o))) (S' := S)]
  · exact fin_same rfl
  · show F_stands_for cl [some (.val (ordU o))] S = _
    unfold F_stands_for
    rw [x_seq, x_if, x_m1, x_call, x_cons, x_var, x_g0, x_opt, x_mcK, x_nil, x_mcL, x_callK1, ho o S h, x_m1K, x_not, x_opt, Bool.not_true, x_tstB, x_ifF, x_sNil, x_seqN, x_seq, x_ret, x_call, x_cons, x_var, x_g0, x_opt, x_mcK, x_nil, x_mcL, x_callK1, hb o S h, x_retK, x_seqR]
def F_accepts (cl : CallO) : SM :=
  (sSeq (sExpr (mCall cl "check_tournament" 1 (mCons (mVar 0) mNil)))
    (sSeq (sRet (mAnd (mCall cl "is_order" 1 (mCons (mVar 1) mNil)) (m2 gEq (mCall cl "tournament_by" 1 (mCons (mVar 1) mNil)) (mVar 0))))
    sNil))
theorem accepts_run {cl : CallO} {S : Store} {o : List (Nat × Bool)} (hc : Check cl) (ho : Order cl) (hb : By cl) (h : OkO o) : runF ⟨2, 2, false, F_accepts⟩ cl [.val (tourU (T_of o)), .val (ordU o)] S = .ok (.val (.bool true)) S := by
  rw [run_rt (w := .val (.bool true)) (S' := S)]
  · exact fin_same rfl
  · show F_accepts cl [some (.val (tourU (T_of o))), some (.val (ordU o))] S = _
    unfold F_accepts
    rw [x_seq, x_exp, x_call, x_cons, x_var, x_g0, x_opt, x_mcK, x_nil, x_mcL, x_callK1, hc _ S (T_isT h), x_expK, x_seqN, x_seq, x_ret, x_and, x_call, x_cons, x_var, x_gs, x_g0, x_opt, x_mcK, x_nil, x_mcL, x_callK1, ho o S h, x_andT,
      x_m2, x_call, x_cons, x_var, x_gs, x_g0, x_opt, x_mcK, x_nil, x_mcL, x_callK1, hb o S h, x_m2K, x_var, x_g0, x_opt, x_m2L, x_eqT, x_opt, x_retK, x_seqR]
theorem nice_tour {R : List (List Nat)} {d : Nat} (h : R.length < 100000) (h2 : ∀ r ∈ R, r.length < 100000) : Nice (d + 3) (tourU R) := by
  refine .tup (by rw [List.length_map]; exact h) fun u hu => ?_
  obtain ⟨r, hr, rfl⟩ := List.mem_map.mp hu
  refine .tup (by rw [List.length_map]; exact h2 r hr) fun u hu => ?_
  obtain ⟨x, _, rfl⟩ := List.mem_map.mp hu
  exact .int _
/-- a def by its level -/
theorem at_level {ds : List Df} {n : Nat} {f : Str} {d : Df} {F : Fn} {ws : List W} {S : Store} (h : findD ds f = some d) (e : d.fn = F) : runD ds (n + 1) f ws S = runF F (runD ds n) ws S := by
  show (match findD ds f with | some d => runF d.fn (runD ds n) ws S | none => .bad) = _
  rw [h, ← e]
theorem equal_level {ds : List Df} {dE dI : Df} (hE : findD ds "_law_equal" = some dE) (eE : dE.fn = ⟨2, 3, false, F_equal⟩) (hI : findD ds "_law_is_integer" = some dI) (eI : dI.fn = ⟨1, 1, false, F_isint⟩) :
    ∀ (d n : Nat) (u : U), Nice d u → ∀ S, runD ds (n + 1 + d) "_law_equal" [.val u, .val u] S = .ok (.val (.bool true)) S
  | 0, n, u, h => by cases h
  | d + 1, n, u, h => fun S => by
    show runD ds (n + 1 + d + 1) _ _ _ = _
    rw [at_level hE eE]
    refine equal_self (d := d) (fun i S => ?_) (fun u hu S => equal_level hE eE hI eI d n u hu S) h
    rw [show n + 1 + d = n + d + 1 by omega, at_level hI eI]
    exact isint_int
end Rb

namespace Cl
open PySem PySem.Spec PyProof.Rows L2 Rb
def top (i : Nat) : Stmt := PySem.Challenge.pw_ringbeats_k15_what_orders_stand_for.main.body.getD i (.Pass ⟨0, 0, 0, 0⟩)
def F_is_whole (cl : CallO) : SM :=
  (sSeq (sRet (mAnd (m1 (gIsi "int") (mVar 0)) (mAnd (m1 gNot (m1 (gIsi "bool") (mVar 0))) (mChain gLe gLe (mVar 1) (mVar 0) (mVar 2)))))
    sNil)
def d_is_whole : He.DefD := ⟨("is_whole", none), "is_whole", "is_whole", defArgs (top 5), defBody (top 5), defScope (top 5), [], []⟩
def D_is_whole : Df := ⟨"is_whole", "is_whole", ["value", "low", "high"], ["value", "low", "high"], [], false, defArgs (top 5), defBody (top 5), defScope (top 5), F_is_whole⟩
def F_is_climbing (cl : CallO) : SM :=
  (sSeq (sIf (mOr (m1 gNot (m1 (gIsi "tuple") (mVar 0))) (m1 gNot (mBi (on1 bAll) (mCons (mSnap (mComp [2] (itAny (mVar 0)) (.nm 2) none (mCall cl "is_whole" 3 (mCons (mVar 2) (mCons (mLit (.int 0)) (mCons (m2 gSub (mVar 1) (mLit (.int 1))) mNil)))))) mNil)))) (sSeq (sRet (mLit (.bool false)))
    sNil) sNil)
    (sSeq (sRet (mBi (on1 bAll) (mCons (mSnap (mComp [3] (itR1 (mCons (m2 gSub (mBi (on1 bLen) (mCons (mVar 0) mNil)) (mLit (.int 1))) mNil)) (.nm 3) none (m2 gLt (m2 gIx (mVar 0) (mVar 3)) (m2 gIx (mVar 0) (m2 gAdd (mVar 3) (mLit (.int 1))))))) mNil)))
    sNil))
def d_is_climbing : He.DefD := ⟨("is_climbing", none), "is_climbing", "is_climbing", defArgs (top 7), defBody (top 7), defScope (top 7), [], []⟩
def D_is_climbing : Df := ⟨"is_climbing", "is_climbing", ["value", "many"], ["value", "many", "one", "at"], [], false, defArgs (top 7), defBody (top 7), defScope (top 7), F_is_climbing⟩
def F_is_tournament (cl : CallO) : SM :=
  (sSeq (sIf (mOr (m1 gNot (m1 (gIsi "tuple") (mVar 0))) (m1 gNot (mChain gLe gLe (mLit (.int 1)) (mBi (on1 bLen) (mCons (mVar 0) mNil)) (mLit (.int 8))))) (sSeq (sRet (mLit (.bool false)))
    sNil) sNil)
    (sSeq (sIf (m1 gNot (mBi (on1 bAll) (mCons (mSnap (mComp [1] (itAny (mVar 0)) (.nm 1) none (mCall cl "is_climbing" 2 (mCons (mVar 1) (mCons (mBi (on1 bLen) (mCons (mVar 0) mNil)) mNil))))) mNil))) (sSeq (sRet (mLit (.bool false)))
    sNil) sNil)
    (sSeq (sFor (itR1 (mCons (mBi (on1 bLen) (mCons (mVar 0) mNil)) mNil)) (.nm 2) (sSeq (sIf (mOr (m2 (gInN false) (mVar 2) (m2 gIx (mVar 0) (mVar 2))) (m1 gNot (mBi (on1 bAll) (mCons (mSnap (mComp [3] (itR1 (mCons (mVar 2) mNil)) (.nm 3) none (m2 gNe (m2 (gInN false) (mVar 3) (m2 gIx (mVar 0) (mVar 2))) (m2 (gInN false) (mVar 2) (m2 gIx (mVar 0) (mVar 3)))))) mNil)))) (sSeq (sRet (mLit (.bool false)))
    sNil) sNil)
    sNil))
    (sSeq (sRet (mLit (.bool true)))
    sNil))))
def d_is_tournament : He.DefD := ⟨("is_tournament", none), "is_tournament", "is_tournament", defArgs (top 8), defBody (top 8), defScope (top 8), [], []⟩
def D_is_tournament : Df := ⟨"is_tournament", "is_tournament", ["value"], ["value", "row", "one", "other"], [], false, defArgs (top 8), defBody (top 8), defScope (top 8), F_is_tournament⟩
def F_check_tournament (cl : CallO) : SM :=
  (sSeq (sIf (m1 gNot (mCall cl "is_tournament" 1 (mCons (mVar 0) mNil))) (sSeq sBad
    sNil) sNil)
    sNil)
def d_check_tournament : He.DefD := ⟨("check_tournament", none), "check_tournament", "check_tournament", defArgs (top 11), defBody (top 11), defScope (top 11), [], []⟩
def D_check_tournament : Df := ⟨"check_tournament", "check_tournament", ["value"], ["value"], [], false, defArgs (top 11), defBody (top 11), defScope (top 11), F_check_tournament⟩
def F_is_player (cl : CallO) : SM :=
  (sSeq (sRet (mAnd (m1 (gIsi "int") (mVar 0)) (mAnd (m1 gNot (m1 (gIsi "bool") (mVar 0))) (mChain gLe gLt (mLit (.int 0)) (mVar 0) (mVar 1)))))
    sNil)
def d_is_player : He.DefD := ⟨("is_player", none), "is_player", "is_player", defArgs (top 12), defBody (top 12), defScope (top 12), [], []⟩
def D_is_player : Df := ⟨"is_player", "is_player", ["value", "many"], ["value", "many"], [], false, defArgs (top 12), defBody (top 12), defScope (top 12), F_is_player⟩
def F_is_signed (cl : CallO) : SM :=
  (sSeq (sIf (mOr (m1 gNot (m1 (gIsi "tuple") (mVar 0))) (m2 gNe (mBi (on1 bLen) (mCons (mVar 0) mNil)) (mLit (.int 2)))) (sSeq (sRet (mLit (.bool false)))
    sNil) sNil)
    (sSeq (sRet (mAnd (mCall cl "is_player" 2 (mCons (m2 gIx (mVar 0) (mLit (.int 0))) (mCons (mVar 1) mNil))) (m1 (gIsi "bool") (m2 gIx (mVar 0) (mLit (.int 1))))))
    sNil))
def d_is_signed : He.DefD := ⟨("is_signed", none), "is_signed", "is_signed", defArgs (top 13), defBody (top 13), defScope (top 13), [], []⟩
def D_is_signed : Df := ⟨"is_signed", "is_signed", ["value", "many"], ["value", "many"], [], false, defArgs (top 13), defBody (top 13), defScope (top 13), F_is_signed⟩
def F_is_order (cl : CallO) : SM :=
  (sSeq (sIf (mOr (m1 gNot (m1 (gIsi "tuple") (mVar 0))) (m1 gNot (mChain gLe gLe (mLit (.int 1)) (mBi (on1 bLen) (mCons (mVar 0) mNil)) (mLit (.int 8))))) (sSeq (sRet (mLit (.bool false)))
    sNil) sNil)
    (sSeq (sIf (m1 gNot (mBi (on1 bAll) (mCons (mSnap (mComp [1] (itAny (mVar 0)) (.nm 1) none (mCall cl "is_signed" 2 (mCons (mVar 1) (mCons (mBi (on1 bLen) (mCons (mVar 0) mNil)) mNil))))) mNil))) (sSeq (sRet (mLit (.bool false)))
    sNil) sNil)
    (sSeq (sRet (m2 gEq (mDcLen [1] (itAny (mVar 0)) (.nm 1) none (m2 gIx (mVar 1) (mLit (.int 0)))) (mBi (on1 bLen) (mCons (mVar 0) mNil))))
    sNil)))
def d_is_order : He.DefD := ⟨("is_order", none), "is_order", "is_order", defArgs (top 14), defBody (top 14), defScope (top 14), [], []⟩
def D_is_order : Df := ⟨"is_order", "is_order", ["value"], ["value", "entry"], [], false, defArgs (top 14), defBody (top 14), defScope (top 14), F_is_order⟩
def F_tournament_by (cl : CallO) : SM :=
  (sSeq (sAsg (.nm 2) (mBox (mComp [1] (itAny (mVar 0)) (.nm 1) none (mBox (mLstD mNil)))))
    (sSeq (sFor (itEn (mCons (mVar 0) mNil)) (.tp [(.nm 3), (.tp [(.nm 4), (.nm 5)])]) (sSeq (sFor (itAny (mSl (mVar 0) (mPart (m2 gAdd (mVar 3) (mLit (.int 1)))) mNo)) (.tp [(.nm 6), (.nm 7)]) (sSeq (sIf (m2 gEq (mVar 5) (mVar 7)) (sSeq (sExpr (mMeth "list" gApp (m2 gIx (mVar 2) (mVar 4)) (mCons (mVar 6) mNil)))
    sNil) (sSeq (sExpr (mMeth "list" gApp (m2 gIx (mVar 2) (mVar 6)) (mCons (mVar 4) mNil)))
    sNil))
    sNil))
    sNil))
    (sSeq (sRet (mBi (on1 bTup) (mCons (mSnap (mComp [8] (itAny (mVar 2)) (.nm 8) none (mBi (on1 bTup) (mCons (mBi (on1 bSortI) (mCons (mVar 8) mNil)) mNil)))) mNil)))
    sNil)))
def d_tournament_by : He.DefD := ⟨("tournament_by", none), "tournament_by", "tournament_by", defArgs (top 15), defBody (top 15), defScope (top 15), [], []⟩
def D_tournament_by : Df := ⟨"tournament_by", "tournament_by", ["order"], ["order", "entry", "rows", "at", "player", "itself", "other", "alike", "row"], [("rows", 2)], false, defArgs (top 15), defBody (top 15), defScope (top 15), F_tournament_by⟩
def F_stands_for (cl : CallO) : SM :=
  (sSeq (sIf (m1 gNot (mCall cl "is_order" 1 (mCons (mVar 0) mNil))) (sSeq sBad
    sNil) sNil)
    (sSeq (sRet (mCall cl "tournament_by" 1 (mCons (mVar 0) mNil)))
    sNil))
def d_stands_for : He.DefD := ⟨("stands_for", none), "stands_for", "stands_for", defArgs (top 16), defBody (top 16), defScope (top 16), [], []⟩
def D_stands_for : Df := ⟨"stands_for", "stands_for", ["order"], ["order"], [], false, defArgs (top 16), defBody (top 16), defScope (top 16), F_stands_for⟩
def F_accepts_order (cl : CallO) : SM :=
  (sSeq (sExpr (mCall cl "check_tournament" 1 (mCons (mVar 0) mNil)))
    (sSeq (sRet (mAnd (mCall cl "is_order" 1 (mCons (mVar 1) mNil)) (m2 gEq (mCall cl "tournament_by" 1 (mCons (mVar 1) mNil)) (mVar 0))))
    sNil))
def d_accepts_order : He.DefD := ⟨("accepts_order", none), "accepts_order", "accepts_order", defArgs (top 17), defBody (top 17), defScope (top 17), [], []⟩
def D_accepts_order : Df := ⟨"accepts_order", "accepts_order", ["tournament", "value"], ["tournament", "value"], [], false, defArgs (top 17), defBody (top 17), defScope (top 17), F_accepts_order⟩
def F__law_stream (cl : CallO) : SM :=
  (sSeq (sRet (mBox (mLstD (mCons (mBi (on1 bLst) (mCons (mVar 0) mNil)) (mCons (mLit (.int 0)) (mCons (mLit (.int 0)) mNil))))))
    sNil)
def d__law_stream : He.DefD := ⟨("_law_stream", none), "_law_stream", "_law_stream", defArgs (top 19), defBody (top 19), defScope (top 19), [], []⟩
def D__law_stream : Df := ⟨"_law_stream", "_law_stream", ["_law_script"], ["_law_script"], [], true, defArgs (top 19), defBody (top 19), defScope (top 19), F__law_stream⟩
def F__law_next (cl : CallO) : SM :=
  (sSeq (sIf (m2 gEq (m2 gIx (mVar 0) (mLit (.int 1))) (mLit (.int 0))) (sSeq (sAsg (.nm 2) (m2 gIx (mVar 0) (mLit (.int 2))))
    (sSeq (sAsg (.nm 3) (m2 gAdd (mLit (.int 7)) (mVar 2)))
    (sSeq (sIf (m2 gLt (mVar 2) (mBi (on1 bLen) (mCons (m2 gIx (mVar 0) (mLit (.int 0))) mNil))) (sSeq (sAsg (.nm 3) (mBi (on1 bAbs) (mCons (m2 gIx (m2 gIx (mVar 0) (mLit (.int 0))) (mVar 2)) mNil)))
    sNil) sNil)
    (sSeq (sIf (m2 gLt (mVar 3) (m2 gPow (mLit (.int 10)) (mLit (.int 18)))) (sSeq (sAsg (.nm 3) (m2 gMod (mBi (on1 bInt) (mCons (m2 gAdd (m2 gAdd (m2 gMul (mVar 3) (mLit (.int 48271))) (m2 gMul (mVar 2) (mLit (.int 69621)))) (mLit (.int 11))) mNil)) (mLit (.int 2147483647))))
    (sSeq (sAsg (.nm 3) (m2 gAdd (m2 gMul (m2 gMod (mBi (on1 bInt) (mCons (m2 gAdd (m2 gMul (mVar 3) (mLit (.int 16807))) (mLit (.int 13))) mNil)) (mLit (.int 2147483647))) (mLit (.int 65537))) (mVar 3)))
    sNil)) sNil)
    (sSeq (sSetIx (mVar 0) (mLit (.int 1)) (mVar 3))
    (sSeq (sSetIx (mVar 0) (mLit (.int 2)) (m2 gAdd (mVar 2) (mLit (.int 1))))
    sNil)))))) sNil)
    (sSeq (sAsg (.nm 4) (m2 gMod (mBi (on1 bInt) (mCons (m2 gIx (mVar 0) (mLit (.int 1))) mNil)) (mVar 1)))
    (sSeq (sSetIx (mVar 0) (mLit (.int 1)) (m2 gDiv (m2 gIx (mVar 0) (mLit (.int 1))) (mVar 1)))
    (sSeq (sRet (mVar 4))
    sNil))))
def d__law_next : He.DefD := ⟨("_law_next", none), "_law_next", "_law_next", defArgs (top 20), defBody (top 20), defScope (top 20), [], []⟩
def D__law_next : Df := ⟨"_law_next", "_law_next", ["_law_stream_here", "_law_many"], ["_law_stream_here", "_law_many", "_law_k", "_law_cell", "_law_digit"], [], false, defArgs (top 20), defBody (top 20), defScope (top 20), F__law_next⟩
def F__law_is_integer (cl : CallO) : SM :=
  (sSeq (sRet (mAnd (m1 (gIsi "int") (mVar 0)) (m1 gNot (m1 (gIsi "bool") (mVar 0)))))
    sNil)
def d__law_is_integer : He.DefD := ⟨("_law_is_integer", none), "_law_is_integer", "_law_is_integer", defArgs (top 21), defBody (top 21), defScope (top 21), [], []⟩
def D__law_is_integer : Df := ⟨"_law_is_integer", "_law_is_integer", ["_law_actual"], ["_law_actual"], [], false, defArgs (top 21), defBody (top 21), defScope (top 21), F__law_is_integer⟩
def F__law_equal (cl : CallO) : SM :=
  (sSeq (sIf (m2 gIs (mVar 1) (mLit .none)) (sSeq (sRet (m2 gIs (mVar 0) (mLit .none)))
    sNil) sNil)
    (sSeq (sIf (m1 (gIsi "bool") (mVar 1)) (sSeq (sRet (mAnd (m1 (gIsi "bool") (mVar 0)) (m2 gEq (mVar 0) (mVar 1))))
    sNil) sNil)
    (sSeq (sIf (m1 (gIsi "int") (mVar 1)) (sSeq (sRet (mAnd (mCall cl "_law_is_integer" 1 (mCons (mVar 0) mNil)) (m2 gEq (mVar 0) (mVar 1))))
    sNil) sNil)
    (sSeq (sIf (m1 (gIsi "str") (mVar 1)) (sSeq (sRet (mAnd (m1 (gIsi "str") (mVar 0)) (m2 gEq (mVar 0) (mVar 1))))
    sNil) sNil)
    (sSeq (sIf (mAnd (m1 (gIsi "tuple") (mVar 1)) (m1 gNot (m1 (gIsi "tuple") (mVar 0)))) (sSeq (sRet (mLit (.bool false)))
    sNil) sNil)
    (sSeq (sIf (mAnd (m1 (gIsi "list") (mVar 1)) (m1 gNot (m1 (gIsi "list") (mVar 0)))) (sSeq (sRet (mLit (.bool false)))
    sNil) sNil)
    (sSeq (sIf (m2 gNe (mBi (on1 bLen) (mCons (mVar 0) mNil)) (mBi (on1 bLen) (mCons (mVar 1) mNil))) (sSeq (sRet (mLit (.bool false)))
    sNil) sNil)
    (sSeq (sRet (mBi (on1 bAll) (mCons (mSnap (mComp [2] (itR1 (mCons (mBi (on1 bLen) (mCons (mVar 1) mNil)) mNil)) (.nm 2) none (mCall cl "_law_equal" 2 (mCons (m2 gIx (mVar 0) (mVar 2)) (mCons (m2 gIx (mVar 1) (mVar 2)) mNil))))) mNil)))
    sNil))))))))
def d__law_equal : He.DefD := ⟨("_law_equal", none), "_law_equal", "_law_equal", defArgs (top 22), defBody (top 22), defScope (top 22), [], []⟩
def D__law_equal : Df := ⟨"_law_equal", "_law_equal", ["_law_actual", "_law_due"], ["_law_actual", "_law_due", "_law_at"], [], false, defArgs (top 22), defBody (top 22), defScope (top 22), F__law_equal⟩
def F__law_stands (cl : CallO) : SM :=
  (sSeq (sAsg (.nm 2) (mBox (mComp [1] (itAny (mVar 0)) (.nm 1) none (mBox (mLstD mNil)))))
    (sSeq (sFor (itR1 (mCons (mBi (on1 bLen) (mCons (mVar 0) mNil)) mNil)) (.nm 3) (sSeq (sFor (itR2 (mCons (m2 gAdd (mVar 3) (mLit (.int 1))) (mCons (mBi (on1 bLen) (mCons (mVar 0) mNil)) mNil))) (.nm 4) (sSeq (sIf (m2 gEq (m2 gIx (m2 gIx (mVar 0) (mVar 3)) (mLit (.int 1))) (m2 gIx (m2 gIx (mVar 0) (mVar 4)) (mLit (.int 1)))) (sSeq (sExpr (mMeth "list" gApp (m2 gIx (mVar 2) (m2 gIx (m2 gIx (mVar 0) (mVar 3)) (mLit (.int 0)))) (mCons (m2 gIx (m2 gIx (mVar 0) (mVar 4)) (mLit (.int 0))) mNil)))
    sNil) (sSeq (sExpr (mMeth "list" gApp (m2 gIx (mVar 2) (m2 gIx (m2 gIx (mVar 0) (mVar 4)) (mLit (.int 0)))) (mCons (m2 gIx (m2 gIx (mVar 0) (mVar 3)) (mLit (.int 0))) mNil)))
    sNil))
    sNil))
    sNil))
    (sSeq (sRet (mBi (on1 bTup) (mCons (mSnap (mComp [5] (itAny (mVar 2)) (.nm 5) none (mBi (on1 bTup) (mCons (mBi (on1 bSortI) (mCons (mVar 5) mNil)) mNil)))) mNil)))
    sNil)))
def d__law_stands : He.DefD := ⟨("_law_stands", none), "_law_stands", "_law_stands", defArgs (top 23), defBody (top 23), defScope (top 23), [], []⟩
def D__law_stands : Df := ⟨"_law_stands", "_law_stands", ["_law_order"], ["_law_order", "_law_entry", "_law_rows", "_law_k", "_law_n", "_law_row"], [("_law_rows", 2)], false, defArgs (top 23), defBody (top 23), defScope (top 23), F__law_stands⟩
def F_law (cl : CallO) : SM :=
  (sSeq (sAsg (.nm 1) (mCall cl "_law_stream" 1 (mCons (mVar 0) mNil)))
    (sSeq (sAsg (.nm 2) (m2 gAdd (mLit (.int 1)) (mCall cl "_law_next" 2 (mCons (mVar 1) (mCons (mLit (.int 8)) mNil)))))
    (sSeq (sAsg (.nm 3) (mBox (mLstRg (mRg1 (mVar 2)))))
    (sSeq (sAsg (.nm 4) (mTupOf mNil))
    (sSeq (sFor (itR1 (mCons (mVar 2) mNil)) (.nm 5) (sSeq (sAsg (.nm 4) (m2 gAdd (mVar 4) (mTupOf (mCons (mTupOf (mCons (mMeth "list" gPopAt (mVar 3) (mCons (mCall cl "_law_next" 2 (mCons (mVar 1) (mCons (mBi (on1 bLen) (mCons (mVar 3) mNil)) mNil))) mNil)) (mCons (m2 gEq (mCall cl "_law_next" 2 (mCons (mVar 1) (mCons (mLit (.int 2)) mNil))) (mLit (.int 0))) mNil))) mNil))))
    sNil))
    (sSeq (sAsg (.nm 6) (mCall cl "stands_for" 1 (mCons (mVar 4) mNil)))
    (sSeq (sIf (mOr (m1 gNot (mCall cl "_law_equal" 2 (mCons (mVar 6) (mCons (mCall cl "_law_stands" 1 (mCons (mVar 4) mNil)) mNil)))) (m1 gNot (mCall cl "_law_equal" 2 (mCons (mCall cl "accepts_order" 2 (mCons (mVar 6) (mCons (mVar 4) mNil))) (mCons (mLit (.bool true)) mNil))))) (sSeq (sRet (mLit (.bool false)))
    sNil) sNil)
    (sSeq (sAsg (.nm 8) (mSnap (mComp [7] (itR1 (mCons (mVar 2) mNil)) (.nm 7) (some (m2 gEq (mCall cl "_law_next" 2 (mCons (mVar 1) (mCons (mLit (.int 2)) mNil))) (mLit (.int 0)))) (mVar 7))))
    (sSeq (sAsg (.nm 10) (mCall cl "stands_for" 1 (mCons (mBi (on1 bTup) (mCons (mSnap (mComp [7, 9] (itAny (mVar 4)) (.tp [(.nm 7), (.nm 9)]) none (mTupOf (mCons (mVar 7) (mCons (m2 gNe (mVar 9) (m2 (gInN false) (mVar 7) (mVar 8))) mNil))))) mNil)) mNil)))
    (sSeq (sFor (itR1 (mCons (mVar 2) mNil)) (.nm 11) (sSeq (sFor (itR1 (mCons (mVar 2) mNil)) (.nm 12) (sSeq (sIf (m2 gNe (mVar 11) (mVar 12)) (sSeq (sAsg (.nm 13) (m2 gNe (m2 (gInN false) (mVar 11) (mVar 8)) (m2 (gInN false) (mVar 12) (mVar 8))))
    (sSeq (sIf (m2 gNe (m2 (gInN false) (mVar 12) (m2 gIx (mVar 10) (mVar 11))) (m2 gNe (m2 (gInN false) (mVar 12) (m2 gIx (mVar 6) (mVar 11))) (mVar 13))) (sSeq (sRet (mLit (.bool false)))
    sNil) sNil)
    sNil)) sNil)
    sNil))
    sNil))
    (sSeq (sRet (mLit (.bool true)))
    sNil)))))))))))
def d_law : He.DefD := ⟨("law", none), "law", "law", defArgs (top 24), defBody (top 24), defScope (top 24), [], []⟩
def D_law : Df := ⟨"law", "law", ["_law_script"], ["_law_script", "_law_stream_here", "_law_many", "_law_left", "_law_order", "_law_turn", "_law_told", "_law_player", "_law_some", "_law_itself", "_law_other", "_law_one", "_law_two", "_law_turned"], [("_law_left", 1)], false, defArgs (top 24), defBody (top 24), defScope (top 24), F_law⟩
def ds : List Df := [D_is_whole, D_is_climbing, D_is_tournament, D_check_tournament, D_is_player, D_is_signed, D_is_order, D_tournament_by, D_stands_for, D_accepts_order, D__law_stream, D__law_next, D__law_is_integer, D__law_equal, D__law_stands, D_law]
def cs : List (Str × U) := [("MOST_PLAYERS_rings", .int 8), ("MOST_PLAYERS_signed", .int 8)]
def fn : List He.DefD := [d_is_whole, d_is_climbing, d_is_tournament, d_check_tournament, d_is_player, d_is_signed, d_is_order, d_tournament_by, d_stands_for, d_accepts_order, d__law_stream, d__law_next, d__law_is_integer, d__law_equal, d__law_stands, d_law]
def fa : List He.Fa := [.glo "is_whole", .glo "is_climbing", .glo "is_tournament", .glo "check_tournament", .glo "is_player", .glo "is_signed", .glo "is_order", .glo "tournament_by", .glo "stands_for", .glo "accepts_order", .glo "_law_stream", .glo "_law_next", .glo "_law_is_integer", .glo "_law_equal", .glo "_law_stands", .glo "law", .free "isinstance", .free "len", .free "all", .free "any", .free "range", .free "tuple", .free "list", .free "sorted", .free "enumerate", .free "zip", .free "sum", .free "abs", .free "int", .free "min", .free "max", .free "str", .free "set", .free "reversed", .free "bool", .free "dict", .int "MOST_PLAYERS_rings" 8, .int "MOST_PLAYERS_signed" 8]
abbrev R : PySem.W.OpenRow := PySem.W.OpenLaw.row PySem.Challenge.rw_ringbeats_k15_what_orders_stand_for
abbrev hk : PySem.W.Hook := He.hookD 4 fa fn
def ob (s : PySem.W.SharedT) : He.AlD := He.obsDG 4 fa fn (HandSHeadRun.getT s)
theorem ob_eq (s : PySem.W.SharedT) : ob s = hk.obs s.abs := He.obsDG_eq (HandSHeadRun.getT_eq s)
def loose : List Str := ["__name__", "RingError", "BadValue", "MOST_PLAYERS_rings", "is_whole", "is_climbing", "is_tournament", "MOST_PLAYERS_signed", "check_tournament", "is_player", "is_signed", "is_order", "tournament_by", "stands_for", "accepts_order", "_law_stream", "_law_next", "_law_is_integer", "_law_equal", "_law_stands"]
theorem run (w : World) : HandSHeadRun.RunEq R (PySem.W.view R.prog [24]) hk ob 4000 loose w := by
  intro os
  kernel_rfl
theorem ok_is_whole : DfOk ds cs D_is_whole where
  sc := by kernel_rfl
  cmp := by
    intro cl
    kernel_rfl
  find := by kernel_rfl
  bnd := fun _ _ _ _ _ _ us hl => match us, hl with | [_, _, _], _ => rfl
theorem ok_is_climbing : DfOk ds cs D_is_climbing where
  sc := by kernel_rfl
  cmp := by
    intro cl
    kernel_rfl
  find := by kernel_rfl
  bnd := fun _ _ _ _ _ _ us hl => match us, hl with | [_, _], _ => rfl
theorem ok_is_tournament : DfOk ds cs D_is_tournament where
  sc := by kernel_rfl
  cmp := by
    intro cl
    kernel_rfl
  find := by kernel_rfl
  bnd := fun _ _ _ _ _ _ us hl => match us, hl with | [_], _ => rfl
theorem ok_check_tournament : DfOk ds cs D_check_tournament where
  sc := by kernel_rfl
  cmp := by
    intro cl
    kernel_rfl
  find := by kernel_rfl
  bnd := fun _ _ _ _ _ _ us hl => match us, hl with | [_], _ => rfl
theorem ok_is_player : DfOk ds cs D_is_player where
  sc := by kernel_rfl
  cmp := by
    intro cl
    kernel_rfl
  find := by kernel_rfl
  bnd := fun _ _ _ _ _ _ us hl => match us, hl with | [_, _], _ => rfl
theorem ok_is_signed : DfOk ds cs D_is_signed where
  sc := by kernel_rfl
  cmp := by
    intro cl
    kernel_rfl
  find := by kernel_rfl
  bnd := fun _ _ _ _ _ _ us hl => match us, hl with | [_, _], _ => rfl
theorem ok_is_order : DfOk ds cs D_is_order where
  sc := by kernel_rfl
  cmp := by
    intro cl
    kernel_rfl
  find := by kernel_rfl
  bnd := fun _ _ _ _ _ _ us hl => match us, hl with | [_], _ => rfl
theorem ok_tournament_by : DfOk ds cs D_tournament_by where
  sc := by kernel_rfl
  cmp := by
    intro cl
    kernel_rfl
  find := by kernel_rfl
  bnd := fun _ _ _ _ _ _ us hl => match us, hl with | [_], _ => rfl
theorem ok_stands_for : DfOk ds cs D_stands_for where
  sc := by kernel_rfl
  cmp := by
    intro cl
    kernel_rfl
  find := by kernel_rfl
  bnd := fun _ _ _ _ _ _ us hl => match us, hl with | [_], _ => rfl
theorem ok_accepts_order : DfOk ds cs D_accepts_order where
  sc := by kernel_rfl
  cmp := by
    intro cl
    kernel_rfl
  find := by kernel_rfl
  bnd := fun _ _ _ _ _ _ us hl => match us, hl with | [_, _], _ => rfl
theorem ok__law_stream : DfOk ds cs D__law_stream where
  sc := by kernel_rfl
  cmp := by
    intro cl
    kernel_rfl
  find := by kernel_rfl
  bnd := fun _ _ _ _ _ _ us hl => match us, hl with | [_], _ => rfl
theorem ok__law_next : DfOk ds cs D__law_next where
  sc := by kernel_rfl
  cmp := by
    intro cl
    kernel_rfl
  find := by kernel_rfl
  bnd := fun _ _ _ _ _ _ us hl => match us, hl with | [_, _], _ => rfl
theorem ok__law_is_integer : DfOk ds cs D__law_is_integer where
  sc := by kernel_rfl
  cmp := by
    intro cl
    kernel_rfl
  find := by kernel_rfl
  bnd := fun _ _ _ _ _ _ us hl => match us, hl with | [_], _ => rfl
theorem ok__law_equal : DfOk ds cs D__law_equal where
  sc := by kernel_rfl
  cmp := by
    intro cl
    kernel_rfl
  find := by kernel_rfl
  bnd := fun _ _ _ _ _ _ us hl => match us, hl with | [_, _], _ => rfl
theorem ok__law_stands : DfOk ds cs D__law_stands where
  sc := by kernel_rfl
  cmp := by
    intro cl
    kernel_rfl
  find := by kernel_rfl
  bnd := fun _ _ _ _ _ _ us hl => match us, hl with | [_], _ => rfl
theorem ok_law : DfOk ds cs D_law where
  sc := by kernel_rfl
  cmp := by
    intro cl
    kernel_rfl
  find := by kernel_rfl
  bnd := fun _ _ _ _ _ _ us hl => match us, hl with | [_], _ => rfl
theorem ok_all : ∀ d ∈ ds, DfOk ds cs d := by
  intro d hd
  simp only [ds, List.mem_cons, List.not_mem_nil, or_false] at hd
  rcases hd with rfl | rfl | rfl | rfl | rfl | rfl | rfl | rfl | rfl | rfl | rfl | rfl | rfl | rfl | rfl | rfl
  · exact ok_is_whole
  · exact ok_is_climbing
  · exact ok_is_tournament
  · exact ok_check_tournament
  · exact ok_is_player
  · exact ok_is_signed
  · exact ok_is_order
  · exact ok_tournament_by
  · exact ok_stands_for
  · exact ok_accepts_order
  · exact ok__law_stream
  · exact ok__law_next
  · exact ok__law_is_integer
  · exact ok__law_equal
  · exact ok__law_stands
  · exact ok_law
theorem mo {K : PySem.W.Frag} {h : Heap} {mg : Str → Option Value} (X : K.In h) (G : h.Ns mainGlobals mg) (c : He.SaysD fa fn K) : Mo K mg ds cs where
  fn := by
    intro d hd
    simp only [ds, List.mem_cons, List.not_mem_nil, or_false] at hd
    rcases hd with rfl | rfl | rfl | rfl | rfl | rfl | rfl | rfl | rfl | rfl | rfl | rfl | rfl | rfl | rfl | rfl
    · obtain ⟨fd, F⟩ := c.def_ 0 (d := d_is_whole) rfl
      exact ⟨_, fd, F, He.glo_ok X G (c.fact 0 (f := .glo "is_whole") rfl)⟩
    · obtain ⟨fd, F⟩ := c.def_ 1 (d := d_is_climbing) rfl
      exact ⟨_, fd, F, He.glo_ok X G (c.fact 1 (f := .glo "is_climbing") rfl)⟩
    · obtain ⟨fd, F⟩ := c.def_ 2 (d := d_is_tournament) rfl
      exact ⟨_, fd, F, He.glo_ok X G (c.fact 2 (f := .glo "is_tournament") rfl)⟩
    · obtain ⟨fd, F⟩ := c.def_ 3 (d := d_check_tournament) rfl
      exact ⟨_, fd, F, He.glo_ok X G (c.fact 3 (f := .glo "check_tournament") rfl)⟩
    · obtain ⟨fd, F⟩ := c.def_ 4 (d := d_is_player) rfl
      exact ⟨_, fd, F, He.glo_ok X G (c.fact 4 (f := .glo "is_player") rfl)⟩
    · obtain ⟨fd, F⟩ := c.def_ 5 (d := d_is_signed) rfl
      exact ⟨_, fd, F, He.glo_ok X G (c.fact 5 (f := .glo "is_signed") rfl)⟩
    · obtain ⟨fd, F⟩ := c.def_ 6 (d := d_is_order) rfl
      exact ⟨_, fd, F, He.glo_ok X G (c.fact 6 (f := .glo "is_order") rfl)⟩
    · obtain ⟨fd, F⟩ := c.def_ 7 (d := d_tournament_by) rfl
      exact ⟨_, fd, F, He.glo_ok X G (c.fact 7 (f := .glo "tournament_by") rfl)⟩
    · obtain ⟨fd, F⟩ := c.def_ 8 (d := d_stands_for) rfl
      exact ⟨_, fd, F, He.glo_ok X G (c.fact 8 (f := .glo "stands_for") rfl)⟩
    · obtain ⟨fd, F⟩ := c.def_ 9 (d := d_accepts_order) rfl
      exact ⟨_, fd, F, He.glo_ok X G (c.fact 9 (f := .glo "accepts_order") rfl)⟩
    · obtain ⟨fd, F⟩ := c.def_ 10 (d := d__law_stream) rfl
      exact ⟨_, fd, F, He.glo_ok X G (c.fact 10 (f := .glo "_law_stream") rfl)⟩
    · obtain ⟨fd, F⟩ := c.def_ 11 (d := d__law_next) rfl
      exact ⟨_, fd, F, He.glo_ok X G (c.fact 11 (f := .glo "_law_next") rfl)⟩
    · obtain ⟨fd, F⟩ := c.def_ 12 (d := d__law_is_integer) rfl
      exact ⟨_, fd, F, He.glo_ok X G (c.fact 12 (f := .glo "_law_is_integer") rfl)⟩
    · obtain ⟨fd, F⟩ := c.def_ 13 (d := d__law_equal) rfl
      exact ⟨_, fd, F, He.glo_ok X G (c.fact 13 (f := .glo "_law_equal") rfl)⟩
    · obtain ⟨fd, F⟩ := c.def_ 14 (d := d__law_stands) rfl
      exact ⟨_, fd, F, He.glo_ok X G (c.fact 14 (f := .glo "_law_stands") rfl)⟩
    · obtain ⟨fd, F⟩ := c.def_ 15 (d := d_law) rfl
      exact ⟨_, fd, F, He.glo_ok X G (c.fact 15 (f := .glo "law") rfl)⟩
  bis := by
    intro b hb
    simp only [biNames, List.mem_cons, List.not_mem_nil, or_false] at hb
    rcases hb with rfl | rfl | rfl | rfl | rfl | rfl | rfl | rfl | rfl | rfl | rfl | rfl | rfl | rfl | rfl | rfl | rfl | rfl | rfl | rfl
    · exact He.free_ok X G (c.fact 16 (f := .free "isinstance") rfl)
    · exact He.free_ok X G (c.fact 17 (f := .free "len") rfl)
    · exact He.free_ok X G (c.fact 18 (f := .free "all") rfl)
    · exact He.free_ok X G (c.fact 19 (f := .free "any") rfl)
    · exact He.free_ok X G (c.fact 20 (f := .free "range") rfl)
    · exact He.free_ok X G (c.fact 21 (f := .free "tuple") rfl)
    · exact He.free_ok X G (c.fact 22 (f := .free "list") rfl)
    · exact He.free_ok X G (c.fact 23 (f := .free "sorted") rfl)
    · exact He.free_ok X G (c.fact 24 (f := .free "enumerate") rfl)
    · exact He.free_ok X G (c.fact 25 (f := .free "zip") rfl)
    · exact He.free_ok X G (c.fact 26 (f := .free "sum") rfl)
    · exact He.free_ok X G (c.fact 27 (f := .free "abs") rfl)
    · exact He.free_ok X G (c.fact 28 (f := .free "int") rfl)
    · exact He.free_ok X G (c.fact 29 (f := .free "min") rfl)
    · exact He.free_ok X G (c.fact 30 (f := .free "max") rfl)
    · exact He.free_ok X G (c.fact 31 (f := .free "str") rfl)
    · exact He.free_ok X G (c.fact 32 (f := .free "set") rfl)
    · exact He.free_ok X G (c.fact 33 (f := .free "reversed") rfl)
    · exact He.free_ok X G (c.fact 34 (f := .free "bool") rfl)
    · exact He.free_ok X G (c.fact 35 (f := .free "dict") rfl)
  cst := by
    intro p hp
    simp only [cs, List.mem_cons, List.not_mem_nil, or_false] at hp
    rcases hp with rfl | rfl
    · obtain ⟨t, e⟩ := He.int_ok X G (c.fact 36 (f := .int "MOST_PLAYERS_rings" 8) rfl)
      exact ⟨_, e, .int _ t⟩
    · obtain ⟨t, e⟩ := He.int_ok X G (c.fact 37 (f := .int "MOST_PLAYERS_signed" 8) rfl)
      exact ⟨_, e, .int _ t⟩
end Cl
--END
namespace Cl
open PySem PySem.Spec PyProof.Rows L2 Rb
open PySem PySem.W PySem.Calls PyProof.Rows
theorem holds (hsp : ∀ ns : List Int, ns.length ≤ 63 → ∃ S', runD ds 40 "law" [.loc 0] [.scr ns] = .ok (.val (.bool true)) S') : PySem.Challenge.rw_ringbeats_k15_what_orders_stand_for.Holds := by
  w_on; o_law
  refine HandSHeadRun.head_any (r := OpenLaw.row PySem.Challenge.rw_ringbeats_k15_what_orders_stand_for) (q := view (OpenLaw.row PySem.Challenge.rw_ringbeats_k15_what_orders_stand_for).prog [24]) (H := Cl.hk) (ob := Cl.ob) (M := 4000) (loose := Cl.loose) (d := HandSHeadRun.topDef (OpenLaw.row PySem.Challenge.rw_ringbeats_k15_what_orders_stand_for).prog 24) (kwd := []) Cl.ob_eq
    (by kernel_rfl) (fun s => by kernel_rfl) Cl.run (by kernel_rfl) (by kernel_rfl) (by kernel_rfl) (by rfl) (by first | assumption | decide +kernel) (by decide +kernel) ⟨rfl, rfl, rfl, rfl, rfl, by decide +kernel⟩ ?hw ?hc
  case hw => w_witness2
  case hc =>
    refine Rb.walk_my (l := PySem.Challenge.rw_ringbeats_k15_what_orders_stand_for) (n := 63) (k := 40) (x := "_law_script") (ds := Cl.ds) (cs := Cl.cs) (dl := Cl.D_law) rfl (by decide) (by kernel_rfl) ⟨rfl, by decide, by decide⟩ Cl.ok_all (by simp [Cl.ds]) (by kernel_rfl) rfl ?F hsp
    intro w mg fa h Y G hmg0
    obtain ⟨K, KX, c⟩ := Y
    exact ⟨K, KX, Cl.mo KX G c⟩
end Cl

namespace Cl
open PySem Rb
theorem whole (n : Nat) : Whole (runD ds (n + 1)) := fun v lo hi S => by
  rw [at_level (f := "is_whole") (ok_is_whole).find (F := ⟨3, 3, false, Rb.F_is_whole⟩) rfl]; exact is_whole_run
theorem climbing (n : Nat) : Climbing (runD ds (n + 2)) := fun r many S h hl => by
  rw [show n + 2 = n + 1 + 1 from rfl, at_level (f := "is_climbing") (ok_is_climbing).find (F := ⟨2, 4, false, Rb.F_is_climbing⟩) rfl]; exact is_climbing_run (whole n) h hl
theorem tourn (n : Nat) : Tourn (runD ds (n + 3)) := fun R S h => by
  rw [show n + 3 = n + 2 + 1 from rfl, at_level (f := "is_tournament") (ok_is_tournament).find (F := ⟨1, 4, false, Rb.F_is_tournament⟩) rfl]; exact is_tournament_run (climbing n) h
theorem check (n : Nat) : Check (runD ds (n + 4)) := fun R S h => by
  rw [show n + 4 = n + 3 + 1 from rfl, at_level (f := "check_tournament") (ok_check_tournament).find (F := ⟨1, 1, false, Rb.F_check⟩) rfl]; exact check_run (tourn n) h
theorem player (n : Nat) : Player (runD ds (n + 1)) := fun v many S => by
  rw [at_level (f := "is_player") (ok_is_player).find (F := ⟨2, 2, false, Rb.F_is_player⟩) rfl]; exact is_player_run
theorem signed (n : Nat) : Signed (runD ds (n + 2)) := fun p many S h => by
  rw [show n + 2 = n + 1 + 1 from rfl, at_level (f := "is_signed") (ok_is_signed).find (F := ⟨2, 2, false, Rb.F_is_signed⟩) rfl]; exact is_signed_run (player n) h
theorem order (n : Nat) : Order (runD ds (n + 3)) := fun o S h => by
  rw [show n + 3 = n + 2 + 1 from rfl, at_level (f := "is_order") (ok_is_order).find (F := ⟨1, 2, false, Rb.F_is_order⟩) rfl]; exact is_order_run (signed n) h
theorem byy (n : Nat) : By (runD ds (n + 1)) := fun o S h => by
  rw [at_level (f := "tournament_by") (ok_tournament_by).find (F := ⟨1, 9, false, Rb.F_tournament_by⟩) rfl]; exact tournament_by_run h
theorem stands (n : Nat) (o : List (Nat × Bool)) (S : Store) (h : OkO o) : runD ds (n + 1) "_law_stands" [.val (ordU o)] S = .ok (.val (tourU (T_of o))) S := by
  rw [at_level (f := "_law_stands") (ok__law_stands).find (F := ⟨1, 6, false, Rb.F_stands⟩) rfl]; exact stands_run h
theorem stands_for (n : Nat) (o : List (Nat × Bool)) (S : Store) (h : OkO o) : runD ds (n + 4) "stands_for" [.val (ordU o)] S = .ok (.val (tourU (T_of o))) S := by
  rw [show n + 4 = n + 3 + 1 from rfl, at_level (f := "stands_for") (ok_stands_for).find (F := ⟨1, 1, false, Rb.F_stands_for⟩) rfl]; exact stands_for_run (order n) (byy (n + 2)) h
theorem accepts (n : Nat) (o : List (Nat × Bool)) (S : Store) (h : OkO o) : runD ds (n + 5) "accepts_order" [.val (tourU (T_of o)), .val (ordU o)] S = .ok (.val (.bool true)) S := by
  rw [show n + 5 = n + 4 + 1 from rfl, at_level (f := "accepts_order") (ok_accepts_order).find (F := ⟨2, 2, false, Rb.F_accepts⟩) rfl]; exact accepts_run (check n) (order (n + 1)) (byy (n + 3)) h
theorem stream (n : Nat) (ns : List Int) : runD ds (n + 1) "_law_stream" [.loc 0] [.scr ns] = .ok (.loc 1) [.scr ns, stO ns 0 0] := by
  rw [at_level (f := "_law_stream") (ok__law_stream).find (F := ⟨1, 1, true, Rb.F_stream⟩) rfl]; exact stream_run (S := [.scr ns]) rfl
theorem next (n : Nat) {S : Store} {many : Nat} (h : StAt S 1) (hm : 0 < many) (hm2 : many < 1073741824) : ∃ (d : Nat) (sc : List Int) (a b : Nat), runD ds (n + 1) "_law_next" [.loc 1, .val (.int (many : Nat))] S = .ok (.val (.int (d : Nat))) (S.set 1 (stO sc a b)) ∧ d < many := by
  obtain ⟨d, sc, a, b, h1, h2⟩ := next_run (cl := runD ds n) h hm hm2
  exact ⟨d, sc, a, b, by rw [at_level (f := "_law_next") (ok__law_next).find (F := ⟨2, 5, false, Rb.F_next⟩) rfl]; exact h1, h2⟩
theorem equal (n d : Nat) (u : U) (h : Nice d u) (S : Store) : runD ds (n + 1 + d) "_law_equal" [.val u, .val u] S = .ok (.val (.bool true)) S :=
  equal_level (ok__law_equal).find rfl (ok__law_is_integer).find rfl d n u h S
end Cl

namespace Cl
open PySem Rb
/-- the store: script, stream -/
def St2 (ns : List Int) (S : Store) : Prop := ∃ (sc : List Int) (a b : Nat), S = [.scr ns, stO sc a b]
def St3 (ns : List Int) (l : List Nat) (S : Store) : Prop := ∃ (sc : List Int) (a b : Nat), S = [.scr ns, stO sc a b, rowO l]
theorem next2 (n : Nat) {ns : List Int} {S : Store} {many : Nat} (h : St2 ns S) (hm : 0 < many) (hm2 : many < 1073741824) : ∃ (d : Nat) (S' : Store), runD ds (n + 1) "_law_next" [.loc 1, .val (.int (many : Nat))] S = .ok (.val (.int (d : Nat))) S' ∧ St2 ns S' ∧ d < many := by
  obtain ⟨sc, a, b, rfl⟩ := h
  obtain ⟨d, sc', a', b', h1, h2⟩ := next n (S := [.scr ns, stO sc a b]) ⟨sc, a, b, rfl⟩ hm hm2
  exact ⟨d, _, h1, ⟨sc', a', b', rfl⟩, h2⟩
theorem next3 (n : Nat) {ns : List Int} {l : List Nat} {S : Store} {many : Nat} (h : St3 ns l S) (hm : 0 < many) (hm2 : many < 1073741824) : ∃ (d : Nat) (S' : Store), runD ds (n + 1) "_law_next" [.loc 1, .val (.int (many : Nat))] S = .ok (.val (.int (d : Nat))) S' ∧ St3 ns l S' ∧ d < many := by
  obtain ⟨sc, a, b, rfl⟩ := h
  obtain ⟨d, sc', a', b', h1, h2⟩ := next n (S := [.scr ns, stO sc a b, rowO l]) ⟨sc, a, b, rfl⟩ hm hm2
  exact ⟨d, _, h1, ⟨sc', a', b', rfl⟩, h2⟩
theorem x_lrg {f : M} {env : Rb.Env} {S : Store} {n : Nat} (h : f env S = .ok (.val (.int (n : Nat))) S) (hn : n < 100000) : mLstRg (mRg1 f) env S = .ok (List.map W.val ((List.range n).map fun x => .int (x : Nat))) S := by
  have hg : rgOk 0 (n : Int) = true := by unfold rgOk; exact decide_eq_true (by omega)
  have e : rgU 0 (n : Int) = (List.range n).map fun x => (.int (x : Nat) : U) := by
    unfold rgU
    rw [show ((n : Int) - 0).toNat = n by omega]
    exact List.map_congr_left fun x _ => by rw [Int.zero_add]
  unfold mLstRg mRg1
  rw [h, Out.bind_ok]
  show (Out.ok ((0 : Int), (n : Int)) S).bind _ = _
  rw [Out.bind_ok]
  simp -implicitDefEqProofs only [hg, reduceIte, e]
theorem map_erase {f : Nat → U} : ∀ {l : List Nat} {i : Nat}, (l.map f).eraseIdx i = (l.eraseIdx i).map f
  | [], _ => rfl
  | a :: l, 0 => rfl
  | a :: l, i + 1 => by
    show f a :: (l.map f).eraseIdx i = f a :: (l.eraseIdx i).map f
    rw [map_erase]
theorem perm_erase : ∀ {l : List Nat} {d : Nat} (hd : d < l.length), (l[d] :: l.eraseIdx d).Perm l
  | a :: l, 0, _ => .refl _
  | a :: l, d + 1, hd => by
    have hd' : d < l.length := by simpa using hd
    show (l[d] :: a :: l.eraseIdx d).Perm (a :: l)
    exact (List.Perm.swap a l[d] _).trans ((perm_erase hd').cons a)
theorem x_popAt {S : Store} {k i : Nat} {l : List Nat} (h : S[k]? = some (rowO l)) (hi : i < l.length) (hl : l.length < 100000) : gPopAt S (.loc k) [.val (.int (i : Nat))] = some (.val (.int ((l[i] : Nat) : Int)), S.set k (rowO (l.eraseIdx i))) := by
  have hb : bxL S (.loc k) = some (k, l.map fun x => .int (x : Nat)) := by
    unfold bxL
    simp -implicitDefEqProofs only [h, rowO]
  have hs : seqIndex? (i : Int) (l.map fun x => (.int (x : Nat) : U)).length = some i := by
    rw [List.length_map]
    exact (L2.ixN_seq (ixN_nat hi)).1
  unfold gPopAt
  rw [hb]
  simp -implicitDefEqProofs only [hs, Option.bind_some, nat_get hi, Option.map_some]
  rw [if_pos (by omega)]
  unfold rowO
  rw [map_erase]
theorem x_cat {S : Store} {a b : List U} (h : a.length + b.length ≤ 16777216) : gAdd S (.val (.tuple a)) (.val (.tuple b)) = some (.val (.tuple (a ++ b))) := by
  show (if false = false ∧ a.length + b.length ≤ 16777216 then some (W.val (mkSeq false (a ++ b))) else none) = _
  rw [if_pos ⟨rfl, h⟩]; rfl
abbrev cl (n : Nat) : CallO := runD ds (n + 10)
/-- one more entry of the order -/
theorem entry_run (n : Nat) {ns : List Int} {l : List Nat} {o : List (Nat × Bool)} {S : Store} {env : Rb.Env} (h : St3 ns l S) (h1 : eget env 1 = some (.loc 1)) (h3 : eget env 3 = some (.loc 2)) (h4 : eget env 4 = some (.val (ordU o))) (hl : 0 < l.length) (hl2 : l.length < 100000) (ho : o.length < 100000) :
    ∃ (d : Nat) (b : Bool) (S' : Store) (hd : d < l.length), (m2 gAdd (mVar 4) (mTupOf (mCons (mTupOf (mCons (mMeth "list" gPopAt (mVar 3) (mCons (mCall (cl n) "_law_next" 2 (mCons (mVar 1) (mCons (mBi (on1 bLen) (mCons (mVar 3) mNil)) mNil))) mNil)) (mCons (m2 gEq (mCall (cl n) "_law_next" 2 (mCons (mVar 1) (mCons (mLit (.int 2)) mNil))) (mLit (.int 0))) mNil))) mNil))) env S = .ok (.val (ordU (o ++ [(l[d], b)]))) S' ∧ St3 ns (l.eraseIdx d) S' := by
  obtain ⟨d, S1, n1, s1, hd⟩ := next3 (n + 9) h hl (by omega)
  have hlen : bLen S (.loc 2) = some (.val (.int (l.length : Nat))) := by
    obtain ⟨sc, a, b, rfl⟩ := h
    show some (W.val (.int ((((l.map fun x => (.int (x : Nat) : U)).map W.val).length : Nat) : Int))) = _
    rw [List.length_map, List.length_map]
  have ht : tyW S (.loc 2) = some "list" := by
    obtain ⟨sc, a, b, rfl⟩ := h
    rfl
  have hrow : S1[2]? = some (rowO l) := by
    obtain ⟨sc, a, b, rfl⟩ := s1
    rfl
  have s2 : St3 ns (l.eraseIdx d) (S1.set 2 (rowO (l.eraseIdx d))) := by
    obtain ⟨sc, a, b, rfl⟩ := s1
    exact ⟨sc, a, b, rfl⟩
  obtain ⟨e, S2, n2, s3, he⟩ := next3 (n + 9) s2 (many := 2) (by omega) (by omega)
  refine ⟨d, decide ((e : Int) = 0), S2, hd, ?_, s3⟩
  have c1 : (mCall (cl n) "_law_next" 2 (mCons (mVar 1) (mCons (mBi (on1 bLen) (mCons (mVar 3) mNil)) mNil))) env S = .ok (.val (.int (d : Nat))) S1 := by
    rw [x_call, x_cons, x_var, h1, x_opt, x_mcK, x_cons, x_bi, x_cons, x_var, h3, x_opt, x_mcK, x_nil, x_mcL, x_mbK, x_on1, hlen, x_opt, x_mcK, x_nil, x_mcL, x_mcL, x_callK2]
    exact n1
  have c2 : (mCall (cl n) "_law_next" 2 (mCons (mVar 1) (mCons (mLit (.int 2)) mNil))) env (S1.set 2 (rowO (l.eraseIdx d))) = .ok (.val (.int (e : Nat))) S2 := by
    rw [x_call, x_cons, x_var, h1, x_opt, x_mcK, x_cons, x_lit, x_mcK, x_nil, x_mcL, x_mcL, x_callK2]
    exact n2
  rw [x_m2, x_var, h4, x_opt, x_m2K, x_tup, x_cons, x_tup, x_cons, x_me, x_var, h3, x_opt, x_meK ht, x_cons, c1, x_mcK, x_nil, x_mcL, x_meL (x_popAt hrow hd hl2), x_mcK, x_cons, x_m2, c2, x_m2K, x_lit, x_m2L, x_eqI, x_opt, x_mcK, x_nil, x_mcL, x_mcL, x_tupK2, x_mcK, x_nil, x_mcL, x_tupK1, x_m2L]
  unfold ordU
  rw [x_cat (by rw [List.length_map]; simp; omega), x_opt, List.map_append]
  rfl
theorem perm_step {l : List Nat} {o : List (Nat × Bool)} {n d : Nat} {b : Bool} (hd : d < l.length) (h : (o.map (·.1) ++ l).Perm (List.range n)) : ((o ++ [(l[d], b)]).map (·.1) ++ l.eraseIdx d).Perm (List.range n) := by
  refine List.Perm.trans ?_ h
  rw [List.map_append, List.append_assoc]
  refine List.Perm.append_left _ ?_
  exact perm_erase hd
theorem ok_of_perm {o : List (Nat × Bool)} {n : Nat} (h : (o.map (·.1)).Perm (List.range n)) (h1 : 1 ≤ n) (h8 : n ≤ 8) : OkO o ∧ o.length = n := by
  have hl : o.length = n := by
    have := h.length_eq
    simpa using this
  refine ⟨⟨by omega, by omega, fun p hp => ?_, h.nodup_iff.mpr List.nodup_range⟩, hl⟩
  have := h.mem_iff.mp (List.mem_map.mpr ⟨p, hp, rfl⟩)
  rw [hl]
  exact List.mem_range.mp this
end Cl

namespace Cl
open PySem Rb
def ev (m : Nat) (w4 w6 w8 w10 : Option W) : Rb.Env := [some (.loc 0), some (.loc 1), some (.val (.int (m : Nat))), some (.loc 2), w4, none, w6, none, w8, none, w10, none, none, none]
/-- the order is drawn -/
theorem loop1 (n : Nat) {ns : List Int} {m : Nat} (hm : m ≤ 8) {S : Store} (h : St3 ns (List.range m) S) :
    ∃ (o : List (Nat × Bool)) (S' : Store), sFor (itR1 (mCons (mVar 2) mNil)) (.nm 5) (sSeq (sAsg (.nm 4) (m2 gAdd (mVar 4) (mTupOf (mCons (mTupOf (mCons (mMeth "list" gPopAt (mVar 3) (mCons (mCall (cl n) "_law_next" 2 (mCons (mVar 1) (mCons (mBi (on1 bLen) (mCons (mVar 3) mNil)) mNil))) mNil)) (mCons (m2 gEq (mCall (cl n) "_law_next" 2 (mCons (mVar 1) (mCons (mLit (.int 2)) mNil))) (mLit (.int 0))) mNil))) mNil))))
    sNil) (ev m (some (.val (ordU []))) none none none) S = .nx (ev m (some (.val (ordU o))) none none none) S' ∧ St3 ns [] S' ∧ (o.map (·.1)).Perm (List.range m) := by
  obtain ⟨env', S', hf, o, l, rfl, hS, hl, hp⟩ := for_inv (fun i env' S' => ∃ (o : List (Nat × Bool)) (l : List Nat), env' = ev m (some (.val (ordU o))) none none none ∧ St3 ns l S' ∧ o.length = i ∧ (o.map (·.1) ++ l).Perm (List.range m))
    (it := itR1 (mCons (mVar 2) mNil)) (tg := .nm 5) (body := sSeq (sAsg (.nm 4) (m2 gAdd (mVar 4) (mTupOf (mCons (mTupOf (mCons (mMeth "list" gPopAt (mVar 3) (mCons (mCall (cl n) "_law_next" 2 (mCons (mVar 1) (mCons (mBi (on1 bLen) (mCons (mVar 3) mNil)) mNil))) mNil)) (mCons (m2 gEq (mCall (cl n) "_law_next" 2 (mCons (mVar 1) (mCons (mLit (.int 2)) mNil))) (mLit (.int 0))) mNil))) mNil)))) sNil)
    (env := ev m (some (.val (ordU []))) none none none) (S := S) (S1 := S) (ws := rgW 0 m)
    (x_r1 (by rw [x_cons]; rfl) (by omega)) ⟨[], List.range m, rfl, h, rfl, .refl _⟩ (by
      rintro i w env S1 hw ⟨o, l, rfl, hS, hl, hp⟩
      rw [rgW_0, List.getElem?_map] at hw
      obtain ⟨p, hp', rfl⟩ := Option.map_eq_some_iff.mp hw
      obtain ⟨hil, _⟩ := List.getElem?_eq_some_iff.mp hp'
      rw [List.length_range] at hil
      have hlen := hp.length_eq
      rw [List.length_append, List.length_map, List.length_range] at hlen
      obtain ⟨d, b, S2, hd, e, hS2⟩ := entry_run n (env := [some (.loc 0), some (.loc 1), some (.val (.int (m : Nat))), some (.loc 2), some (.val (ordU o)), some (.val (.int (p : Nat))), none, none, none, none, none, none, none, none]) hS rfl rfl rfl (by omega) (by omega) (by omega)
      have hlen2 : S2.length = S1.length := by
        obtain ⟨_, _, _, rfl⟩ := hS
        obtain ⟨_, _, _, rfl⟩ := hS2
        rfl
      refine ⟨[some (.loc 0), some (.loc 1), some (.val (.int (m : Nat))), some (.loc 2), some (.val (ordU o)), some (.val (.int (p : Nat))), none, none, none, none, none, none, none, none], [some (.loc 0), some (.loc 1), some (.val (.int (m : Nat))), some (.loc 2), some (.val (ordU (o ++ [(l[d], b)]))), some (.val (.int (p : Nat))), none, none, none, none, none, none, none, none], S2, rfl, ?_, ?_, o ++ [(l[d], b)], l.eraseIdx d, rfl, ?_, ?_, perm_step hd hp⟩
      · rw [x_seq, x_asg, e, x_asgN]
        rfl
      · obtain ⟨_, _, _, rfl⟩ := hS
        rfl
      · rw [List.take_of_length_le (by omega)]
        exact hS2
      · simp [hl])
  have hw : (rgW 0 m).length = m := by rw [rgW_0]; simp
  rw [hw] at hl
  have hlen := hp.length_eq
  rw [List.length_append, List.length_map, List.length_range] at hlen
  have h0 : l = [] := List.eq_nil_of_length_eq_zero (by omega)
  subst h0
  rw [List.append_nil] at hp
  exact ⟨o, S', hf, hS, hp⟩
/-- some players are drawn -/
theorem comp1 (n : Nat) {ns : List Int} {m : Nat} (hm : m ≤ 8) {w4 w6 : Option W} {S : Store} (h : St3 ns [] S) :
    ∃ (cs : List Nat) (S' : Store), mSnap (mComp [7] (itR1 (mCons (mVar 2) mNil)) (.nm 7) (some (m2 gEq (mCall (cl n) "_law_next" 2 (mCons (mVar 1) (mCons (mLit (.int 2)) mNil))) (mLit (.int 0)))) (mVar 7)) (ev m w4 w6 none none) S = .ok (.val (.list (cs.map fun x => .int (x : Nat)))) S' ∧ St3 ns [] S' := by
  have hr : itR1 (mCons (mVar 2) mNil) (ev m w4 w6 none none) S = .ok (.fix (rgW 0 m)) S := x_r1 (by rw [x_cons]; rfl) (by omega)
  obtain ⟨us, S', q1, q2, q3, q4⟩ := compL_invF (tg := .nm 7) (c := m2 gEq (mCall (cl n) "_law_next" 2 (mCons (mVar 1) (mCons (mLit (.int 2)) mNil))) (mLit (.int 0))) (elt := mVar 7) (env := wipeE (ev m w4 w6 none none) [7]) (I := St3 ns []) (Q := fun u => ∃ x : Nat, u = .val (.int (x : Nat))) (ws := rgW 0 m) (fun w hw S hS => by
    rw [rgW_0] at hw
    obtain ⟨p, _, rfl⟩ := List.mem_map.mp hw
    obtain ⟨d, S1, n1, s1, hd⟩ := next3 (n + 9) hS (many := 2) (by omega) (by omega)
    refine ⟨_, decide ((d : Int) = 0), S1, rfl, ?_, fun _ => s1, fun _ => ⟨.val (.int (p : Nat)), S1, rfl, s1, p, rfl⟩⟩
    rw [x_m2, x_call, x_cons]
    show m2K gEq (mLit (.int 0)) _ (callK (cl n) "_law_next" 2 (mcK (mCons (mLit (.int 2)) mNil) _ (.ok (.loc 1) S))) = _
    rw [x_mcK, x_cons, x_lit, x_mcK, x_nil, x_mcL, x_mcL, x_callK2]
    have n1' : cl n "_law_next" [.loc 1, .val (.int 2)] S = _ := n1
    rw [n1', x_m2K, x_lit, x_m2L, x_eqI, x_opt]) h
  obtain ⟨cs, rfl⟩ : ∃ cs : List Nat, us = List.map W.val (cs.map fun x => .int (x : Nat)) := by
    clear q1 q3
    induction us with
    | nil => exact ⟨[], rfl⟩
    | cons u us ih =>
      obtain ⟨x, rfl⟩ := q4 u List.mem_cons_self
      obtain ⟨cs, rfl⟩ := ih fun v hv => q4 v (List.mem_cons_of_mem _ hv)
      exact ⟨x :: cs, rfl⟩
  refine ⟨cs, S', ?_, q2⟩
  have hw : (rgW 0 m).length = m := by rw [rgW_0]; simp
  rw [x_sn, comp_fix hr q1 (by omega), x_snK]
/-- the signs are turned -/
theorem comp2 {m : Nat} {w6 : Option W} {o : List (Nat × Bool)} {cs : List Nat} {S : Store} (ho : o.length < 100000) :
    mBi (on1 bTup) (mCons (mSnap (mComp [7, 9] (itAny (mVar 4)) (.tp [(.nm 7), (.nm 9)]) none (mTupOf (mCons (mVar 7) (mCons (m2 gNe (mVar 9) (m2 (gInN false) (mVar 7) (mVar 8))) mNil))))) mNil) (ev m (some (.val (ordU o))) w6 (some (.val (.list (cs.map fun x => .int (x : Nat))))) none) S = .ok (.val (ordU (o.map (fl fun x => decide (x ∈ cs))))) S := by
  have hi : itAny (mVar 4) (ev m (some (.val (ordU o))) w6 (some (.val (.list (cs.map fun x => .int (x : Nat))))) none) S = .ok (.fix ((o.map sgU).map .val)) S := x_anyT rfl
  let g : W → W := fun w => match w with
    | .val (.tuple [.int i, .bool b]) => .val (.tuple [.int i, .bool (b != decide (i.toNat ∈ cs))])
    | w => w
  have hc : compL (.tp [(.nm 7), (.nm 9)]) none (mTupOf (mCons (mVar 7) (mCons (m2 gNe (mVar 9) (m2 (gInN false) (mVar 7) (mVar 8))) mNil))) (wipeE (ev m (some (.val (ordU o))) w6 (some (.val (.list (cs.map fun x => .int (x : Nat))))) none) [7, 9]) ((o.map sgU).map .val) S = .ok (((o.map sgU).map .val).map g) S := compL_map g fun w hw => by
    obtain ⟨u, hu, rfl⟩ := List.mem_map.mp hw
    obtain ⟨⟨p, b⟩, hp, rfl⟩ := List.mem_map.mp hu
    refine ⟨[some (.loc 0), some (.loc 1), some (.val (.int (m : Nat))), some (.loc 2), some (.val (ordU o)), none, w6, some (.val (.int (p : Nat))), some (.val (.list (cs.map fun x => .int (x : Nat)))), some (.val (.bool b)), none, none, none, none], rfl, ?_⟩
    rw [x_tup, x_cons, x_var, x_gs, x_gs, x_gs, x_gs, x_gs, x_gs, x_gs, x_g0, x_opt, x_mcK, x_cons, x_m2, x_var, x_gs, x_gs, x_gs, x_gs, x_gs, x_gs, x_gs, x_gs, x_gs, x_g0, x_opt, x_m2K, x_m2, x_var, x_gs, x_gs, x_gs, x_gs, x_gs, x_gs, x_gs, x_g0, x_opt, x_m2K, x_var, x_gs, x_gs, x_gs, x_gs, x_gs, x_gs, x_gs, x_gs, x_g0, x_opt, x_m2L, x_inL, x_opt, x_m2L, x_neB, x_opt, x_mcK, x_nil, x_mcL, x_mcL, x_tupK2]
    show Out.ok (W.val (.tuple [.int (p : Nat), .bool (!decide (b = decide (p ∈ cs)))])) S = Out.ok (W.val (.tuple [.int (p : Nat), .bool (b != decide (((p : Nat) : Int).toNat ∈ cs))])) S
    rw [Int.toNat_natCast]
    cases b <;> cases decide (p ∈ cs) <;> rfl
  have e : ((o.map sgU).map W.val).map g = List.map W.val ((o.map (fl fun x => decide (x ∈ cs))).map sgU) := by
    rw [List.map_map, List.map_map, List.map_map, List.map_map]
    refine List.map_congr_left fun p _ => ?_
    show W.val (.tuple [.int (p.1 : Nat), .bool (p.2 != decide (((p.1 : Nat) : Int).toNat ∈ cs))]) = W.val (.tuple [.int (p.1 : Nat), .bool (p.2 != decide (p.1 ∈ cs))])
    rw [Int.toNat_natCast]
  rw [x_bi, x_cons, x_sn, comp_fix hi (by rw [hc, e]) (by simp; omega), x_snK, x_mcK, x_nil, x_mcL, x_mbK, x_on1, x_tupL, x_opt]
  rfl
end Cl

namespace Cl
open PySem Rb
abbrev bodyQ : SM := (sSeq (sIf (m2 gNe (mVar 11) (mVar 12)) (sSeq (sAsg (.nm 13) (m2 gNe (m2 (gInN false) (mVar 11) (mVar 8)) (m2 (gInN false) (mVar 12) (mVar 8))))
    (sSeq (sIf (m2 gNe (m2 (gInN false) (mVar 12) (m2 gIx (mVar 10) (mVar 11))) (m2 gNe (m2 (gInN false) (mVar 12) (m2 gIx (mVar 6) (mVar 11))) (mVar 13))) (sSeq (sRet (mLit (.bool false)))
    sNil) sNil)
    sNil)) sNil)
    sNil)
abbrev bodyP : SM := (sSeq (sFor (itR1 (mCons (mVar 2) mNil)) (.nm 12) bodyQ) sNil)
def ew (m : Nat) (o : List (Nat × Bool)) (cs : List Nat) (w11 w12 w13 : Option W) : Rb.Env := [some (.loc 0), some (.loc 1), some (.val (.int (m : Nat))), some (.loc 2), some (.val (ordU o)), none, some (.val (tourU (T_of o))), none, some (.val (.list (cs.map fun x => .int (x : Nat)))), none, some (.val (tourU (T_of (o.map (fl fun x => decide (x ∈ cs)))))), w11, w12, w13]
theorem bodyQ_run {m : Nat} {o : List (Nat × Bool)} {cs : List Nat} {S : Store} (h : OkO o) (hl : o.length = m) {p q : Nat} (hp : p < m) (hq : q < m) :
    ∃ w13, bodyQ (ew m o cs (some (.val (.int (p : Nat)))) (some (.val (.int (q : Nat)))) none) S = .nx (ew m o cs (some (.val (.int (p : Nat)))) (some (.val (.int (q : Nat)))) w13) S := by
  have t1 : p < (T_of o).length := by rw [T_len, hl]; exact hp
  have t2 : p < (T_of (o.map (fl fun x => decide (x ∈ cs)))).length := by rw [T_len, List.length_map, hl]; exact hp
  have hc : m2 gNe (mVar 11) (mVar 12) (ew m o cs (some (.val (.int (p : Nat)))) (some (.val (.int (q : Nat)))) none) S = .ok (.val (.bool (!decide ((p : Int) = (q : Int))))) S := by
    rw [x_m2, x_var]
    show m2K gNe (mVar 12) _ (.ok (.val (.int (p : Nat))) S) = _
    rw [x_m2K, x_var]
    show m2L gNe (.val (.int (p : Nat))) (.ok (.val (.int (q : Nat))) S) = _
    rw [x_m2L, x_neI, x_opt]
  by_cases hpq : p = q
  · refine ⟨none, ?_⟩
    show sSeq _ sNil _ _ = _
    rw [x_seq, x_if, hc, decide_eq_true (show (p : Int) = (q : Int) by omega), Bool.not_true, x_tstB, x_ifF, x_sNil, x_seqN, x_sNil]
  · refine ⟨some (.val (.bool (decide (p ∈ cs) != decide (q ∈ cs)))), ?_⟩
    have ht : m2 gNe (m2 (gInN false) (mVar 11) (mVar 8)) (m2 (gInN false) (mVar 12) (mVar 8)) (ew m o cs (some (.val (.int (p : Nat)))) (some (.val (.int (q : Nat)))) none) S = .ok (.val (.bool (decide (p ∈ cs) != decide (q ∈ cs)))) S := by
      have a : ∀ (i : Nat) (x : Nat), eget (ew m o cs (some (.val (.int (p : Nat)))) (some (.val (.int (q : Nat)))) none) i = some (.val (.int (x : Nat))) → m2 (gInN false) (mVar i) (mVar 8) (ew m o cs (some (.val (.int (p : Nat)))) (some (.val (.int (q : Nat)))) none) S = .ok (.val (.bool (decide (x ∈ cs)))) S := fun i x hi => by
        rw [x_m2, x_var, hi, x_opt, x_m2K, x_var]
        show m2L (gInN false) _ (.ok (.val (.list (cs.map fun x => .int (x : Nat)))) S) = _
        rw [x_m2L, x_inL, x_opt]
      rw [x_m2, a 11 p rfl, x_m2K, a 12 q rfl, x_m2L, x_neB, x_opt]
      cases decide (p ∈ cs) <;> cases decide (q ∈ cs) <;> rfl
    have hx : ∀ (i : Nat) (R : List (List Nat)) (hR : p < R.length), eget (ew m o cs (some (.val (.int (p : Nat)))) (some (.val (.int (q : Nat)))) (some (.val (.bool (decide (p ∈ cs) != decide (q ∈ cs)))))) i = some (.val (tourU R)) →
        m2 (gInN false) (mVar 12) (m2 gIx (mVar i) (mVar 11)) (ew m o cs (some (.val (.int (p : Nat)))) (some (.val (.int (q : Nat)))) (some (.val (.bool (decide (p ∈ cs) != decide (q ∈ cs)))))) S = .ok (.val (.bool (decide (q ∈ R[p])))) S := fun i R hR hi => by
      have ix : gIx S (.val (tourU R)) (.val (.int (p : Nat))) = some (.val (natU R[p])) := x_ixT (tour_get hR)
      rw [x_m2, x_var]
      show m2K (gInN false) (m2 gIx (mVar i) (mVar 11)) _ (.ok (.val (.int (q : Nat))) S) = _
      rw [x_m2K, x_m2, x_var, hi, x_opt, x_m2K, x_var]
      show m2L (gInN false) (.val (.int (q : Nat))) (m2L gIx (.val (tourU R)) (.ok (.val (.int (p : Nat))) S)) = _
      rw [x_m2L, ix, x_opt, x_m2L, x_in, x_opt]
    have hb : m2 gNe (m2 (gInN false) (mVar 12) (m2 gIx (mVar 10) (mVar 11))) (m2 gNe (m2 (gInN false) (mVar 12) (m2 gIx (mVar 6) (mVar 11))) (mVar 13)) (ew m o cs (some (.val (.int (p : Nat)))) (some (.val (.int (q : Nat)))) (some (.val (.bool (decide (p ∈ cs) != decide (q ∈ cs)))))) S = .ok (.val (.bool false)) S := by
      rw [x_m2, hx 10 _ t2 rfl, x_m2K, x_m2, hx 6 _ t1 rfl, x_m2K, x_var]
      show m2L gNe _ (m2L gNe _ (.ok (.val (.bool (decide (p ∈ cs) != decide (q ∈ cs)))) S)) = _
      rw [x_m2L, x_neB, x_opt, x_m2L, x_neB, x_opt]
      have := turned (c := fun x => decide (x ∈ cs)) h (p := p) (q := q) (by omega) (by omega) hpq t1 t2
      rw [this]
      congr 3
      cases decide (q ∈ (T_of o)[p]) <;> cases decide (p ∈ cs) <;> cases decide (q ∈ cs) <;> rfl
    show sSeq _ sNil _ _ = _
    rw [x_seq, x_if, hc, decide_eq_false (show ¬ (p : Int) = (q : Int) by omega), Bool.not_false, x_tstB, x_ifT, x_seq, x_asg, ht, x_asgN]
    show seqK sNil (seqK _ (.nx (ew m o cs (some (.val (.int (p : Nat)))) (some (.val (.int (q : Nat)))) (some (.val (.bool (decide (p ∈ cs) != decide (q ∈ cs)))))) S)) = _
    rw [x_seqN, x_seq, x_if, hb, x_tstB, x_ifF, x_sNil, x_seqN, x_sNil, x_seqN, x_sNil]
theorem rng (m : Nat) (o : List (Nat × Bool)) (cs : List Nat) (w11 : Option W) (S : Store) (hm : m ≤ 8) : itR1 (mCons (mVar 2) mNil) (ew m o cs w11 none none) S = .ok (.fix (rgW 0 m)) S := x_r1 (by rw [x_cons]; rfl) (by omega)
theorem rg_at {m i : Nat} {w : W} (hw : (rgW 0 m)[i]? = some w) : i < m ∧ w = .val (.int (i : Nat)) := by
  rw [rgW_0, List.getElem?_map] at hw
  obtain ⟨p, hp, rfl⟩ := Option.map_eq_some_iff.mp hw
  obtain ⟨hi, hp⟩ := List.getElem?_eq_some_iff.mp hp
  rw [List.getElem_range] at hp
  subst hp
  rw [List.length_range] at hi
  exact ⟨hi, rfl⟩
theorem loopQ {m : Nat} (hm : m ≤ 8) {o : List (Nat × Bool)} {cs : List Nat} {S : Store} (hS : 2 < S.length) (h : OkO o) (hl : o.length = m) {p : Nat} (hp : p < m) :
    sFor (itR1 (mCons (mVar 2) mNil)) (.nm 12) bodyQ (ew m o cs (some (.val (.int (p : Nat)))) none none) S = .nx (ew m o cs (some (.val (.int (p : Nat)))) none none) S := by
  obtain ⟨env', S', hf, rfl, rfl⟩ := for_inv (fun _ env' S' => env' = ew m o cs (some (.val (.int (p : Nat)))) none none ∧ S' = S) (body := bodyQ) (tg := .nm 12) (rng m o cs (some (.val (.int (p : Nat)))) S hm) ⟨rfl, rfl⟩ (by
    rintro i w env S1 hw ⟨rfl, rfl⟩
    obtain ⟨hi, rfl⟩ := rg_at hw
    obtain ⟨w13, e⟩ := bodyQ_run (cs := cs) (S := S1) h hl hp hi
    refine ⟨ew m o cs (some (.val (.int (p : Nat)))) (some (.val (.int (i : Nat)))) none, _, S1, rfl, e, ?_, rfl, List.take_length⟩
    show (decide (0 < S1.length) && (decide (1 < S1.length) && (decide (2 < S1.length) && true))) = true
    rw [decide_eq_true (by omega), decide_eq_true (by omega), decide_eq_true (by omega)]; rfl)
  exact hf
theorem loopP {m : Nat} (hm : m ≤ 8) {o : List (Nat × Bool)} {cs : List Nat} {S : Store} (hS : 2 < S.length) (h : OkO o) (hl : o.length = m) :
    sFor (itR1 (mCons (mVar 2) mNil)) (.nm 11) bodyP (ew m o cs none none none) S = .nx (ew m o cs none none none) S := by
  obtain ⟨env', S', hf, rfl, rfl⟩ := for_inv (fun _ env' S' => env' = ew m o cs none none none ∧ S' = S) (body := bodyP) (tg := .nm 11) (rng m o cs none S hm) ⟨rfl, rfl⟩ (by
    rintro i w env S1 hw ⟨rfl, rfl⟩
    obtain ⟨hi, rfl⟩ := rg_at hw
    refine ⟨ew m o cs (some (.val (.int (i : Nat)))) none none, ew m o cs (some (.val (.int (i : Nat)))) none none, S1, rfl, ?_, ?_, rfl, List.take_length⟩
    · show sSeq _ sNil _ _ = _
      rw [x_seq, loopQ hm hS h hl hi, x_seqN, x_sNil]
    · show (decide (0 < S1.length) && (decide (1 < S1.length) && (decide (2 < S1.length) && true))) = true
      rw [decide_eq_true (by omega), decide_eq_true (by omega), decide_eq_true (by omega)]; rfl)
  exact hf
theorem law_ok (ns : List Int) (hns : ns.length ≤ 63) : ∃ S', runD ds 40 "law" [.loc 0] [.scr ns] = .ok (.val (.bool true)) S' := by
  suffices hb : ∃ S', F_law (cl 29) [some (.loc 0), none, none, none, none, none, none, none, none, none, none, none, none, none] [.scr ns] = .rt (.val (.bool true)) S' by
    obtain ⟨S', hb⟩ := hb
    refine ⟨S'.take 1, ?_⟩
    rw [show (40 : Nat) = 39 + 1 from rfl, at_level (f := "law") (ok_law).find (F := ⟨1, 14, false, F_law⟩) rfl, run_rt (w := .val (.bool true)) (S' := S') hb]
    rfl
  unfold F_law
  -- the stream
  have s1 : runD ds 39 "_law_stream" [.loc 0] [.scr ns] = .ok (.loc 1) [.scr ns, stO ns 0 0] := stream 38 ns
  have a1 : mCall (cl 29) "_law_stream" 1 (mCons (mVar 0) mNil) [some (.loc 0), none, none, none, none, none, none, none, none, none, none, none, none, none] [.scr ns] = .ok (.loc 1) [.scr ns, stO ns 0 0] := by
    rw [x_call, x_cons, x_var, x_g0, x_opt, x_mcK, x_nil, x_mcL, x_callK1]; exact s1
  rw [x_seq, x_asg, a1, x_asgN]
  show ∃ S', seqK _ (.nx [some (.loc 0), some (.loc 1), none, none, none, none, none, none, none, none, none, none, none, none] _) = .rt _ S'
  rw [x_seqN]
  -- how many
  obtain ⟨d, S1, n1, q1, hd⟩ := next2 38 (ns := ns) (S := [.scr ns, stO ns 0 0]) (many := 8) ⟨ns, 0, 0, rfl⟩ (by omega) (by omega)
  have a2 : m2 gAdd (mLit (.int 1)) (mCall (cl 29) "_law_next" 2 (mCons (mVar 1) (mCons (mLit (.int 8)) mNil))) [some (.loc 0), some (.loc 1), none, none, none, none, none, none, none, none, none, none, none, none] [.scr ns, stO ns 0 0] = .ok (.val (.int ((1 + d : Nat) : Int))) S1 := by
    rw [x_m2, x_lit, x_m2K, x_call, x_cons, x_var, x_gs, x_g0, x_opt, x_mcK, x_cons, x_lit, x_mcK, x_nil, x_mcL, x_mcL, x_callK2]
    have n1' : cl 29 "_law_next" [.loc 1, .val (.int 8)] [.scr ns, stO ns 0 0] = _ := n1
    rw [n1', x_m2L, x_addI, x_opt]
    rfl
  rw [x_seq, x_asg, a2, x_asgN]
  have hm : 1 + d ≤ 8 := by omega
  generalize hmm : 1 + d = m at *
  have hm1 : 1 ≤ m := by omega
  clear hmm
  show ∃ S', seqK _ (.nx [some (.loc 0), some (.loc 1), some (.val (.int (m : Nat))), none, none, none, none, none, none, none, none, none, none, none] _) = .rt _ S'
  rw [x_seqN]
  -- those that are left
  obtain ⟨sc, ca, cb, rfl⟩ := q1
  have a3 : mBox (mLstRg (mRg1 (mVar 2))) [some (.loc 0), some (.loc 1), some (.val (.int (m : Nat))), none, none, none, none, none, none, none, none, none, none, none] [.scr ns, stO sc ca cb] = .ok (.loc 2) [.scr ns, stO sc ca cb, rowO (List.range m)] := by
    rw [x_bx, x_lrg (n := m) (by rw [x_var]; rfl) (by omega), x_bxK]; rfl
  rw [x_seq, x_asg, a3, x_asgN]
  show ∃ S', seqK _ (.nx [some (.loc 0), some (.loc 1), some (.val (.int (m : Nat))), some (.loc 2), none, none, none, none, none, none, none, none, none, none] _) = .rt _ S'
  rw [x_seqN, x_seq, x_asg, x_tup, x_nil, x_tupK0, x_asgN]
  show ∃ S', seqK _ (.nx (ev m (some (.val (ordU []))) none none none) _) = .rt _ S'
  rw [x_seqN]
  -- the order
  obtain ⟨o, S2, hf, q2, hperm⟩ := loop1 29 (ns := ns) (m := m) hm (S := [.scr ns, stO sc ca cb, rowO (List.range m)]) ⟨sc, ca, cb, rfl⟩
  rw [x_seq, hf, x_seqN]
  obtain ⟨ho, hol⟩ := ok_of_perm hperm hm1 hm
  -- told
  have a4 : mCall (cl 29) "stands_for" 1 (mCons (mVar 4) mNil) (ev m (some (.val (ordU o))) none none none) S2 = .ok (.val (tourU (T_of o))) S2 := by
    rw [x_call, x_cons]
    show callK (cl 29) "stands_for" 1 (mcK mNil _ (.ok (.val (ordU o)) S2)) = _
    rw [x_mcK, x_nil, x_mcL, x_callK1]
    exact stands_for 35 o S2 ho
  rw [x_seq, x_asg, a4, x_asgN]
  show ∃ S', seqK _ (.nx (ev m (some (.val (ordU o))) (some (.val (tourU (T_of o)))) none none) S2) = .rt _ S'
  rw [x_seqN]
  -- the two equalities
  have hnice : Nice 5 (tourU (T_of o)) := nice_tour (by rw [T_len]; omega) fun r hr => by
    have := climbs_len ((T_isT ho).climb r hr)
    rw [T_len] at this
    omega
  have v4 : ∀ S, mVar 4 (ev m (some (.val (ordU o))) (some (.val (tourU (T_of o)))) none none) S = .ok (.val (ordU o)) S := fun S => rfl
  have v6 : ∀ S, mVar 6 (ev m (some (.val (ordU o))) (some (.val (tourU (T_of o)))) none none) S = .ok (.val (tourU (T_of o))) S := fun S => rfl
  have a5 : mOr (m1 gNot (mCall (cl 29) "_law_equal" 2 (mCons (mVar 6) (mCons (mCall (cl 29) "_law_stands" 1 (mCons (mVar 4) mNil)) mNil)))) (m1 gNot (mCall (cl 29) "_law_equal" 2 (mCons (mCall (cl 29) "accepts_order" 2 (mCons (mVar 6) (mCons (mVar 4) mNil))) (mCons (mLit (.bool true)) mNil)))) (ev m (some (.val (ordU o))) (some (.val (tourU (T_of o)))) none none) S2 = .ok (.val (.bool false)) S2 := by
    have b1 : cl 29 "_law_stands" [.val (ordU o)] S2 = .ok (.val (tourU (T_of o))) S2 := stands 38 o S2 ho
    have b2 : cl 29 "_law_equal" [.val (tourU (T_of o)), .val (tourU (T_of o))] S2 = .ok (.val (.bool true)) S2 := equal 33 5 _ hnice S2
    have b3 : cl 29 "accepts_order" [.val (tourU (T_of o)), .val (ordU o)] S2 = .ok (.val (.bool true)) S2 := accepts 34 o S2 ho
    have b4 : cl 29 "_law_equal" [.val (.bool true), .val (.bool true)] S2 = .ok (.val (.bool true)) S2 := equal 33 5 _ (.bl true) S2
    rw [x_or, x_m1, x_call, x_cons, v6, x_mcK, x_cons, x_call, x_cons, v4, x_mcK, x_nil, x_mcL, x_callK1, b1, x_mcK, x_nil, x_mcL, x_mcL, x_callK2, b2, x_m1K, x_not, x_opt, Bool.not_true, x_orF, x_m1, x_call, x_cons, x_call, x_cons, v6, x_mcK, x_cons, v4, x_mcK, x_nil, x_mcL, x_mcL, x_callK2, b3, x_mcK, x_cons, x_lit, x_mcK, x_nil, x_mcL, x_mcL, x_callK2, b4, x_m1K, x_not, x_opt, Bool.not_true]
  rw [x_seq, x_if, a5, x_tstB, x_ifF, x_sNil, x_seqN]
  -- some
  obtain ⟨cs, S3, c1, q3⟩ := comp1 29 (ns := ns) (m := m) hm (w4 := some (.val (ordU o))) (w6 := some (.val (tourU (T_of o)))) q2
  rw [x_seq, x_asg, c1, x_asgN]
  show ∃ S', seqK _ (.nx (ev m (some (.val (ordU o))) (some (.val (tourU (T_of o)))) (some (.val (.list (cs.map fun x => .int (x : Nat))))) none) S3) = .rt _ S'
  rw [x_seqN]
  -- other
  have ho2 := ok_fl (c := fun x => decide (x ∈ cs)) ho
  have a6 : mCall (cl 29) "stands_for" 1 (mCons (mBi (on1 bTup) (mCons (mSnap (mComp [7, 9] (itAny (mVar 4)) (.tp [(.nm 7), (.nm 9)]) none (mTupOf (mCons (mVar 7) (mCons (m2 gNe (mVar 9) (m2 (gInN false) (mVar 7) (mVar 8))) mNil))))) mNil)) mNil) (ev m (some (.val (ordU o))) (some (.val (tourU (T_of o)))) (some (.val (.list (cs.map fun x => .int (x : Nat))))) none) S3 = .ok (.val (tourU (T_of (o.map (fl fun x => decide (x ∈ cs)))))) S3 := by
    rw [x_call, x_cons, comp2 (by omega), x_mcK, x_nil, x_mcL, x_callK1]
    exact stands_for 35 _ S3 ho2
  rw [x_seq, x_asg, a6, x_asgN]
  show ∃ S', seqK _ (.nx (ew m o cs none none none) S3) = .rt _ S'
  rw [x_seqN]
  have hS3 : 2 < S3.length := by
    obtain ⟨_, _, _, rfl⟩ := q3
    show 2 < 3
    omega
  have hl := loopP (cs := cs) hm hS3 ho hol
  rw [x_seq]
  show ∃ S', seqK _ (sFor (itR1 (mCons (mVar 2) mNil)) (.nm 11) bodyP (ew m o cs none none none) S3) = .rt _ S'
  rw [hl, x_seqN, x_seq, x_ret, x_lit, x_retK, x_seqR]
  exact ⟨_, rfl⟩
end Cl

open PySem PySem.W PyProof.Rows
theorem PySem.Challenge.cw_ringbeats_k15_what_orders_stand_for_holds : PySem.Challenge.rw_ringbeats_k15_what_orders_stand_for.Holds := by
  exact Cl.holds Cl.law_ok
