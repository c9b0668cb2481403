import PyProof.Rows.All
import Wide.All
import OpenK.AllK
import Wide.FinOn
import HandS.ForMost
import HandS.ForExc
import HandS.Flow
import HandS.Style
import HandS.Wide
import HandS.TupAny
import HandS.TupMul
import HandS.IsInst
import HandS.Zip
import KE.KTupSum
import HandS.Set
import HandS.SetFor
import HandS.SortOrd
import HandS.SortInts
import PySem.Challenge.RW_anyplay_k13_ways_judged
set_option Elab.async false
set_option linter.all false
set_option maxRecDepth 100000
/-! L3: a layer of plain data over the hand layer: tuples as values, lists by numbers in a store, a def as a function. -/
namespace L3
open PySem PySem.Spec PyProof.Rows L2

/-- plain data: tuples by value, what may change by its number in the store -/
inductive D where
  | non | bl (b : Bool) | int (i : Int) | str (x : Str) | tup (xs : List D) | rl (xs : List D) | ref (n : Nat)

/-- an object of the store -/
inductive SO where
  | lst (xs : List D)
  | dK (kvs : List (Key × D))
  | ins (C : Addr) (fs : List (Str × D))
abbrev Store := List SO
abbrev Envr := List (Option D)
structure Exn where
  cls : Addr
  fs : List (Str × D)
inductive Res (α : Type) where
  | ok (a : α) (st : Store)
  | exc (x : Exn) (st : Store)
  | stuck
def Res.bind {α β : Type} (r : Res α) (f : α → Store → Res β) : Res β :=
  match r with
  | .ok a st => f a st
  | .exc x st => .exc x st
  | .stuck => .stuck
theorem bind_ok {α β : Type} {a : α} {st : Store} {f : α → Store → Res β} : (Res.ok a st).bind f = f a st := rfl
theorem bind_exc {α β : Type} {x : Exn} {st : Store} {f : α → Store → Res β} : (Res.exc x st : Res α).bind f = .exc x st := rfl
theorem bind_stuck {α β : Type} {f : α → Store → Res β} : (Res.stuck : Res α).bind f = .stuck := rfl

/-! ### what stands for what -/
def TupAt (K : PySem.W.Frag) (H : Hp) (μ : List Addr) (a : Addr) (vs : List V) : Prop := (Rd H a (.tup vs) ∧ a ∉ μ) ∨
    ∃ (o : Obj) (its : Array Value) (n : Nat), K.lookup a = some o ∧ o.cls = .type "tuple" ∧ o.data = .seq its n ∧ its.size ≤ sizeLine ∧ Vals vs its.toList
def RlAt (K : PySem.W.Frag) (H : Hp) (μ : List Addr) (a : Addr) (vs : List V) : Prop := ((∃ o, H a = some (.frz o (.lst vs))) ∧ a ∉ μ) ∨
    ∃ (o : Obj) (its : Array Value) (n : Nat), K.lookup a = some o ∧ o.cls = .type "list" ∧ o.dict = none ∧ o.data = .seq its n ∧ its.size ≤ sizeLine ∧ Vals vs its.toList
theorem TupAt.sq {K : PySem.W.Frag} {H : Hp} {μ : List Addr} {a : Addr} {vs : List V} (h : TupAt K H μ a vs) : SqT K H a vs := h.elim (fun h => .inl h.1) .inr
theorem RlAt.sq {K : PySem.W.Frag} {H : Hp} {μ : List Addr} {a : Addr} {vs : List V} (h : RlAt K H μ a vs) : SqL K H a vs := h.elim (fun h => .inl (.inr h.1)) .inr
mutual
inductive Rep (K : PySem.W.Frag) (H : Hp) (μ : List Addr) : D → V → Prop
  | non : Rep K H μ .non .non
  | bl (b : Bool) : Rep K H μ (.bl b) (.bl b)
  | int (i : Int) : Rep K H μ (.int i) (.int i)
  | str (x : Str) : Rep K H μ (.str x) (.str x)
  | tup {a : Addr} {vs : List V} {ds : List D} : TupAt K H μ a vs → Reps K H μ ds vs → Rep K H μ (.tup ds) (.ref a)
  | rl {a : Addr} {vs : List V} {ds : List D} : RlAt K H μ a vs → Reps K H μ ds vs → Rep K H μ (.rl ds) (.ref a)
  | ref {n : Nat} {a : Addr} : μ[n]? = some a → Rep K H μ (.ref n) (.ref a)
inductive Reps (K : PySem.W.Frag) (H : Hp) (μ : List Addr) : List D → List V → Prop
  | nil : Reps K H μ [] []
  | cons {d : D} {v : V} {ds : List D} {vs : List V} : Rep K H μ d v → Reps K H μ ds vs → Reps K H μ (d :: ds) (v :: vs)
end
/-- what a step may do -/
structure Ext (H : Hp) (μ : List Addr) (H' : Hp) (μ' : List Addr) : Prop where
  pre : ∃ more, μ' = μ ++ more ∧ ∀ a ∈ more, H a = none
  keep : ∀ a o, H a = some o → a ∉ μ → H' a = some o
  live : ∀ a, H' a = none → H a = none
section
variable {K : PySem.W.Frag} {H H1 H2 H' : Hp} {μ μ1 μ2 μ' : List Addr}
theorem Ext.refl (H : Hp) (μ : List Addr) : Ext H μ H μ := ⟨⟨[], by simp, by simp⟩, fun _ _ h _ => h, fun _ h => h⟩
theorem Ext.trans (a : Ext H μ H1 μ1) (b : Ext H1 μ1 H2 μ2) : Ext H μ H2 μ2 := by
  obtain ⟨m1, e1, f1⟩ := a.pre
  obtain ⟨m2, e2, f2⟩ := b.pre
  refine ⟨⟨m1 ++ m2, by rw [e2, e1, List.append_assoc], fun x hx => ?_⟩, fun x o hx hn => ?_, fun x h => a.live x (b.live x h)⟩
  · rcases List.mem_append.mp hx with h | h
    · exact f1 x h
    · exact a.live x (f2 x h)
  · refine b.keep x o (a.keep x o hx hn) ?_
    rw [e1]
    intro q
    rcases List.mem_append.mp q with h | h
    · exact hn h
    · rw [f1 x h] at hx; cases hx
theorem Ext.not_mem (x : Ext H μ H' μ') {a : Addr} {o : HO} (h : H a = some o) (n : a ∉ μ) : a ∉ μ' := by
  obtain ⟨m, e, f⟩ := x.pre
  rw [e]
  intro q
  rcases List.mem_append.mp q with z | z
  · exact n z
  · rw [f a z] at h; cases h
theorem Ext.get (x : Ext H μ H' μ') {n : Nat} {a : Addr} (h : μ[n]? = some a) : μ'[n]? = some a := by
  obtain ⟨m, e, f⟩ := x.pre
  rw [e, List.getElem?_append_left (List.getElem?_eq_some_iff.mp h).1]
  exact h
theorem TupAt.ext {a : Addr} {vs : List V} (x : Ext H μ H' μ') (h : TupAt K H μ a vs) : TupAt K H' μ' a vs := by
  rcases h with ⟨h, n⟩ | h
  · refine .inl ?_
    rcases h with h | ⟨o, h⟩
    · exact ⟨.inl (x.keep _ _ h n), x.not_mem h n⟩
    · exact ⟨.inr ⟨o, x.keep _ _ h n⟩, x.not_mem h n⟩
  · exact .inr h
theorem RlAt.ext {a : Addr} {vs : List V} (x : Ext H μ H' μ') (h : RlAt K H μ a vs) : RlAt K H' μ' a vs := by
  rcases h with ⟨⟨o, h⟩, n⟩ | h
  · exact .inl ⟨⟨o, x.keep _ _ h n⟩, x.not_mem h n⟩
  · exact .inr h
mutual
theorem Rep.ext (x : Ext H μ H' μ') : ∀ {d : D} {v : V}, Rep K H μ d v → Rep K H' μ' d v
  | _, _, .non => .non
  | _, _, .bl b => .bl b
  | _, _, .int i => .int i
  | _, _, .str i => .str i
  | _, _, .tup h r => .tup (h.ext x) (Reps.ext x r)
  | _, _, .rl h r => .rl (h.ext x) (Reps.ext x r)
  | _, _, .ref h => .ref (x.get h)
theorem Reps.ext (x : Ext H μ H' μ') : ∀ {ds : List D} {vs : List V}, Reps K H μ ds vs → Reps K H' μ' ds vs
  | _, _, .nil => .nil
  | _, _, .cons r t => .cons (Rep.ext x r) (Reps.ext x t)
end
/-! the numbers below n alone -/
mutual
def D.low (n : Nat) : D → Bool
  | .non => true | .bl _ => true | .int _ => true | .str _ => true
  | .tup xs => D.lows n xs
  | .rl xs => D.lows n xs
  | .ref k => decide (k < n)
def D.lows (n : Nat) : List D → Bool
  | [] => true
  | d :: ds => D.low n d && D.lows n ds
end
mutual
theorem Rep.cut {m : List Addr} : ∀ {d : D} {v : V}, Rep K H (μ ++ m) d v → d.low μ.length = true → Rep K H μ d v
  | _, _, .non, _ => .non
  | _, _, .bl b, _ => .bl b
  | _, _, .int i, _ => .int i
  | _, _, .str i, _ => .str i
  | _, _, .tup h r, q => .tup (h.elim (fun z => .inl ⟨z.1, fun y => z.2 (List.mem_append_left _ y)⟩) .inr) (Reps.cut r q)
  | _, _, .rl h r, q => .rl (h.elim (fun z => .inl ⟨z.1, fun y => z.2 (List.mem_append_left _ y)⟩) .inr) (Reps.cut r q)
  | _, _, .ref h, q => .ref (by rw [List.getElem?_append_left (of_decide_eq_true q)] at h; exact h)
theorem Reps.cut {m : List Addr} : ∀ {ds : List D} {vs : List V}, Reps K H (μ ++ m) ds vs → D.lows μ.length ds = true → Reps K H μ ds vs
  | _, _, .nil, _ => .nil
  | _, _, .cons r t, q => .cons (Rep.cut r (Bool.and_eq_true_iff.mp q).1) (Reps.cut t (Bool.and_eq_true_iff.mp q).2)
end
mutual
theorem Rep.lowD : ∀ {d : D} {v : V}, Rep K H μ d v → d.low μ.length = true
  | _, _, .non => rfl
  | _, _, .bl b => rfl
  | _, _, .int i => rfl
  | _, _, .str i => rfl
  | _, _, .tup h r => Reps.lows r
  | _, _, .rl h r => Reps.lows r
  | _, _, .ref h => decide_eq_true (List.getElem?_eq_some_iff.mp h).1
theorem Reps.lows : ∀ {ds : List D} {vs : List V}, Reps K H μ ds vs → D.lows μ.length ds = true
  | _, _, .nil => rfl
  | _, _, .cons r t => Bool.and_eq_true_iff.mpr ⟨Rep.lowD r, Reps.lows t⟩
end
theorem Reps.length : ∀ {ds : List D} {vs : List V}, Reps K H μ ds vs → ds.length = vs.length
  | _, _, .nil => rfl
  | _, _, .cons _ t => congrArg (· + 1) (Reps.length t)
/-! a list that is not in the store changes -/
theorem TupAt.chg {L : Addr} {xs ys : List V} (hL : H L = some (.lst xs)) {a : Addr} {vs : List V} (h : TupAt K H μ a vs) : TupAt K (upd H L (.lst ys)) μ a vs := by
  rcases h with ⟨h, n⟩ | h
  · refine .inl ⟨?_, n⟩
    rcases h with h | ⟨o, h⟩
    · exact .inl (by rw [upd_ne (ne_of h hL (fun z => nomatch z))]; exact h)
    · exact .inr ⟨o, by rw [upd_ne (ne_of h hL (fun z => nomatch z))]; exact h⟩
  · exact .inr h
theorem RlAt.chg {L : Addr} {xs ys : List V} (hL : H L = some (.lst xs)) {a : Addr} {vs : List V} (h : RlAt K H μ a vs) : RlAt K (upd H L (.lst ys)) μ a vs := by
  rcases h with ⟨⟨o, h⟩, n⟩ | h
  · exact .inl ⟨⟨o, by rw [upd_ne (ne_of h hL (fun z => nomatch z))]; exact h⟩, n⟩
  · exact .inr h
mutual
theorem Rep.chg {L : Addr} {xs ys : List V} (hL : H L = some (.lst xs)) : ∀ {d : D} {v : V}, Rep K H μ d v → Rep K (upd H L (.lst ys)) μ d v
  | _, _, .non => .non
  | _, _, .bl b => .bl b
  | _, _, .int i => .int i
  | _, _, .str i => .str i
  | _, _, .tup h r => .tup (h.chg hL) (Reps.chg hL r)
  | _, _, .rl h r => .rl (h.chg hL) (Reps.chg hL r)
  | _, _, .ref h => .ref h
theorem Reps.chg {L : Addr} {xs ys : List V} (hL : H L = some (.lst xs)) : ∀ {ds : List D} {vs : List V}, Reps K H μ ds vs → Reps K (upd H L (.lst ys)) μ ds vs
  | _, _, .nil => .nil
  | _, _, .cons r t => .cons (Rep.chg hL r) (Reps.chg hL t)
end
/-! a list enters the store -/
theorem TupAt.more {L : Addr} {xs : List V} (hL : H L = some (.lst xs)) {a : Addr} {vs : List V} (h : TupAt K H μ a vs) : TupAt K H (μ ++ [L]) a vs := by
  rcases h with ⟨h, n⟩ | h
  · refine .inl ⟨h, fun q => ?_⟩
    rcases List.mem_append.mp q with q | q
    · exact n q
    · have : a = L := by simpa using q
      subst this
      rcases h with h | ⟨o, h⟩
      · rw [hL] at h; cases h
      · rw [hL] at h; cases h
  · exact .inr h
theorem RlAt.more {L : Addr} {xs : List V} (hL : H L = some (.lst xs)) {a : Addr} {vs : List V} (h : RlAt K H μ a vs) : RlAt K H (μ ++ [L]) a vs := by
  rcases h with ⟨⟨o, h⟩, n⟩ | h
  · refine .inl ⟨⟨o, h⟩, fun q => ?_⟩
    rcases List.mem_append.mp q with q | q
    · exact n q
    · have : a = L := by simpa using q
      subst this
      rw [hL] at h; cases h
  · exact .inr h
mutual
theorem Rep.more {L : Addr} {xs : List V} (hL : H L = some (.lst xs)) : ∀ {d : D} {v : V}, Rep K H μ d v → Rep K H (μ ++ [L]) d v
  | _, _, .non => .non
  | _, _, .bl b => .bl b
  | _, _, .int i => .int i
  | _, _, .str i => .str i
  | _, _, .tup h r => .tup (h.more hL) (Reps.more hL r)
  | _, _, .rl h r => .rl (h.more hL) (Reps.more hL r)
  | _, _, .ref h => .ref (by rw [List.getElem?_append_left (List.getElem?_eq_some_iff.mp h).1]; exact h)
theorem Reps.more {L : Addr} {xs : List V} (hL : H L = some (.lst xs)) : ∀ {ds : List D} {vs : List V}, Reps K H μ ds vs → Reps K H (μ ++ [L]) ds vs
  | _, _, .nil => .nil
  | _, _, .cons r t => .cons (Rep.more hL r) (Reps.more hL t)
end
theorem Reps.get : ∀ {ds : List D} {vs : List V} {i : Nat} {d : D}, Reps K H μ ds vs → ds[i]? = some d → ∃ v, vs[i]? = some v ∧ Rep K H μ d v
  | _, _, _, _, .nil, e => by simp at e
  | _, _, 0, _, .cons r _, e => by simp at e; subst e; exact ⟨_, rfl, r⟩
  | _, _, i + 1, d, .cons _ t, e => by
    obtain ⟨u, h1, h2⟩ := Reps.get (i := i) (d := d) t (by simpa using e)
    exact ⟨u, by simpa using h1, h2⟩
theorem Reps.getV : ∀ {ds : List D} {vs : List V} {i : Nat} {v : V}, Reps K H μ ds vs → vs[i]? = some v → ∃ d, ds[i]? = some d ∧ Rep K H μ d v
  | _, _, _, _, .nil, e => by simp at e
  | _, _, 0, _, .cons r _, e => by simp at e; subst e; exact ⟨_, rfl, r⟩
  | _, _, i + 1, d, .cons _ t, e => by
    obtain ⟨u, h1, h2⟩ := Reps.getV (i := i) (v := d) t (by simpa using e)
    exact ⟨u, by simpa using h1, h2⟩
theorem Reps.append : ∀ {ds es : List D} {vs ws : List V}, Reps K H μ ds vs → Reps K H μ es ws → Reps K H μ (ds ++ es) (vs ++ ws)
  | _, _, _, _, .nil, s => s
  | _, _, _, _, .cons r t, s => .cons r (Reps.append t s)
theorem Reps.set {d : D} {v : V} (r : Rep K H μ d v) : ∀ {ds : List D} {vs : List V} (i : Nat), Reps K H μ ds vs → Reps K H μ (ds.set i d) (vs.set i v)
  | _, _, _, .nil => .nil
  | _, _, 0, .cons _ t => .cons r t
  | _, _, i + 1, .cons q t => .cons q (Reps.set r i t)
theorem Reps.take : ∀ {ds : List D} {vs : List V} (n : Nat), Reps K H μ ds vs → Reps K H μ (ds.take n) (vs.take n)
  | _, _, 0, _ => .nil
  | _, _, _ + 1, .nil => .nil
  | _, _, n + 1, .cons r t => .cons r (Reps.take n t)
theorem Reps.drop : ∀ {ds : List D} {vs : List V} (n : Nat), Reps K H μ ds vs → Reps K H μ (ds.drop n) (vs.drop n)
  | _, _, 0, r => r
  | _, _, _ + 1, .nil => .nil
  | _, _, n + 1, .cons _ t => Reps.drop n t
theorem Reps.eraseIdx : ∀ {ds : List D} {vs : List V} (i : Nat), Reps K H μ ds vs → Reps K H μ (ds.eraseIdx i) (vs.eraseIdx i)
  | _, _, _, .nil => .nil
  | _, _, 0, .cons _ t => t
  | _, _, i + 1, .cons r t => .cons r (Reps.eraseIdx i t)
theorem Reps.dropLast {ds : List D} {vs : List V} (h : Reps K H μ ds vs) : Reps K H μ ds.dropLast vs.dropLast := by
  rw [List.dropLast_eq_take, List.dropLast_eq_take, h.length]
  exact h.take _
theorem Reps.reverse {ds : List D} {vs : List V} (h : Reps K H μ ds vs) : Reps K H μ ds.reverse vs.reverse := by
  induction ds generalizing vs with
  | nil => cases h; exact .nil
  | cons d ds ih =>
    cases h with
    | cons r t => rw [List.reverse_cons, List.reverse_cons]; exact (ih t).append (.cons r .nil)
theorem Reps.rep {ds : List D} {vs : List V} (h : Reps K H μ ds vs) : ∀ k : Nat, Reps K H μ (List.replicate k ds).flatten (List.replicate k vs).flatten
  | 0 => .nil
  | k + 1 => by rw [List.replicate_succ, List.replicate_succ, List.flatten_cons, List.flatten_cons]; exact h.append (Reps.rep h k)
theorem Reps.ints : ∀ {ns : List Int} {vs : List V}, Reps K H μ (ns.map D.int) vs → vs = ns.map V.int
  | [], _, .nil => rfl
  | _ :: _, _, .cons r t => by cases r; rw [Reps.ints t]; rfl
theorem Reps.strs : ∀ {ns : List Str} {vs : List V}, Reps K H μ (ns.map D.str) vs → vs = ns.map V.str
  | [], _, .nil => rfl
  | _ :: _, _, .cons r t => by cases r; rw [Reps.strs t]; rfl
theorem reps_ints : ∀ (ns : List Int), Reps K H μ (ns.map D.int) (ns.map V.int)
  | [] => .nil
  | _ :: t => .cons (.int _) (reps_ints t)
theorem reps_strs : ∀ (ns : List Str), Reps K H μ (ns.map D.str) (ns.map V.str)
  | [] => .nil
  | _ :: t => .cons (.str _) (reps_strs t)

/-! ### the store -/
inductive RepF (K : PySem.W.Frag) (H : Hp) (μ : List Addr) {κ : Type} : List (κ × D) → List (κ × V) → Prop
  | nil : RepF K H μ [] []
  | cons {k : κ} {d : D} {v : V} {ds : List (κ × D)} {vs : List (κ × V)} : Rep K H μ d v → RepF K H μ ds vs → RepF K H μ ((k, d) :: ds) ((k, v) :: vs)
theorem RepF.ext {κ : Type} (x : Ext H μ H' μ') : ∀ {ds : List (κ × D)} {vs : List (κ × V)}, RepF K H μ ds vs → RepF K H' μ' ds vs
  | _, _, .nil => .nil
  | _, _, .cons r t => .cons (r.ext x) (RepF.ext x t)
def RepO (K : PySem.W.Frag) (H : Hp) (μ : List Addr) : SO → Addr → Prop
  | .lst ds, a => ∃ vs, H a = some (.lst vs) ∧ Reps K H μ ds vs
  | .dK kvs, a => ∃ ws, H a = some (.dK ws) ∧ RepF K H μ kvs ws
  | .ins C fs, a => ∃ dx ws, H a = some (.ins C dx ws) ∧ RepF K H μ fs ws
def fpure {κ : Type} (n : Nat) : List (κ × D) → Bool
  | [] => true
  | p :: r => p.2.low n && fpure n r
def SO.low (n : Nat) : SO → Bool
  | .lst ds => D.lows n ds
  | .dK kvs => fpure n kvs
  | .ins _ fs => fpure n fs
theorem RepF.cut {κ : Type} {m : List Addr} : ∀ {ds : List (κ × D)} {vs : List (κ × V)}, RepF K H (μ ++ m) ds vs → fpure μ.length ds = true → RepF K H μ ds vs
  | _, _, .nil, _ => .nil
  | _, _, .cons r t, q => .cons (r.cut (Bool.and_eq_true_iff.mp q).1) (RepF.cut t (Bool.and_eq_true_iff.mp q).2)
theorem RepO.cut {m : List Addr} {o : SO} {a : Addr} (h : RepO K H (μ ++ m) o a) (q : o.low μ.length = true) : RepO K H μ o a := by
  cases o with
  | lst ds => obtain ⟨vs, e, r⟩ := h; exact ⟨vs, e, r.cut q⟩
  | dK ds => obtain ⟨vs, e, r⟩ := h; exact ⟨vs, e, r.cut q⟩
  | ins C ds => obtain ⟨dx, vs, e, r⟩ := h; exact ⟨dx, vs, e, r.cut q⟩
theorem RepO.live {o : SO} {a : Addr} (h : RepO K H μ o a) : ∃ u, H a = some u := by
  cases o with
  | lst ds => obtain ⟨vs, e, r⟩ := h; exact ⟨_, e⟩
  | dK ds => obtain ⟨vs, e, r⟩ := h; exact ⟨_, e⟩
  | ins C ds => obtain ⟨dx, vs, e, r⟩ := h; exact ⟨_, e⟩
theorem RepO.ext {o : SO} {a : Addr} (h : RepO K H μ o a) (x : Ext H μ H' μ') (k : H' a = H a) : RepO K H' μ' o a := by
  cases o with
  | lst ds => obtain ⟨vs, e, r⟩ := h; exact ⟨vs, k.trans e, r.ext x⟩
  | dK ds => obtain ⟨vs, e, r⟩ := h; exact ⟨vs, k.trans e, r.ext x⟩
  | ins C ds => obtain ⟨dx, vs, e, r⟩ := h; exact ⟨dx, vs, k.trans e, r.ext x⟩
theorem RepF.lows {κ : Type} : ∀ {ds : List (κ × D)} {vs : List (κ × V)}, RepF K H μ ds vs → fpure μ.length ds = true
  | _, _, .nil => rfl
  | _, _, .cons r t => Bool.and_eq_true_iff.mpr ⟨r.lowD, RepF.lows t⟩
structure RepS (K : PySem.W.Frag) (H : Hp) (μ : List Addr) (st : Store) : Prop where
  len : μ.length = st.length
  nd : μ.Nodup
  obj : ∀ (i : Nat) (a : Addr) (o : SO), μ[i]? = some a → st[i]? = some o → RepO K H μ o a
theorem RepS.live {st : Store} (h : RepS K H μ st) {a : Addr} (m : a ∈ μ) : ∃ u, H a = some u := by
  obtain ⟨i, e⟩ := List.mem_iff_getElem?.mp m
  have hi : i < st.length := by rw [← h.len]; exact (List.getElem?_eq_some_iff.mp e).1
  exact (h.obj i a st[i] e (List.getElem?_eq_getElem hi)).live
theorem RepS.free {st : Store} (h : RepS K H μ st) {a : Addr} (m : H a = none) : a ∉ μ := fun z => by
  obtain ⟨u, e⟩ := h.live z
  rw [m] at e; cases e
/-- an address that is not in the store is filled: nothing else changes -/
theorem Ext.new {a : Addr} {o : HO} (m : H a = none) : Ext H μ (upd H a o) μ :=
  ⟨⟨[], by simp, by simp⟩, fun b u h _ => by rw [upd_ne (ne_of_none h m)]; exact h, fun b h => by
    by_cases q : b = a
    · subst q; exact m
    · rw [upd_ne q] at h; exact h⟩
theorem Ext.newS {a : Addr} {o : HO} (m : H a = none) : Ext H μ (upd H a o) (μ ++ [a]) :=
  ⟨⟨[a], rfl, by simpa using m⟩, (Ext.new (o := o) (μ := μ) m).keep, (Ext.new (o := o) (μ := μ) m).live⟩
theorem RepS.new {st : Store} {a : Addr} {o : HO} (h : RepS K H μ st) (m : H a = none) : RepS K (upd H a o) μ st :=
  ⟨h.len, h.nd, fun i b u e f => (h.obj i b u e f).ext (.new m) (upd_ne fun q => by
    subst q
    obtain ⟨z, hz⟩ := (h.obj i b u e f).live
    rw [m] at hz; cases hz)⟩
theorem RepS.push {st : Store} {a : Addr} {o : HO} {so : SO} (h : RepS K H μ st) (m : H a = none) (ho : RepO K (upd H a o) (μ ++ [a]) so a) : RepS K (upd H a o) (μ ++ [a]) (st ++ [so]) := by
  refine ⟨by simp [h.len], ?_, fun i b u e f => ?_⟩
  · rw [List.nodup_append]
    refine ⟨h.nd, by simp, fun x hx y hy => ?_⟩
    have : y = a := by simpa using hy
    subst this
    rintro rfl
    exact h.free m hx
  · by_cases hi : i < μ.length
    · rw [List.getElem?_append_left hi] at e
      rw [List.getElem?_append_left (by rw [← h.len]; exact hi)] at f
      refine (h.obj i b u e f).ext (.newS m) (upd_ne fun q => ?_)
      subst q
      obtain ⟨z, hz⟩ := (h.obj i b u e f).live
      rw [m] at hz; cases hz
    · have hj : i < (μ ++ [a]).length := (List.getElem?_eq_some_iff.mp e).1
      have : i = μ.length := by simp at hj; omega
      subst this
      rw [List.getElem?_append_right (Nat.le_refl _)] at e
      rw [h.len, List.getElem?_append_right (Nat.le_refl _)] at f
      simp at e f
      subst e f
      exact ho
/-- a store's object changes -/
theorem Ext.write {a : Addr} {o : HO} (m : a ∈ μ) : Ext H μ (upd H a o) μ :=
  ⟨⟨[], by simp, by simp⟩, fun b u h n => by rw [upd_ne (fun q => n (by rw [q]; exact m))]; exact h, fun b h => by
    by_cases q : b = a
    · subst q; rw [upd_same] at h; cases h
    · rw [upd_ne q] at h; exact h⟩
theorem RepS.write {st : Store} {i : Nat} {a : Addr} {o : HO} {so : SO} (h : RepS K H μ st) (e : μ[i]? = some a) (ho : RepO K (upd H a o) μ so a) : RepS K (upd H a o) μ (st.set i so) := by
  have hm : a ∈ μ := List.mem_of_getElem? e
  refine ⟨by simp [h.len], h.nd, fun j b u e' f => ?_⟩
  by_cases hj : j = i
  · subst hj
    rw [e] at e'; cases e'
    have hl : j < st.length := by rw [← h.len]; exact (List.getElem?_eq_some_iff.mp e).1
    rw [List.getElem?_set_self hl] at f; cases f
    exact ho
  · rw [List.getElem?_set_ne (Ne.symm hj)] at f
    refine (h.obj j b u e' f).ext (.write hm) (upd_ne fun q => hj ?_)
    subst q
    obtain ⟨h1, e1⟩ := List.getElem?_eq_some_iff.mp e
    obtain ⟨h2, e2⟩ := List.getElem?_eq_some_iff.mp e'
    exact (List.getElem_inj h.nd).mp (e2.trans e1.symm)
theorem RepS.at {st : Store} {i : Nat} {so : SO} (h : RepS K H μ st) (e : st[i]? = some so) : ∃ a, μ[i]? = some a ∧ RepO K H μ so a := by
  have hl : i < μ.length := by rw [h.len]; exact (List.getElem?_eq_some_iff.mp e).1
  exact ⟨μ[i], List.getElem?_eq_getElem hl, h.obj i _ so (List.getElem?_eq_getElem hl) e⟩
theorem RepF.chg {κ : Type} {L : Addr} {xs ys : List V} (hL : H L = some (.lst xs)) : ∀ {ds : List (κ × D)} {vs : List (κ × V)}, RepF K H μ ds vs → RepF K (upd H L (.lst ys)) μ ds vs
  | _, _, .nil => .nil
  | _, _, .cons r t => .cons (r.chg hL) (RepF.chg hL t)
theorem RepS.chg {L : Addr} {xs ys : List V} {st : Store} (hL : H L = some (.lst xs)) (n : L ∉ μ) (s : RepS K H μ st) : RepS K (upd H L (.lst ys)) μ st :=
  ⟨s.len, s.nd, fun i a o e f => by
    have ne : a ≠ L := fun q => n (q ▸ List.mem_of_getElem? e)
    have h := s.obj i a o e f
    cases o with
    | lst ds => obtain ⟨vs, e, r⟩ := h; exact ⟨vs, by rw [upd_ne ne]; exact e, r.chg hL⟩
    | dK ds => obtain ⟨vs, e, r⟩ := h; exact ⟨vs, by rw [upd_ne ne]; exact e, r.chg hL⟩
    | ins C ds => obtain ⟨dx, vs, e, r⟩ := h; exact ⟨dx, vs, by rw [upd_ne ne]; exact e, r.chg hL⟩⟩
theorem RepF.more {κ : Type} {L : Addr} {xs : List V} (hL : H L = some (.lst xs)) : ∀ {ds : List (κ × D)} {vs : List (κ × V)}, RepF K H μ ds vs → RepF K H (μ ++ [L]) ds vs
  | _, _, .nil => .nil
  | _, _, .cons r t => .cons (r.more hL) (RepF.more hL t)
theorem RepO.more {L : Addr} {xs : List V} {o : SO} {a : Addr} (h : RepO K H μ o a) (hL : H L = some (.lst xs)) : RepO K H (μ ++ [L]) o a := by
  cases o with
  | lst ds => obtain ⟨vs, e, r⟩ := h; exact ⟨vs, e, r.more hL⟩
  | dK ds => obtain ⟨vs, e, r⟩ := h; exact ⟨vs, e, r.more hL⟩
  | ins C ds => obtain ⟨dx, vs, e, r⟩ := h; exact ⟨dx, vs, e, r.more hL⟩
/-- environments -/
def RepE (K : PySem.W.Frag) (H : Hp) (μ : List Addr) (ρ : Envr) (σ : L2.St) : Prop :=
  ρ.length = σ.length ∧ ∀ (i : Nat) (d : D), ρ[i]? = some (some d) → ∃ v, σ[i]? = some (some v) ∧ Rep K H μ d v
theorem RepE.ext {ρ : Envr} {σ : L2.St} (h : RepE K H μ ρ σ) (x : Ext H μ H' μ') : RepE K H' μ' ρ σ :=
  ⟨h.1, fun i d e => let ⟨v, e1, r⟩ := h.2 i d e; ⟨v, e1, r.ext x⟩⟩
theorem RepE.set {ρ : Envr} {σ : L2.St} {i : Nat} {d : D} {v : V} (h : RepE K H μ ρ σ) (r : Rep K H μ d v) : RepE K H μ (ρ.set i (some d)) (σ.set i (some v)) := by
  refine ⟨by simp [h.1], fun j e q => ?_⟩
  by_cases hj : i = j
  · subst hj
    by_cases hl : i < ρ.length
    · rw [List.getElem?_set_self hl] at q
      cases q
      exact ⟨v, List.getElem?_set_self (by rw [← h.1]; exact hl), r⟩
    · rw [List.getElem?_eq_none (by simpa using hl)] at q; cases q
  · rw [List.getElem?_set_ne hj] at q
    obtain ⟨w, e1, r1⟩ := h.2 j e q
    exact ⟨w, by rw [List.getElem?_set_ne hj]; exact e1, r1⟩
end

/-! ### what is wanted behind -/
def RepX (K : PySem.W.Frag) (H : Hp) (μ : List Addr) (x : Exn) (c : Value) (od : Option Addr) : Prop :=
  c = .ref x.cls ∧ ((od = none ∧ x.fs = []) ∨ ∃ d ws, od = some d ∧ H d = some (.xd ws) ∧ d ∉ μ ∧ RepF K H μ x.fs ws)
def Post (K : PySem.W.Frag) (H : Hp) (μ : List Addr) (r : Res D) (Q : VK) (E : XK) : Prop :=
  match r with
  | .ok d st => ∀ v H' μ', Ext H μ H' μ' → Rep K H' μ' d v → RepS K H' μ' st → Q v H'
  | .exc x st => ∀ c od H' μ', Ext H μ H' μ' → RepX K H' μ' x c od → RepS K H' μ' st → E c od H'
  | .stuck => False
def PostL (K : PySem.W.Frag) (H : Hp) (μ : List Addr) (r : Res (List D)) (Q : List V → Hp → Prop) (E : XK) : Prop :=
  match r with
  | .ok d st => ∀ v H' μ', Ext H μ H' μ' → Reps K H' μ' d v → RepS K H' μ' st → Q v H'
  | .exc x st => ∀ c od H' μ', Ext H μ H' μ' → RepX K H' μ' x c od → RepS K H' μ' st → E c od H'
  | .stuck => False
def PostB (K : PySem.W.Frag) (H : Hp) (μ : List Addr) (r : Res Bool) (Q : Bool → Hp → Prop) (E : XK) : Prop :=
  match r with
  | .ok b st => ∀ H' μ', Ext H μ H' μ' → RepS K H' μ' st → Q b H'
  | .exc x st => ∀ c od H' μ', Ext H μ H' μ' → RepX K H' μ' x c od → RepS K H' μ' st → E c od H'
  | .stuck => False
section
variable {K : PySem.W.Frag} {H H1 H2 H' : Hp} {μ μ1 μ2 μ' : List Addr} {E : XK}
theorem RepX.ext {x : Exn} {c : Value} {od : Option Addr} (h : RepX K H μ x c od) (e : Ext H μ H' μ') : RepX K H' μ' x c od := by
  obtain ⟨e1, h⟩ := h
  refine ⟨e1, ?_⟩
  rcases h with h | ⟨d, ws, h1, h2, h3, h4⟩
  · exact .inl h
  · exact .inr ⟨d, ws, h1, e.keep _ _ h2 h3, e.not_mem h2 h3, h4.ext e⟩
theorem Post.ext {r : Res D} {Q : VK} (x : Ext H μ H1 μ1) (p : Post K H μ r Q E) : Post K H1 μ1 r Q E := by
  cases r with
  | ok d st => exact fun v H' μ' e a b => p v H' μ' (x.trans e) a b
  | exc y st => exact fun c od H' μ' e a b => p c od H' μ' (x.trans e) a b
  | stuck => exact p
theorem PostL.ext {r : Res (List D)} {Q : List V → Hp → Prop} (x : Ext H μ H1 μ1) (p : PostL K H μ r Q E) : PostL K H1 μ1 r Q E := by
  cases r with
  | ok d st => exact fun v H' μ' e a b => p v H' μ' (x.trans e) a b
  | exc y st => exact fun c od H' μ' e a b => p c od H' μ' (x.trans e) a b
  | stuck => exact p
theorem PostB.ext {r : Res Bool} {Q : Bool → Hp → Prop} (x : Ext H μ H1 μ1) (p : PostB K H μ r Q E) : PostB K H1 μ1 r Q E := by
  cases r with
  | ok d st => exact fun H' μ' e a => p H' μ' (x.trans e) a
  | exc y st => exact fun c od H' μ' e a b => p c od H' μ' (x.trans e) a b
  | stuck => exact p
/-- what stands behind the first step -/
def Then (K : PySem.W.Frag) (H : Hp) (μ : List Addr) (R : D → Store → Hp → List Addr → Prop) (v : V) (H1 : Hp) : Prop :=
  ∃ d st1 μ1, Ext H μ H1 μ1 ∧ Rep K H1 μ1 d v ∧ RepS K H1 μ1 st1 ∧ R d st1 H1 μ1
def ThenL (K : PySem.W.Frag) (H : Hp) (μ : List Addr) (R : List D → Store → Hp → List Addr → Prop) (v : List V) (H1 : Hp) : Prop :=
  ∃ d st1 μ1, Ext H μ H1 μ1 ∧ Reps K H1 μ1 d v ∧ RepS K H1 μ1 st1 ∧ R d st1 H1 μ1
def ThenB (K : PySem.W.Frag) (H : Hp) (μ : List Addr) (R : Bool → Store → Hp → List Addr → Prop) (v : Bool) (H1 : Hp) : Prop :=
  ∃ st1 μ1, Ext H μ H1 μ1 ∧ RepS K H1 μ1 st1 ∧ R v st1 H1 μ1
theorem Post.bind {r : Res D} {f : D → Store → Res D} {Q : VK} (p : Post K H μ (r.bind f) Q E) : Post K H μ r (Then K H μ fun d st1 H1 μ1 => Post K H1 μ1 (f d st1) Q E) E := by
  cases r with
  | ok d st => exact fun v H' μ' e a b => ⟨d, st, μ', e, a, b, p.ext e⟩
  | exc y st => exact p
  | stuck => exact p
theorem Post.bindL {r : Res D} {f : D → Store → Res (List D)} {Q : List V → Hp → Prop} (p : PostL K H μ (r.bind f) Q E) : Post K H μ r (Then K H μ fun d st1 H1 μ1 => PostL K H1 μ1 (f d st1) Q E) E := by
  cases r with
  | ok d st => exact fun v H' μ' e a b => ⟨d, st, μ', e, a, b, p.ext e⟩
  | exc y st => exact p
  | stuck => exact p
theorem Post.bindB {r : Res D} {f : D → Store → Res Bool} {Q : Bool → Hp → Prop} (p : PostB K H μ (r.bind f) Q E) : Post K H μ r (Then K H μ fun d st1 H1 μ1 => PostB K H1 μ1 (f d st1) Q E) E := by
  cases r with
  | ok d st => exact fun v H' μ' e a b => ⟨d, st, μ', e, a, b, p.ext e⟩
  | exc y st => exact p
  | stuck => exact p
theorem PostL.bind {r : Res (List D)} {f : List D → Store → Res D} {Q : VK} (p : Post K H μ (r.bind f) Q E) : PostL K H μ r (ThenL K H μ fun d st1 H1 μ1 => Post K H1 μ1 (f d st1) Q E) E := by
  cases r with
  | ok d st => exact fun v H' μ' e a b => ⟨d, st, μ', e, a, b, p.ext e⟩
  | exc y st => exact p
  | stuck => exact p
theorem PostL.bindL {r : Res (List D)} {f : List D → Store → Res (List D)} {Q : List V → Hp → Prop} (p : PostL K H μ (r.bind f) Q E) : PostL K H μ r (ThenL K H μ fun d st1 H1 μ1 => PostL K H1 μ1 (f d st1) Q E) E := by
  cases r with
  | ok d st => exact fun v H' μ' e a b => ⟨d, st, μ', e, a, b, p.ext e⟩
  | exc y st => exact p
  | stuck => exact p
theorem PostB.bind {r : Res Bool} {f : Bool → Store → Res D} {Q : VK} (p : Post K H μ (r.bind f) Q E) : PostB K H μ r (ThenB K H μ fun d st1 H1 μ1 => Post K H1 μ1 (f d st1) Q E) E := by
  cases r with
  | ok d st => exact fun H' μ' e b => ⟨st, μ', e, b, p.ext e⟩
  | exc y st => exact p
  | stuck => exact p
theorem PostB.bindB {r : Res Bool} {f : Bool → Store → Res Bool} {Q : Bool → Hp → Prop} (p : PostB K H μ (r.bind f) Q E) : PostB K H μ r (ThenB K H μ fun d st1 H1 μ1 => PostB K H1 μ1 (f d st1) Q E) E := by
  cases r with
  | ok d st => exact fun H' μ' e b => ⟨st, μ', e, b, p.ext e⟩
  | exc y st => exact p
  | stuck => exact p
theorem Post.mono {r : Res D} {Q Q' : VK} (p : Post K H μ r Q E) (h : ∀ v H', Q v H' → Q' v H') : Post K H μ r Q' E := by
  cases r with
  | ok d st => exact fun v H' μ' e a b => h v H' (p v H' μ' e a b)
  | exc y st => exact p
  | stuck => exact p
theorem PostL.mono {r : Res (List D)} {Q Q' : List V → Hp → Prop} (p : PostL K H μ r Q E) (h : ∀ v H', Q v H' → Q' v H') : PostL K H μ r Q' E := by
  cases r with
  | ok d st => exact fun v H' μ' e a b => h v H' (p v H' μ' e a b)
  | exc y st => exact p
  | stuck => exact p
theorem PostB.mono {r : Res Bool} {Q Q' : Bool → Hp → Prop} (p : PostB K H μ r Q E) (h : ∀ v H', Q v H' → Q' v H') : PostB K H μ r Q' E := by
  cases r with
  | ok d st => exact fun H' μ' e b => h d H' (p H' μ' e b)
  | exc y st => exact p
  | stuck => exact p
end
end L3

namespace L3
open PySem PySem.Spec PyProof.Rows L2

abbrev SE := Envr → Store → Res D
abbrev SL := Envr → Store → Res (List D)
abbrev SB := Envr → Store → Res Bool
def lift (K : PySem.W.Frag) (E : XK) (f : SE) : TE := fun σ H Q => ∃ ρ st μ, RepE K H μ ρ σ ∧ RepS K H μ st ∧ Post K H μ (f ρ st) Q E
def liftL (K : PySem.W.Frag) (E : XK) (f : SL) : TA := fun σ H Q => ∃ ρ st μ, RepE K H μ ρ σ ∧ RepS K H μ st ∧ PostL K H μ (f ρ st) Q E
def liftB (K : PySem.W.Frag) (E : XK) (f : SB) : TT := fun σ H Q => ∃ ρ st μ, RepE K H μ ρ σ ∧ RepS K H μ st ∧ PostB K H μ (f ρ st) Q E
structure LE (X : Cx) (E : XK) (e : Expr) (f : SE) : Prop where
  pe : PE X e (lift X.K E f)
structure LL (X : Cx) (E : XK) (es : List Expr) (f : SL) : Prop where
  pa : PA X es (liftL X.K E f)
structure LB (X : Cx) (E : XK) (e : Expr) (f : SB) : Prop where
  pt : PT X e (liftB X.K E f)
/-- and, or: a test whatever its whole is -/
structure LW (X : Cx) (E : XK) (e : Expr) (f : SB) : Prop where
  pw : PW X e (liftB X.K E f)
theorem LW.b {X : Cx} {E : XK} {e : Expr} {f : SB} (h : LW X E e f) : LB X E e f := ⟨h.pw.pt⟩
theorem peMono {X : Cx} {e : Expr} {t t' : TE} (h : PE X e t) (m : ∀ σ H Q, t' σ H Q → t σ H Q) : PE X e t' := ⟨fun pins s σ H Q I q => h.run pins s σ H Q I (m σ H Q q)⟩
theorem paMono {X : Cx} {e : List Expr} {t t' : TA} (h : PA X e t) (m : ∀ σ H Q, t' σ H Q → t σ H Q) : PA X e t' := ⟨fun pos pins s σ H Q I q => h.run pos pins s σ H Q I (m σ H Q q)⟩
theorem ptMono {X : Cx} {e : Expr} {t t' : TT} (h : PT X e t) (m : ∀ σ H Q, t' σ H Q → t σ H Q) : PT X e t' := ⟨fun pins s σ H Q I q => h.run pins s σ H Q I (m σ H Q q)⟩
theorem pwMono {X : Cx} {e : Expr} {t t' : TT} (h : PW X e t) (m : ∀ σ H Q, t' σ H Q → t σ H Q) : PW X e t' := ⟨fun w pins s σ H Q I q => h.run w pins s σ H Q I (m σ H Q q)⟩

/-! ### names, constants -/
def sVar (i : Nat) : SE := fun ρ st => match ρ[i]? with
  | some (some d) => .ok d st
  | _ => .stuck
def sC (d : D) : SE := fun _ st => .ok d st
section
variable {X : Cx} {E : XK} {pos : Pos}
theorem le_var (i : Nat) {x : Str} {pos : Pos} (hN : X.N[i]? = some x := by rfl) (hv : Vis X.env.scope x := by first | exact Or.inl rfl | exact Or.inr (Or.inl rfl) | exact Or.inr (Or.inr rfl)) (hd : (x == ("__debug__" : Str)) = false := by decide)
    (hcd : (x == ("__classdict__" : Str)) = false := by decide) : LE X E (.Name x pos) (sVar i) := ⟨peMono (pe_var hN hv hd hcd) fun σ H Q ⟨ρ, st, μ, re, rs, p⟩ => by
  unfold sVar at p
  split at p
  · rename_i d e
    obtain ⟨v, e1, r⟩ := re.2 i d e
    exact ⟨v, e1, p v H μ (.refl H μ) r rs⟩
  · exact p.elim⟩
theorem le_int {i : Int} {j : Nat} : LE X E (.Constant (.int i) j pos) (sC (.int i)) := ⟨peMono pe_int fun σ H Q ⟨ρ, st, μ, re, rs, p⟩ => p _ H μ (.refl H μ) (.int i) rs⟩
theorem le_bl {i : Bool} {j : Nat} : LE X E (.Constant (.bool i) j pos) (sC (.bl i)) := ⟨peMono pe_bl fun σ H Q ⟨ρ, st, μ, re, rs, p⟩ => p _ H μ (.refl H μ) (.bl i) rs⟩
theorem le_non {j : Nat} : LE X E (.Constant .none j pos) (sC .non) := ⟨peMono pe_non fun σ H Q ⟨ρ, st, μ, re, rs, p⟩ => p _ H μ (.refl H μ) .non rs⟩
theorem le_str {i : Str} {j : Nat} : LE X E (.Constant (.str i) j pos) (sC (.str i)) := ⟨peMono pe_str fun σ H Q ⟨ρ, st, μ, re, rs, p⟩ => p _ H μ (.refl H μ) (.str i) rs⟩
theorem le_glob {x : Str} {v : V} {u : Value} {d : D} (hg : Gl X x) (hm : X.mg x = some u) (r : RelV v u) (h : ∀ H μ, Rep X.K H μ d v) (hd : (x == ("__debug__" : Str)) = false := by decide) : LE X E (.Name x pos) (sC d) :=
  ⟨peMono (pe_glob hg hm r hd) fun σ H Q ⟨ρ, st, μ, re, rs, p⟩ => p _ H μ (.refl H μ) (h H μ) rs⟩

/-! ### argument lists -/
def sNil : SL := fun _ st => .ok [] st
def sCons (f : SE) (g : SL) : SL := fun ρ st => (f ρ st).bind fun d st => (g ρ st).bind fun ds st => .ok (d :: ds) st
theorem ll_nil : LL X E [] sNil := ⟨paMono pa_nil fun σ H Q ⟨ρ, st, μ, re, rs, p⟩ => p _ H μ (.refl H μ) .nil rs⟩
theorem ll_cons {e : Expr} {es : List Expr} {f : SE} {g : SL} (ha : LE X E e f) (hr : LL X E es g) (hs : starEach (e :: es) X.env = (false, eval e X.env) :: starEach es X.env := by rfl) : LL X E (e :: es) (sCons f g) :=
  ⟨paMono (pa_cons ha.pe hr.pa hs) fun σ H Q ⟨ρ, st, μ, re, rs, p⟩ => by
    have p1 := Post.bindL (f := fun d st => (g ρ st).bind fun ds st => .ok (d :: ds) st) p
    refine ⟨ρ, st, μ, re, rs, p1.mono fun v H1 ⟨d, st1, μ1, x1, r1, s1, p2⟩ => ?_⟩
    refine ⟨ρ, st1, μ1, re.ext x1, s1, (PostL.bindL (f := fun ds st => .ok (d :: ds) st) p2).mono fun vs H2 ⟨ds, st2, μ2, x2, r2, s2, p3⟩ => ?_⟩
    exact p3 (v :: vs) H2 μ2 (.refl _ _) (.cons (r1.ext x2) r2) s2⟩

/-! ### displays -/
def sTup (f : SL) : SE := fun ρ st => (f ρ st).bind fun ds st => .ok (.tup ds) st
def sLst (f : SL) : SE := fun ρ st => (f ρ st).bind fun ds st => .ok (.ref st.length) (st ++ [.lst ds])
def LenIs (f : SL) (n : Nat) : Prop := ∀ ρ st ds st', f ρ st = .ok ds st' → ds.length = n
theorem lenIs_nil : LenIs sNil 0 := fun ρ st ds st' e => by cases e; rfl
theorem lenIs_cons {f : SE} {g : SL} {n : Nat} (h : LenIs g n) : LenIs (sCons f g) (n + 1) := fun ρ st ds st' e => by
  unfold sCons at e
  cases q : f ρ st with
  | ok d st1 =>
    rw [q, bind_ok] at e
    cases q2 : g ρ st1 with
    | ok ds st2 =>
      rw [q2, bind_ok] at e
      cases e
      rw [List.length_cons, h ρ st1 ds _ q2]
    | exc x st2 => rw [q2] at e; cases e
    | stuck => rw [q2] at e; cases e
  | exc x st2 => rw [q] at e; cases e
  | stuck => rw [q] at e; cases e
theorem post_tup {K : PySem.W.Frag} {H : Hp} {μ : List Addr} {ds : List D} {vs : List V} {st : Store} {Q : VK} {a : Addr} (p : Post K H μ (.ok (.tup ds) st) Q E) (r : Reps K H μ ds vs) (s : RepS K H μ st) (hn : H a = none) : Q (.ref a) (upd H a (.tup vs)) :=
  p (.ref a) _ μ (.new hn) (.tup (.inl ⟨.inl upd_same, s.free hn⟩) (r.ext (.new hn))) (s.new hn)
theorem post_lst {K : PySem.W.Frag} {H : Hp} {μ : List Addr} {ds : List D} {vs : List V} {st : Store} {Q : VK} {a : Addr} (p : Post K H μ (.ok (.ref st.length) (st ++ [.lst ds])) Q E) (r : Reps K H μ ds vs) (s : RepS K H μ st) (hn : H a = none) : Q (.ref a) (upd H a (.lst vs)) :=
  p (.ref a) _ (μ ++ [a]) (.newS hn) (.ref (by rw [← s.len, List.getElem?_append_right (Nat.le_refl _)]; simp)) (s.push hn ⟨vs, upd_same, r.ext (.newS hn)⟩)
/-- the list's length behind a fixed display -/
theorem PostL.len {K : PySem.W.Frag} {H : Hp} {μ : List Addr} {r : Res (List D)} {Q : List V → Hp → Prop} {n : Nat} (p : PostL K H μ r Q E) (h : ∀ ds st, r = .ok ds st → ds.length = n) : PostL K H μ r (fun vs H' => vs.length = n ∧ Q vs H') E := by
  cases r with
  | ok d st => exact fun v H' μ' e a b => ⟨by rw [← a.length]; exact h d st rfl, p v H' μ' e a b⟩
  | exc y st => exact p
  | stuck => exact p
theorem small_line {n : Nat} (h : n ≤ 1000) : n ≤ sizeLine := Nat.le_trans h (by decide)
theorem le_tup {es : List Expr} {f : SL} {n : Nat} {x1 : Nat} (h : LL X E es f) (hl : LenIs f n) (hn : n ≤ 1000 := by decide) : LE X E (.Tuple es x1 pos) (sTup f) :=
  ⟨peMono (pe_tup h.pa) fun σ H Q ⟨ρ, st, μ, re, rs, p⟩ => ⟨ρ, st, μ, re, rs, ((PostL.bind (f := fun ds st => .ok (.tup ds) st) p).len fun ds st' e => hl _ _ _ _ e).mono fun vs H1 ⟨e, ds, st1, μ1, x1, r1, s1, p1⟩ =>
    ⟨by rw [e]; exact small_line hn, fun a ha => post_tup p1 r1 s1 ha⟩⟩⟩
theorem le_lst {es : List Expr} {f : SL} {n : Nat} (h : LL X E es f) (hl : LenIs f n) (hn : n ≤ 1000 := by decide) : LE X E (.List es pos) (sLst f) :=
  ⟨peMono (pe_lst h.pa) fun σ H Q ⟨ρ, st, μ, re, rs, p⟩ => ⟨ρ, st, μ, re, rs, ((PostL.bind (f := fun ds st => .ok (.ref st.length) (st ++ [.lst ds])) p).len fun ds st' e => hl _ _ _ _ e).mono fun vs H1 ⟨e, ds, st1, μ1, x1, r1, s1, p1⟩ =>
    ⟨by rw [e]; exact small_line hn, fun a ha => post_lst p1 r1 s1 ha⟩⟩⟩

/-! ### operators by values -/
abbrev F2 := D → D → Store → Res D
def s2 (F : F2) (f g : SE) : SE := fun ρ st => (f ρ st).bind fun x st => (g ρ st).bind fun y st => F x y st
def lift2 (K : PySem.W.Frag) (E : XK) (F : F2) : R2 := fun x y H Q => ∃ d d' st μ, Rep K H μ d x ∧ Rep K H μ d' y ∧ RepS K H μ st ∧ Post K H μ (F d d' st) Q E
def OpL (X : Cx) (E : XK) (f : Value → Value → Sem Value) (F : F2) : Prop := OpR X f (lift2 X.K E F)
theorem lift_s2 {K : PySem.W.Frag} {F : F2} {f g : SE} {σ : L2.St} {H : Hp} {Q : VK} (h : lift K E (s2 F f g) σ H Q) : tOp (lift2 K E F) (lift K E f) (lift K E g) σ H Q := by
  obtain ⟨ρ, st, μ, re, rs, p⟩ := h
  have p1 := Post.bind (f := fun x st => (g ρ st).bind fun y st => F x y st) p
  refine ⟨ρ, st, μ, re, rs, p1.mono fun v H1 ⟨d, st1, μ1, x1, r1, s1, p2⟩ => ?_⟩
  refine ⟨ρ, st1, μ1, re.ext x1, s1, (Post.bind (f := fun y st => F d y st) p2).mono fun w H2 ⟨d', st2, μ2, x2, r2, s2, p3⟩ => ?_⟩
  exact ⟨d, d', st2, μ2, r1.ext x2, r2, s2, p3⟩
theorem le_op {a b : Expr} {op : Operator} {F : F2} {f g : SE} (ho : OpL X E (binaryOp op) F) (ha : LE X E a f) (hb : LE X E b g) : LE X E (.BinOp a op b pos) (s2 F f g) :=
  ⟨peMono (pe_op ho ha.pe hb.pe) fun _ _ _ h => lift_s2 h⟩
theorem le_cmp {a b : Expr} {op : CmpOp} {F : F2} {f g : SE} (ho : OpL X E (compareOp op) F) (ha : LE X E a f) (hb : LE X E b g) (hm : behindInMarks op b = false) : LE X E (.Compare a [op] [b] pos) (s2 F f g) :=
  ⟨peMono (pe_cmpR ho ha.pe hb.pe hm) fun _ _ _ h => lift_s2 h⟩
/-- a value that is a bool, as a test -/
def sBool (f : SE) : SB := fun ρ st => (f ρ st).bind fun x st => match x with
  | .bl b => .ok b st
  | _ => .stuck
theorem Rep.blOf {K : PySem.W.Frag} {H : Hp} {μ : List Addr} {b : Bool} {v : V} (r : Rep K H μ (.bl b) v) : v = .bl b := by cases r; rfl
theorem lift_bool {K : PySem.W.Frag} {f : SE} {σ : L2.St} {H : Hp} {Q : Bool → Hp → Prop} (h : liftB K E (sBool f) σ H Q) : lift K E f σ H fun x H' => ∃ k, x = .bl k ∧ Q k H' := by
  obtain ⟨ρ, st, μ, re, rs, p⟩ := h
  refine ⟨ρ, st, μ, re, rs, (Post.bindB p).mono fun v H1 ⟨d, st1, μ1, x1, r1, s1, p1⟩ => ?_⟩
  cases d with
  | bl b => exact ⟨b, r1.blOf, p1 H1 μ1 (.refl _ _) s1⟩
  | _ => exact p1.elim
theorem lb_cmp {a b : Expr} {op : CmpOp} {F : F2} {f g : SE} (ho : OpL X E (compareOp op) F) (ha : LE X E a f) (hb : LE X E b g) (hm : behindInMarks op b = false) : LB X E (.Compare a [op] [b] pos) (sBool (s2 F f g)) :=
  ⟨ptMono (pt_cmpR ho ha.pe hb.pe hm) fun σ H Q h => by
    have h1 := lift_bool h
    exact lift_s2 h1⟩
/-- a < b < c -/
def sChain (F G : F2) (f g h : SE) : SE := fun ρ st => (f ρ st).bind fun x st => (g ρ st).bind fun y st => (F x y st).bind fun z st => match z with
  | .bl true => (h ρ st).bind fun w st => G y w st
  | .bl false => .ok (.bl false) st
  | _ => .stuck
theorem lift_chain {K : PySem.W.Frag} {F G : F2} {f g h : SE} {σ : L2.St} {H : Hp} {Q : VK} (q : lift K E (sChain F G f g h) σ H Q) : tChain (lift2 K E F) (lift2 K E G) (lift K E f) (lift K E g) (lift K E h) σ H Q := by
  obtain ⟨ρ, st, μ, re, rs, p⟩ := q
  refine ⟨ρ, st, μ, re, rs, (Post.bind p).mono fun v H1 ⟨d, st1, μ1, x1, r1, s1, p2⟩ => ?_⟩
  refine ⟨ρ, st1, μ1, re.ext x1, s1, (Post.bind p2).mono fun w H2 ⟨d', st2, μ2, x2, r2, s2, p3⟩ => ?_⟩
  refine ⟨d, d', st2, μ2, r1.ext x2, r2, s2, (Post.bind p3).mono fun z H3 ⟨d3, st3, μ3, x3, r3, s3, p4⟩ => ?_⟩
  cases d3 with
  | bl b =>
    refine ⟨b, r3.blOf, ?_⟩
    cases b with
    | true =>
      rw [if_pos rfl]
      refine ⟨ρ, st3, μ3, ((re.ext x1).ext x2).ext x3, s3, (Post.bind p4).mono fun z4 H4 ⟨d4, st4, μ4, x4, r4, s4, p5⟩ => ?_⟩
      exact ⟨d', d4, st4, μ4, (r2.ext x3).ext x4, r4, s4, p5⟩
    | false =>
      rw [if_neg Bool.false_ne_true]
      exact p4 _ H3 μ3 (.refl _ _) (.bl false) s3
  | _ => exact p4.elim
theorem le_chain {a b c : Expr} {op op' : CmpOp} {F G : F2} {f g h : SE} (ho : OpL X E (compareOp op) F) (ho' : OpL X E (compareOp op') G) (ha : LE X E a f) (hb : LE X E b g) (hc : LE X E c h) (hm : lastMarks [op, op'] [b, c] = false) :
    LE X E (.Compare a [op, op'] [b, c] pos) (sChain F G f g h) := ⟨peMono (pe_chain ho ho' ha.pe hb.pe hc.pe hm) fun _ _ _ h => lift_chain h⟩
theorem lb_chain {a b c : Expr} {op op' : CmpOp} {F G : F2} {f g h : SE} (ho : OpL X E (compareOp op) F) (ho' : OpL X E (compareOp op') G) (ha : LE X E a f) (hb : LE X E b g) (hc : LE X E c h) (hm : lastMarks [op, op'] [b, c] = false) :
    LB X E (.Compare a [op, op'] [b, c] pos) (sBool (sChain F G f g h)) := ⟨ptMono (pt_chain ho ho' ha.pe hb.pe hc.pe hm) fun σ H Q q => by
      have h1 := lift_bool q
      exact lift_chain h1⟩

/-! ### one value -/
abbrev F1 := D → Store → Res D
def s1 (F : F1) (f : SE) : SE := fun ρ st => (f ρ st).bind fun x st => F x st
def lift1 (K : PySem.W.Frag) (E : XK) (F : F1) : V → Hp → VK → Prop := fun x H Q => ∃ d st μ, Rep K H μ d x ∧ RepS K H μ st ∧ Post K H μ (F d st) Q E
theorem lift_s1 {K : PySem.W.Frag} {F : F1} {f : SE} {σ : L2.St} {H : Hp} {Q : VK} (h : lift K E (s1 F f) σ H Q) : lift K E f σ H fun x H1 => lift1 K E F x H1 Q := by
  obtain ⟨ρ, st, μ, re, rs, p⟩ := h
  exact ⟨ρ, st, μ, re, rs, (Post.bind p).mono fun v H1 ⟨d, st1, μ1, x1, r1, s1, p2⟩ => ⟨d, st1, μ1, r1, s1, p2⟩⟩
def vNeg : F1 := fun d st => match d with
  | .int i => .ok (.int (-i)) st
  | _ => .stuck
theorem le_neg {a : Expr} {f : SE} (ha : LE X E a f) : LE X E (.UnaryOp .USub a pos) (s1 vNeg f) := ⟨peMono (pe_un un_neg ha.pe) fun σ H Q h => by
  obtain ⟨ρ, st, μ, re, rs, p⟩ := lift_s1 h
  refine ⟨ρ, st, μ, re, rs, p.mono fun v H1 ⟨d, st1, μ1, r1, s1, p1⟩ => ?_⟩
  cases d with
  | int i => cases r1; exact ⟨i, rfl, p1 _ H1 μ1 (.refl _ _) (.int _) s1⟩
  | _ => exact p1.elim⟩

/-! ### truth -/
def truth (d : D) (st : Store) : Option Bool := match d with
  | .non => some false
  | .bl b => some b
  | .int i => some (i != 0)
  | .str x => if x.length ≤ sizeLine then some (x.length != 0) else none
  | .tup xs => some (!xs.isEmpty)
  | .rl xs => some (!xs.isEmpty)
  | .ref n => match st[n]? with
    | some (.lst xs) => some (!xs.isEmpty)
    | some (.dK xs) => some (!xs.isEmpty)
    | _ => none
theorem Reps.empty {K : PySem.W.Frag} {H : Hp} {μ : List Addr} {ds : List D} {vs : List V} (r : Reps K H μ ds vs) : ds.isEmpty = vs.isEmpty := by cases r <;> rfl
theorem RepF.empty {κ : Type} {K : PySem.W.Frag} {H : Hp} {μ : List Addr} {ds : List (κ × D)} {vs : List (κ × V)} (r : RepF K H μ ds vs) : ds.isEmpty = vs.isEmpty := by cases r <;> rfl
theorem truV {K : PySem.W.Frag} {H : Hp} {μ : List Addr} {d : D} {v : V} {st : Store} {b : Bool} (r : Rep K H μ d v) (s : RepS K H μ st) (h : truth d st = some b) : TruV K v H b := by
  cases d with
  | non => cases r; cases h; rfl
  | bl b => cases r; cases h; rfl
  | int i => cases r; cases h; rfl
  | str x =>
    cases r
    simp only [truth] at h
    split at h
    · cases h; exact ⟨by assumption, by rw [Bool.eq_iff_iff]; simp⟩
    · cases h
  | tup xs => cases r with | tup h1 h2 => cases h; exact .inr (.inl ⟨_, h1.sq, by rw [h2.empty]⟩)
  | rl xs => cases r with | rl h1 h2 => cases h; exact .inl ⟨_, h1.sq, by rw [h2.empty]⟩
  | ref n =>
    cases r with
    | ref h1 =>
      simp only [truth] at h
      split at h
      · rename_i xs e
        cases h
        obtain ⟨a, e1, vs, e2, r2⟩ := s.at e
        rw [h1] at e1; cases e1
        exact .inl ⟨vs, .of e2, by rw [r2.empty]⟩
      · rename_i xs e
        cases h
        obtain ⟨a, e1, vs, e2, r2⟩ := s.at e
        rw [h1] at e1; cases e1
        exact .inr (.inr (by first | exact ⟨vs, .inl e2, by rw [r2.empty]⟩ | exact .inl ⟨vs, .inl e2, by rw [r2.empty]⟩ | exact ⟨vs, e2, by rw [r2.empty]⟩))
      · cases h
def sTruth (f : SE) : SB := fun ρ st => (f ρ st).bind fun x st => match truth x st with
  | some b => .ok b st
  | none => .stuck
theorem lift_truth {K : PySem.W.Frag} {f : SE} {σ : L2.St} {H : Hp} {Q : Bool → Hp → Prop} (h : liftB K E (sTruth f) σ H Q) : lift K E f σ H fun x H' => ∃ k, TruV K x H' k ∧ Q k H' := by
  obtain ⟨ρ, st, μ, re, rs, p⟩ := h
  refine ⟨ρ, st, μ, re, rs, (Post.bindB p).mono fun v H1 ⟨d, st1, μ1, x1, r1, s1, p1⟩ => ?_⟩
  cases e : truth d st1 with
  | some b => dsimp only at p1; rw [e] at p1; exact ⟨b, truV r1 s1 e, p1 H1 μ1 (.refl _ _) s1⟩
  | none => dsimp only at p1; rw [e] at p1; exact p1.elim
theorem lb_truth {a : Expr} {f : SE} (ha : LE X E a f) (he : ∀ whole, isTrue a X.env whole = (do let v ← whole; standAt a.pos; holding [v] (truthy v)) := by intro _; rfl) : LB X E a (sTruth f) :=
  ⟨ptMono (pt_truth ha.pe he) fun σ H Q h => by
    first | exact lift_truth h | exact (lift_truth h)⟩
def sNot (t : SB) : SB := fun ρ st => (t ρ st).bind fun b st => .ok (!b) st
theorem lb_not {a : Expr} {t : SB} (ha : LB X E a t) : LB X E (.UnaryOp .Not a pos) (sNot t) := ⟨ptMono (pt_not ha.pt) fun σ H Q ⟨ρ, st, μ, re, rs, p⟩ =>
  ⟨ρ, st, μ, re, rs, (PostB.bindB p).mono fun b H1 ⟨st1, μ1, x1, s1, p1⟩ => p1 H1 μ1 (.refl _ _) s1⟩⟩
/-- not a, as a value -/
def sNotV (t : SB) : SE := fun ρ st => (t ρ st).bind fun b st => .ok (.bl (!b)) st
theorem le_not {a : Expr} {f : SE} (ha : LE X E a f) : LE X E (.UnaryOp .Not a pos) (sNotV (sTruth f)) := ⟨peMono (pe_notT ha.pe) fun σ H Q ⟨ρ, st, μ, re, rs, p⟩ => by
  have p1 : liftB X.K E (sTruth f) σ H (fun b H1 => Q (.bl (!b)) H1) := ⟨ρ, st, μ, re, rs, (PostB.bind p).mono fun b H1 ⟨st1, μ1, x1, s1, p1⟩ => p1 _ H1 μ1 (.refl _ _) (.bl _) s1⟩
  exact lift_truth p1⟩
/-! ### and, or -/
def sAnd (t u : SB) : SB := fun ρ st => (t ρ st).bind fun b st => if b = true then u ρ st else .ok false st
def sOr (t u : SB) : SB := fun ρ st => (t ρ st).bind fun b st => if b = true then .ok true st else u ρ st
theorem lw_and1 {a : Expr} {t : SB} (ha : LB X E a t) : LW X E (.BoolOp .And [a] pos) t := ⟨pw_and1 ha.pt⟩
theorem lw_or1 {a : Expr} {t : SB} (ha : LB X E a t) : LW X E (.BoolOp .Or [a] pos) t := ⟨pw_or1 ha.pt⟩
theorem lw_and {a b : Expr} {rest : List Expr} {t u : SB} (ha : LB X E a t) (hb : LW X E (.BoolOp .And (b :: rest) pos) u) : LW X E (.BoolOp .And (a :: b :: rest) pos) (sAnd t u) := ⟨pwMono (pw_and ha.pt hb.pw) fun σ H Q ⟨ρ, st, μ, re, rs, p⟩ =>
  ⟨ρ, st, μ, re, rs, (PostB.bindB p).mono fun b H1 ⟨st1, μ1, x1, s1, p1⟩ => by
    cases b with
    | true => rw [if_pos rfl] at p1 ⊢; exact ⟨ρ, st1, μ1, re.ext x1, s1, p1⟩
    | false => rw [if_neg Bool.false_ne_true] at p1 ⊢; exact p1 H1 μ1 (.refl _ _) s1⟩⟩
theorem lw_or {a b : Expr} {rest : List Expr} {t u : SB} (ha : LB X E a t) (hb : LW X E (.BoolOp .Or (b :: rest) pos) u) : LW X E (.BoolOp .Or (a :: b :: rest) pos) (sOr t u) := ⟨pwMono (pw_or ha.pt hb.pw) fun σ H Q ⟨ρ, st, μ, re, rs, p⟩ =>
  ⟨ρ, st, μ, re, rs, (PostB.bindB p).mono fun b H1 ⟨st1, μ1, x1, s1, p1⟩ => by
    cases b with
    | true => rw [if_pos rfl] at p1 ⊢; exact p1 H1 μ1 (.refl _ _) s1
    | false => rw [if_neg Bool.false_ne_true] at p1 ⊢; exact ⟨ρ, st1, μ1, re.ext x1, s1, p1⟩⟩⟩
/-- as values: each but the last by its truth -/
def sAndV (f g : SE) : SE := fun ρ st => (f ρ st).bind fun x st => match truth x st with
  | some true => g ρ st
  | some false => .ok x st
  | none => .stuck
def sOrV (f g : SE) : SE := fun ρ st => (f ρ st).bind fun x st => match truth x st with
  | some true => .ok x st
  | some false => g ρ st
  | none => .stuck
theorem le_one {a : Expr} {op : BoolOp} {f : SE} (h : LE X E a f) : LE X E (.BoolOp op [a] pos) f := ⟨pe_one h.pe⟩
theorem le_and {a b : Expr} {rest : List Expr} {f g : SE} (ha : LE X E a f) (hb : LE X E (.BoolOp .And (b :: rest) pos) g) : LE X E (.BoolOp .And (a :: b :: rest) pos) (sAndV f g) := ⟨peMono (pe_andT ha.pe hb.pe) fun σ H Q ⟨ρ, st, μ, re, rs, p⟩ =>
  ⟨ρ, st, μ, re, rs, (Post.bind p).mono fun v H1 ⟨d, st1, μ1, x1, r1, s1, p1⟩ => by
    cases e : truth d st1 with
    | none => dsimp only at p1; rw [e] at p1; exact p1.elim
    | some k =>
      dsimp only at p1; rw [e] at p1
      refine ⟨k, truV r1 s1 e, ?_⟩
      cases k with
      | true => exact ⟨ρ, st1, μ1, re.ext x1, s1, p1⟩
      | false => exact p1 v H1 μ1 (.refl _ _) r1 s1⟩⟩
theorem le_or {a b : Expr} {rest : List Expr} {f g : SE} (ha : LE X E a f) (hb : LE X E (.BoolOp .Or (b :: rest) pos) g) : LE X E (.BoolOp .Or (a :: b :: rest) pos) (sOrV f g) := ⟨peMono (pe_orT ha.pe hb.pe) fun σ H Q ⟨ρ, st, μ, re, rs, p⟩ =>
  ⟨ρ, st, μ, re, rs, (Post.bind p).mono fun v H1 ⟨d, st1, μ1, x1, r1, s1, p1⟩ => by
    cases e : truth d st1 with
    | none => dsimp only at p1; rw [e] at p1; exact p1.elim
    | some k =>
      dsimp only at p1; rw [e] at p1
      refine ⟨k, truV r1 s1 e, ?_⟩
      cases k with
      | true => exact p1 v H1 μ1 (.refl _ _) r1 s1
      | false => exact ⟨ρ, st1, μ1, re.ext x1, s1, p1⟩⟩⟩
/-- a if t else b -/
def sIte (t : SB) (f g : SE) : SE := fun ρ st => (t ρ st).bind fun b st => if b = true then f ρ st else g ρ st
theorem le_ite {c a b : Expr} {t : SB} {f g : SE} (hc : LB X E c t) (ha : LE X E a f) (hb : LE X E b g) : LE X E (.IfExp c a b pos) (sIte t f g) := ⟨peMono (pe_ifExp hc.pt ha.pe hb.pe) fun σ H Q ⟨ρ, st, μ, re, rs, p⟩ =>
  ⟨ρ, st, μ, re, rs, (PostB.bind p).mono fun b H1 ⟨st1, μ1, x1, s1, p1⟩ => by
    cases b with
    | true => rw [if_pos rfl] at p1 ⊢; exact ⟨ρ, st1, μ1, re.ext x1, s1, p1⟩
    | false => rw [if_neg Bool.false_ne_true] at p1 ⊢; exact ⟨ρ, st1, μ1, re.ext x1, s1, p1⟩⟩⟩

/-! ### the store swept: what was made and is not held is forgotten -/
open Classical in
noncomputable def swept (st : Store) (r : Res D) : Res D := match r with
  | .ok d st' => if st.length ≤ st'.length ∧ d.low st.length = true ∧ ∀ (i : Nat) (o : SO), i < st.length → st'[i]? = some o → st[i]? = some o ∨ o.low st.length = true then .ok d (st'.take st.length) else .ok d st'
  | r => r
theorem RepS.sweep {K : PySem.W.Frag} {H H' : Hp} {μ μ' : List Addr} {st st' : Store} (s : RepS K H μ st) (x : Ext H μ H' μ') (s' : RepS K H' μ' st')
    (h : ∀ (i : Nat) (o : SO), i < st.length → st'[i]? = some o → st[i]? = some o ∨ o.low st.length = true) (hl : st.length ≤ st'.length) : Ext H μ H' μ ∧ RepS K H' μ (st'.take st.length) := by
  obtain ⟨m, e, f⟩ := x.pre
  refine ⟨⟨⟨[], by simp, by simp⟩, x.keep, x.live⟩, ⟨by rw [List.length_take, Nat.min_eq_left hl, s.len], s.nd, fun i a o e1 e2 => ?_⟩⟩
  have hi : i < st.length := by
    have := (List.getElem?_eq_some_iff.mp e2).1
    rw [List.length_take] at this
    omega
  rw [List.getElem?_take_of_lt hi] at e2
  have q := s'.obj i a o (by rw [e, List.getElem?_append_left (by rw [s.len]; exact hi)]; exact e1) e2
  rcases h i o hi e2 with z | z
  · have q0 := s.obj i a o e1 z
    -- the object as it was, described as it was
    rw [e] at q
    cases o with
    | lst ds =>
      obtain ⟨vs, e3, r3⟩ := q
      obtain ⟨ws, e4, r4⟩ := q0
      exact ⟨vs, e3, r3.cut r4.lows⟩
    | dK ds =>
      obtain ⟨vs, e3, r3⟩ := q
      obtain ⟨ws, e4, r4⟩ := q0
      exact ⟨vs, e3, r3.cut (RepF.lows r4)⟩
    | ins C ds =>
      obtain ⟨dx, vs, e3, r3⟩ := q
      obtain ⟨dx', ws, e4, r4⟩ := q0
      exact ⟨dx, vs, e3, r3.cut (RepF.lows r4)⟩
  · rw [e] at q
    exact q.cut (by rw [s.len]; exact z)
end
end L3

namespace L3
open PySem PySem.Spec PyProof.Rows L2
section
variable {X : Cx} {E : XK} {pos : Pos}
/-! ### arithmetic -/
def vAdd : F2 := fun x y st => match x, y with
  | .int i, .int j => .ok (.int (i + j)) st
  | .str a, .str b => if a.length + b.length ≤ sizeLine then .ok (.str (a ++ b)) st else .stuck
  | .tup a, .tup b => if a.length + b.length ≤ sizeLine then .ok (.tup (a ++ b)) st else .stuck
  | .ref m, .ref n => match st[m]?, st[n]? with
    | some (.lst a), some (.lst b) => if a.length + b.length ≤ sizeLine then .ok (.ref st.length) (st ++ [.lst (a ++ b)]) else .stuck
    | _, _ => .stuck
  | _, _ => .stuck
theorem op_vAdd : OpL X E (binaryOp .Add) vAdd := by
  intro pins s σ H x y v u Q I rx ry ⟨d, d', st, μ, h1, h2, h3, p⟩
  cases d <;> cases d' <;> first | exact (show False from p).elim | skip
  · cases h1; cases h2
    exact op_add pins s σ H _ _ v u Q I rx ry ⟨_, _, rfl, rfl, p _ H μ (.refl _ _) (.int _) h3⟩
  · cases h1; cases h2
    simp only [vAdd] at p
    split at p
    · exact op_add_str pins s σ H _ _ v u Q I rx ry ⟨_, _, rfl, rfl, by assumption, p _ H μ (.refl _ _) (.str _) h3⟩
    · exact p.elim
  · simp only [vAdd] at p
    cases h1 with
    | tup t1 r1 =>
      cases h2 with
      | tup t2 r2 =>
        split at p
        · rename_i hz
          refine op_catA pins s σ H _ _ v u Q I rx ry ⟨_, _, _, _, rfl, rfl, t1.sq, t2.sq, by rw [← r1.length, ← r2.length]; exact hz, fun e => ?_, fun _ e => ?_, fun _ _ a ha => ?_⟩
          · subst e
            cases r1
            exact p _ H μ (.refl _ _) (.tup t2 (by simpa using r2)) h3
          · subst e
            cases r2
            exact p _ H μ (.refl _ _) (.tup t1 (by simpa using r1)) h3
          · exact post_tup p (r1.append r2) h3 ha
        · exact p.elim
  · simp only [vAdd] at p
    cases h1 with
    | ref e1 =>
      cases h2 with
      | ref e2 =>
        split at p
        · rename_i xs ys q1 q2
          split at p
          · rename_i hz
            obtain ⟨a, f1, vs, g1, r1⟩ := h3.at q1
            obtain ⟨b, f2, ws, g2, r2⟩ := h3.at q2
            rw [e1] at f1; cases f1
            rw [e2] at f2; cases f2
            exact op_cat pins s σ H _ _ v u Q I rx ry ⟨_, _, _, _, rfl, rfl, g1, g2, by rw [← r1.length, ← r2.length]; exact hz, fun a ha => post_lst p (r1.append r2) h3 ha⟩
          · exact p.elim
        · exact p.elim
def vSub : F2 := fun x y st => match x, y with
  | .int i, .int j => .ok (.int (i - j)) st
  | _, _ => .stuck
theorem op_vSub : OpL X E (binaryOp .Sub) vSub := by
  intro pins s σ H x y v u Q I rx ry ⟨d, d', st, μ, h1, h2, h3, p⟩
  cases d <;> cases d' <;> first | exact (show False from p).elim | skip
  cases h1; cases h2
  exact op_sub pins s σ H _ _ v u Q I rx ry ⟨_, _, rfl, rfl, p _ H μ (.refl _ _) (.int _) h3⟩
/-- how wide an int is -/
def wid (i : Int) : Nat := i.natAbs.log2
def vMul : F2 := fun x y st => match x, y with
  | .int i, .int j => if wid i + wid j < 1000000 then .ok (.int (i * j)) st else .stuck
  | .str a, .int k => if a.length ≤ 1000000 ∧ k ≤ 1000000 ∧ -1000000 ≤ k ∧ a.length * k.toNat ≤ sizeLine then .ok (.str ⟨(List.replicate k.toNat a.cps).foldl (· ++ ·) #[]⟩) st else .stuck
  | .tup a, .int k => if -1000 ≤ k ∧ k ≤ 1000 ∧ a.length ≤ 1000 then .ok (.tup (List.replicate k.toNat a).flatten) st else .stuck
  | .ref m, .int k => match st[m]? with
    | some (.lst a) => if -1000000 ≤ k ∧ k ≤ 1000000 ∧ a.length * k.toNat ≤ sizeLine then .ok (.ref st.length) (st ++ [.lst (List.replicate k.toNat a).flatten]) else .stuck
    | _ => .stuck
  | _, _ => .stuck
theorem op_str_mul {pins : List (Addr × Obj)} {s : Shared} {σ : L2.St} {H : Hp} {a : Str} {k : Int} {v u : Value} {Q : VK} (I : Inv X pins σ H s) (rx : RelV (.str a) v) (ry : RelV (.int k) u) (h1 : k ≤ 1000000) (h2 : -1000000 ≤ k) (h3 : a.length * k.toNat ≤ sizeLine) (h4 : a.length ≤ 1000000)
    (q : Q (.str ⟨(List.replicate k.toNat a.cps).foldl (· ++ ·) #[]⟩) H) : wpAny (model X.prog X.w) X.A (binaryOp .Mult v u) (EP X pins σ Q) X.xe s := by
  obtain ⟨t, rfl⟩ := rx
  obtain ⟨t', rfl⟩ := ry
  refine PySem.P.mul_str (by
      have e1 : decide (k < -(2 ^ 63 : Int)) = false := decide_eq_false (by omega)
      have e2 : decide (k ≥ 2 ^ 63) = false := decide_eq_false (by omega)
      rw [e1, e2]; rfl) (fun hk _ => ?_) (fun hk _ => ?_) ?_
  · intro hb
    have h5 : ((2 : Int) ^ 63 - 1) / k ≥ 1000000 := by
      rw [ge_iff_le, Int.le_ediv_iff_mul_le (by omega)]
      omega
    omega
  · have hs : sizeLine = 16777216 := sizeLine_eq
    unfold PySem.Builtin.Str.tooLong
    first
      | exact decide_eq_false (by omega)
      | (simp only [decide_eq_false_iff_not]; omega)
  · by_cases hk : k < 1
    · rw [if_pos hk]
      have e : k.toNat = 0 := by omega
      refine ⟨by decide, ⟨.str Str.empty, H, I.tok _, ⟨_, rfl⟩, ?_⟩⟩
      rw [e] at q
      exact q
    · rw [if_neg hk]
      split
      · rename_i hc
        have hq : (⟨(List.replicate k.toNat a.cps).foldl (· ++ ·) #[]⟩ : Str) = a := by
          rcases Bool.or_eq_true_iff.mp hc with hc | hc
          · have : k = 1 := by simpa using hc
            subst this
            simp
          · have hz : a.cps = #[] := by
              have : a.length = 0 := by simpa using hc
              exact Array.eq_empty_of_size_eq_zero this
            have : ∀ n (b : Array Nat), b = #[] → (List.replicate n (#[] : Array Nat)).foldl (· ++ ·) b = #[] := by
              intro n
              induction n with
              | zero => intro b hb; simpa using hb
              | succ n ih => intro b hb; rw [List.replicate_succ, List.foldl_cons]; exact ih _ (by rw [hb]; rfl)
            rw [hz, this _ _ rfl]
            cases a; simp at hz; rw [hz]
        rw [hq] at q
        exact ⟨.str a, H, I, ⟨_, rfl⟩, q⟩
      · exact ⟨by
          have : (Str.length ⟨(List.replicate k.toNat a.cps).foldl (· ++ ·) #[]⟩) = a.length * k.toNat := by
            have gen : ∀ n (b : Array Nat), ((List.replicate n a.cps).foldl (· ++ ·) b).size = b.size + a.length * n := by
              intro n
              induction n with
              | zero => intro b; simp
              | succ n ih => intro b; rw [List.replicate_succ, List.foldl_cons, ih, Array.size_append, Nat.mul_succ]; have : a.length = a.cps.size := rfl; rw [this]; omega
            have := gen k.toNat #[]
            simpa [Str.length] using this
          rw [this]; exact h3, ⟨.str _, H, I.tok _, ⟨_, rfl⟩, q⟩⟩
theorem tuple_same (l : Addr) (items : Array Value) (n : Nat) (dd : Option Addr) (sl : Array (Option Value)) (x : Int) (u : Tok) (c0 : (decide (x < -(2 ^ 63)) || decide (x ≥ 2 ^ 63)) = false) (c1 : (items.isEmpty || x == 1) = true) :
    Meets (Builtin.«tuple.__mul__» ⟨[.ref l, .int x u], []⟩) (fun _ R s => s.heap.get? l = some { cls := .type "tuple", dict := dd, data := .seq items n, slots := sl } ∧ R (.ok (.ret (Value.ref l))) s) :=
  .of_wp fun prog w A R s h => by
    obtain ⟨hp, g, d, tk, os⟩ := s
    obtain ⟨hl, h⟩ := h
    have f1 := AutoSeq1.idx_int
    wp_walk using wpAny_loadPart' hl
    repeat (first
      | (refine wpAny_ite_false (decide_eq_false (by rw [c0]; exact Bool.false_ne_true)) ?_; wp_walk using wpAny_loadPart' hl)
      | (refine wpAny_ite_true (decide_eq_true c1) ?_; wp_walk using wpAny_loadPart' hl))
    exact ⟨_, rfl, h⟩
theorem tuple_nil (l : Addr) (items : Array Value) (n : Nat) (dd : Option Addr) (sl : Array (Option Value)) (x : Int) (u : Tok) (c0 : (decide (x < -(2 ^ 63)) || decide (x ≥ 2 ^ 63)) = false) (c1 : (items.isEmpty || x == 1) = false) (c2 : (decide (x ≤ 0) || items.isEmpty) = true) :
    Meets (Builtin.«tuple.__mul__» ⟨[.ref l, .int x u], []⟩) (fun _ R s => s.heap.get? l = some { cls := .type "tuple", dict := dd, data := .seq items n, slots := sl } ∧
      R (.ok (.ret (Value.ref s.heap.objs.size))) { s with heap := s.heap.push { cls := Value.type "tuple", data := Data.seq #[] }, toks := s.toks }) :=
  .of_wp fun prog w A R s h => by
    obtain ⟨hp, g, d, tk, os⟩ := s
    obtain ⟨hl, h⟩ := h
    have f1 := AutoSeq1.idx_int
    wp_walk using wpAny_loadPart' hl
    repeat (first
      | (refine wpAny_ite_false (decide_eq_false (by rw [c0]; exact Bool.false_ne_true)) ?_; wp_walk using wpAny_loadPart' hl)
      | (refine wpAny_ite_false (decide_eq_false (by rw [c1]; exact Bool.false_ne_true)) ?_; wp_walk using wpAny_loadPart' hl)
      | (refine wpAny_ite_true (decide_eq_true c2) ?_; wp_walk using wpAny_loadPart' hl))
    exact ⟨_, rfl, h⟩
theorem op_repS {pins : List (Addr × Obj)} {s : Shared} {σ : L2.St} {H : Hp} {l : Addr} {k : Int} {xs : List V} {v u : Value} {Q : VK} (I : Inv X pins σ H s) (rx : RelV (.ref l) v) (ry : RelV (.int k) u) (hT : SqT X.K H l xs) (h1 : -1000 ≤ k) (h2 : k ≤ 1000) (hz : xs = [] ∨ k = 1 ∨ k ≤ 0)
    (q1 : xs = [] ∨ k = 1 → Q (.ref l) H) (q2 : k ≤ 0 → ∀ p, H p = none → Q (.ref p) (upd H p (.tup []))) : wpAny (model X.prog X.w) X.A (binaryOp .Mult v u) (EP X pins σ Q) X.xe s := by
  cases rx
  obtain ⟨t, rfl⟩ := ry
  obtain ⟨its, r, ⟨⟨cls, dd, data, sl⟩, ho, hc, n, hd⟩, hs⟩ := I.tuple hT
  simp only at hc hd
  subst hc hd
  have c0 : (decide (k < -(2 ^ 63)) || decide (k ≥ 2 ^ 63)) = false := by
    rw [decide_eq_false (by omega), decide_eq_false (by omega)] <;> rfl
  by_cases hA : (its.toArray.isEmpty || k == 1) = true
  · refine wpAny_binaryOp_repeat_ref (T := "tuple") (U := "int") (by decide) ⟨_, ho, rfl⟩ (fun s' => typeIs_int s' k t) noFill_tuple_mul F.fills_int_mul F.slot_int_rmul repeat_tuple F.slot_int_index.lookup
      (call_meets F.slot_int_rmul (typeIs_int s k t) F.entry_int_rmul (F.args_int_rmul_2 _ _) (int_rmul_tuple k t l its.toArray n dd sl)
        ⟨ho, rfl, ⟨_, ho, rfl⟩, call_meets F.slot_tuple_mul ⟨_, ho, rfl⟩ F.entry_tuple_mul (F.args_tuple_mul_2 _ _) (tuple_same l its.toArray n dd sl k t c0 hA) ⟨ho, ?_⟩⟩)
    refine ⟨.ref l, _, I, rfl, q1 ?_⟩
    rcases Bool.or_eq_true_iff.mp hA with h | h
    · refine .inl ?_
      have : its = [] := by simpa using h
      subst this
      cases r
      rfl
    · exact .inr (by simpa using h)
  · have hA' : (its.toArray.isEmpty || k == 1) = false := by simpa using hA
    have hn : k ≤ 0 := by
      rcases hz with h | h | h
      · subst h; cases r; simp at hA'
      · subst h; simp at hA'
      · exact h
    have c2 : (decide (k ≤ 0) || its.toArray.isEmpty) = true := by simp [hn]
    refine wpAny_binaryOp_repeat_ref (T := "tuple") (U := "int") (by decide) ⟨_, ho, rfl⟩ (fun s' => typeIs_int s' k t) noFill_tuple_mul F.fills_int_mul F.slot_int_rmul repeat_tuple F.slot_int_index.lookup
      (call_meets F.slot_int_rmul (typeIs_int s k t) F.entry_int_rmul (F.args_int_rmul_2 _ _) (int_rmul_tuple k t l its.toArray n dd sl)
        ⟨ho, rfl, ⟨_, ho, rfl⟩, call_meets F.slot_tuple_mul ⟨_, ho, rfl⟩ F.entry_tuple_mul (F.args_tuple_mul_2 _ _) (tuple_nil l its.toArray n dd sl k t c0 hA' c2) ⟨ho, ?_⟩⟩)
    refine ⟨.ref s.heap.objs.size, _, I.laid (t' := s.toks) (o := .tup []) (fun b ob q => Heap.get?_push_of_some _ q) (Nat.le_refl _) ?_, rfl, q2 hn _ (I.hok.fresh (Nat.le_refl _))⟩
    exact ⟨Nat.zero_le _, [], .nil, IsTup.new _ _⟩
theorem op_vMul : OpL X E (binaryOp .Mult) vMul := by
  intro pins s σ H x y v u Q I rx ry ⟨d, d', st, μ, h1, h2, h3, p⟩
  cases d <;> cases d' <;> first | exact (show False from p).elim | skip
  · cases h1; cases h2
    simp only [vMul] at p
    split at p
    · exact op_mulW pins s σ H _ _ v u Q I rx ry ⟨_, _, rfl, rfl, by assumption, p _ H μ (.refl _ _) (.int _) h3⟩
    · exact p.elim
  · cases h1; cases h2
    simp only [vMul] at p
    split at p
    · rename_i hz
      exact op_str_mul I rx ry hz.2.1 hz.2.2.1 hz.2.2.2 hz.1 (p _ H μ (.refl _ _) (.str _) h3)
    · exact p.elim
  · rename_i a k
    cases h2
    simp only [vMul] at p
    cases h1 with
    | tup t1 r1 =>
      split at p
      · rename_i hz
        by_cases h0 : a ≠ [] ∧ 2 ≤ k
        · refine op_repT pins s σ H _ _ v u Q I rx ry ⟨_, _, _, rfl, rfl, t1.sq, fun e => ?_, h0.2, hz.2.1, by rw [← r1.length]; exact hz.2.2, fun a ha => post_tup p (r1.rep _) h3 ha⟩
          subst e
          cases r1
          exact h0.1 rfl
        · have hc : a = [] ∨ k = 1 ∨ k ≤ 0 := by
            rcases Classical.em (a = []) with e | e
            · exact .inl e
            · have : ¬ 2 ≤ k := fun q => h0 ⟨e, q⟩
              omega
          refine op_repS I rx ry t1.sq hz.1 hz.2.1 (hc.imp (fun e => by subst e; cases r1; rfl) id) (fun hq => ?_) (fun hq a' ha => ?_)
          · have ea : (List.replicate k.toNat a).flatten = a := by
              rcases hq with e | e
              · subst e
                cases r1
                simp
              · subst e; simp
            rw [ea] at p
            exact p _ H μ (.refl _ _) (.tup t1 r1) h3
          · have ea : (List.replicate k.toNat a).flatten = [] := by rw [Int.toNat_of_nonpos hq]; rfl
            rw [ea] at p
            exact post_tup p .nil h3 ha
      · exact p.elim
  · cases h2
    simp only [vMul] at p
    cases h1 with
    | ref e1 =>
      split at p
      · rename_i xs q1
        split at p
        · rename_i hz
          obtain ⟨a, f1, vs, g1, r1⟩ := h3.at q1
          rw [e1] at f1; cases f1
          exact op_rep pins s σ H _ _ v u Q I rx ry ⟨_, _, _, rfl, rfl, g1, by omega, by omega, by rw [← r1.length]; exact hz.2.2, fun a ha => post_lst p (r1.rep _) h3 ha⟩
        · exact p.elim
      · exact p.elim
def vFdiv : F2 := fun x y st => match x, y with
  | .int i, .int j => if 0 < j ∧ wid j < 9000 then .ok (.int (i / j)) st else .stuck
  | _, _ => .stuck
theorem op_vFdiv : OpL X E (binaryOp .FloorDiv) vFdiv := by
  intro pins s σ H x y v u Q I rx ry ⟨d, d', st, μ, h1, h2, h3, p⟩
  cases d <;> cases d' <;> first | exact (show False from p).elim | skip
  cases h1; cases h2
  simp only [vFdiv] at p
  split at p
  · exact op_fdivW pins s σ H _ _ v u Q I rx ry ⟨_, _, rfl, rfl, by assumption, p _ H μ (.refl _ _) (.int _) h3⟩
  · exact p.elim
def vMod : F2 := fun x y st => match x, y with
  | .int i, .int j => if 0 < j then .ok (.int (i % j)) st else .stuck
  | _, _ => .stuck
theorem op_vMod : OpL X E (binaryOp .Mod) vMod := by
  intro pins s σ H x y v u Q I rx ry ⟨d, d', st, μ, h1, h2, h3, p⟩
  cases d <;> cases d' <;> first | exact (show False from p).elim | skip
  cases h1; cases h2
  simp only [vMod] at p
  split at p
  · exact op_mod pins s σ H _ _ v u Q I rx ry ⟨_, _, rfl, rfl, by assumption, p _ H μ (.refl _ _) (.int _) h3⟩
  · exact p.elim
def vPow : F2 := fun x y st => match x, y with
  | .int i, .int j => if 0 ≤ j ∧ j ≤ 1000000 ∧ i.natAbs < 2 ^ 64 then .ok (.int (i ^ j.toNat)) st else .stuck
  | _, _ => .stuck
theorem op_vPow : OpL X E (binaryOp .Pow) vPow := by
  intro pins s σ H x y v u Q I rx ry ⟨d, d', st, μ, h1, h2, h3, p⟩
  cases d <;> cases d' <;> first | exact (show False from p).elim | skip
  cases h1; cases h2
  simp only [vPow] at p
  split at p
  · exact op_pow pins s σ H _ _ v u Q I rx ry ⟨_, _, rfl, rfl, by assumption, p _ H μ (.refl _ _) (.int _) h3⟩
  · exact p.elim
def vShl : F2 := fun x y st => match x, y with
  | .int i, .int j => if 0 ≤ j ∧ j ≤ 1000000 ∧ i.natAbs < 2 ^ 64 then .ok (.int (i * 2 ^ j.toNat)) st else .stuck
  | _, _ => .stuck
theorem op_vShl : OpL X E (binaryOp .LShift) vShl := by
  intro pins s σ H x y v u Q I rx ry ⟨d, d', st, μ, h1, h2, h3, p⟩
  cases d <;> cases d' <;> first | exact (show False from p).elim | skip
  cases h1; cases h2
  simp only [vShl] at p
  split at p
  · exact op_shl pins s σ H _ _ v u Q I rx ry ⟨_, _, rfl, rfl, by assumption, p _ H μ (.refl _ _) (.int _) h3⟩
  · exact p.elim
def vShr : F2 := fun x y st => match x, y with
  | .int i, .int j => if 0 ≤ j then .ok (.int (i / 2 ^ j.toNat)) st else .stuck
  | _, _ => .stuck
theorem op_vShr : OpL X E (binaryOp .RShift) vShr := by
  intro pins s σ H x y v u Q I rx ry ⟨d, d', st, μ, h1, h2, h3, p⟩
  cases d <;> cases d' <;> first | exact (show False from p).elim | skip
  cases h1; cases h2
  simp only [vShr] at p
  split at p
  · exact op_shr pins s σ H _ _ v u Q I rx ry ⟨_, _, rfl, rfl, by assumption, p _ H μ (.refl _ _) (.int _) h3⟩
  · exact p.elim

/-! ### order -/
def vCmpI (p : Int → Int → Bool) : F2 := fun x y st => match x, y with
  | .int i, .int j => .ok (.bl (p i j)) st
  | _, _ => .stuck
theorem op_cmpI {f : Value → Value → Sem Value} {p : Int → Int → Bool} (h : OpR X f (rI0 fun i j => .bl (p i j))) : OpL X E f (vCmpI p) := by
  intro pins s σ H x y v u Q I rx ry ⟨d, d', st, μ, h1, h2, h3, q⟩
  cases d <;> cases d' <;> first | exact (show False from q).elim | skip
  cases h1; cases h2
  exact h pins s σ H _ _ v u Q I rx ry ⟨_, _, rfl, rfl, q _ H μ (.refl _ _) (.bl _) h3⟩
abbrev vLt : F2 := vCmpI fun i j => decide (i < j)
abbrev vLe : F2 := vCmpI fun i j => decide (i ≤ j)
abbrev vGt : F2 := vCmpI fun i j => decide (j < i)
abbrev vGe : F2 := vCmpI fun i j => decide (j ≤ i)
theorem op_vLt : OpL X E (compareOp .Lt) vLt := op_cmpI op_lt
theorem op_vLe : OpL X E (compareOp .LtE) vLe := op_cmpI op_le
theorem op_vGt : OpL X E (compareOp .Gt) vGt := op_cmpI op_gt
theorem op_vGe : OpL X E (compareOp .GtE) vGe := op_cmpI op_ge

/-! ### equal -/
def pyAll (f : D → Option PyData) : List D → Option (List PyData)
  | [] => some []
  | d :: ds => match f d, pyAll f ds with
    | some a, some b => some (a :: b)
    | _, _ => none
def pyOf : Nat → Store → D → Option PyData
  | 0, _, _ => none
  | n + 1, st, d => match d with
    | .non => some .none
    | .bl b => some (.bool b)
    | .int i => some (.int i)
    | .str x => if PyData.strOk x = true then some (.str x) else none
    | .tup xs => (pyAll (pyOf n st) xs).map .tuple
    | .rl xs => (pyAll (pyOf n st) xs).map .list
    | .ref k => match st[k]? with
      | some (.lst xs) => (pyAll (pyOf n st) xs).map .list
      | _ => none
theorem pyOf_dp {K : PySem.W.Frag} {H : Hp} {μ : List Addr} {st : Store} (s : RepS K H μ st) : ∀ (n : Nat) (d : D) (v : V) (p : PyData), Rep K H μ d v → pyOf n st d = some p → Dp K H v p ∧ p.canLay0 = true ∧ p.depth ≤ n
  | 0, _, _, _, _, h => by cases h
  | n + 1, d, v, p, r, h => by
    have all : ∀ (ds : List D) (vs : List V) (ps : List PyData), Reps K H μ ds vs → pyAll (pyOf n st) ds = some ps → DpAll K H vs ps ∧ PyData.canLayAll0 ps = true ∧ PyData.depthAll ps ≤ n := by
      intro ds
      induction ds with
      | nil =>
        intro vs ps r h
        cases r
        cases h
        exact ⟨.nil, rfl, Nat.zero_le _⟩
      | cons d ds ih =>
        intro vs ps r h
        cases r with
        | cons r1 r2 =>
          simp only [pyAll] at h
          split at h
          · rename_i a b e1 e2
            cases h
            obtain ⟨h1, h2, h3⟩ := pyOf_dp s n d _ a r1 e1
            obtain ⟨k1, k2, k3⟩ := ih _ _ r2 e2
            exact ⟨.cons h1 k1, by simp only [PyData.canLayAll0, h2, k2, Bool.and_self], by simp only [PyData.depthAll]; omega⟩
          · cases h
    cases d with
    | non => cases r; cases h; exact ⟨.non, rfl, Nat.zero_le _⟩
    | bl b => cases r; cases h; exact ⟨.bl b, rfl, Nat.zero_le _⟩
    | int i => cases r; cases h; exact ⟨.int i, rfl, Nat.zero_le _⟩
    | str x =>
      cases r
      simp only [pyOf] at h
      split at h
      · rename_i hx
        cases h
        exact ⟨.str x, hx, Nat.zero_le _⟩
      · cases h
    | tup xs =>
      cases r with
      | tup t r1 =>
        simp only [pyOf] at h
        cases e : pyAll (pyOf n st) xs with
        | none => rw [e] at h; cases h
        | some ps =>
          rw [e] at h; cases h
          obtain ⟨h1, h2, h3⟩ := all xs _ ps r1 e
          exact ⟨.tup t.sq h1, h2, by simp only [PyData.depth]; omega⟩
    | rl xs =>
      cases r with
      | rl t r1 =>
        simp only [pyOf] at h
        cases e : pyAll (pyOf n st) xs with
        | none => rw [e] at h; cases h
        | some ps =>
          rw [e] at h; cases h
          obtain ⟨h1, h2, h3⟩ := all xs _ ps r1 e
          exact ⟨.lst t.sq h1, h2, by simp only [PyData.depth]; omega⟩
    | ref k =>
      cases r with
      | ref e1 =>
        simp only [pyOf] at h
        split at h
        · rename_i xs q1
          obtain ⟨a, f1, vs, g1, r1⟩ := s.at q1
          rw [e1] at f1; cases f1
          cases e : pyAll (pyOf n st) xs with
          | none => rw [e] at h; cases h
          | some ps =>
            rw [e] at h; cases h
            obtain ⟨h1, h2, h3⟩ := all xs _ ps r1 e
            exact ⟨.lst (.of g1) h1, h2, by simp only [PyData.depth]; omega⟩
        · cases h
theorem pyOf_shaped {K : PySem.W.Frag} {H : Hp} {μ : List Addr} {st : Store} (s : RepS K H μ st) {n : Nat} {d : D} {v : V} {p : PyData} (hn : n ≤ 64) (r : Rep K H μ d v) (h : pyOf n st d = some p) : Dp K H v p ∧ SeqAt.shaped p = true := by
  obtain ⟨h1, h2, h3⟩ := pyOf_dp s n d v p r h
  exact ⟨h1, by unfold SeqAt.shaped; rw [h2, decide_eq_true (Nat.le_trans h3 hn)]; rfl⟩
def eqB (st : Store) (x y : D) : Option Bool := match x, y with
  | .int i, .int j => some (decide (i = j))
  | .str a, .str b => some (decide (a = b))
  | .bl a, .bl b => some (decide (a = b))
  | .non, .non => some true
  | .non, .int _ => some false | .int _, .non => some false | .non, .bl _ => some false | .bl _, .non => some false | .non, .str _ => some false | .str _, .non => some false
  | .int _, .str _ => some false | .str _, .int _ => some false | .bl _, .str _ => some false | .str _, .bl _ => some false
  | x, y => match pyOf 9 st x, pyOf 9 st y with
    | some a, some b => some (PyData.eqv a b)
    | _, _ => none
def vEq : F2 := fun x y st => match eqB st x y with
  | some b => .ok (.bl b) st
  | none => .stuck
def vNe : F2 := fun x y st => match eqB st x y with
  | some b => .ok (.bl (!b)) st
  | none => .stuck
theorem eqB_ok {K : PySem.W.Frag} {H : Hp} {μ : List Addr} {st : Store} (s : RepS K H μ st) {x y : D} {v w : V} {b : Bool} (r1 : Rep K H μ x v) (r2 : Rep K H μ y w) (h : eqB st x y = some b) :
    (scal v w = true ∧ b = decide (v = w)) ∨ ∃ d e, Dp K H v d ∧ Dp K H w e ∧ SeqAt.shaped d = true ∧ SeqAt.shaped e = true ∧ b = PyData.eqv d e := by
  have deep : (match pyOf 9 st x, pyOf 9 st y with
    | some a, some b => some (PyData.eqv a b)
    | _, _ => none) = some b → ∃ d e, Dp K H v d ∧ Dp K H w e ∧ SeqAt.shaped d = true ∧ SeqAt.shaped e = true ∧ b = PyData.eqv d e := by
    intro h
    split at h
    · rename_i p q e1 e2
      cases h
      obtain ⟨a1, a2⟩ := pyOf_shaped s (by decide) r1 e1
      obtain ⟨b1, b2⟩ := pyOf_shaped s (by decide) r2 e2
      exact ⟨p, q, a1, b1, a2, b2, rfl⟩
    · cases h
  cases x <;> cases y <;> first
    | (cases r1; cases r2; simp only [eqB] at h; cases h; refine .inl ⟨rfl, ?_⟩; simp)
    | exact .inr (deep h)
theorem op_vEq (hu : X.A.units + 64 < cLine) : OpL X E (compareOp .Eq) vEq := by
  intro pins s σ H x y v u Q I rx ry ⟨d, d', st, μ, h1, h2, h3, p⟩
  unfold vEq at p
  cases e : eqB st d d' with
  | none => rw [e] at p; exact p.elim
  | some b =>
    rw [e] at p
    have q := p (.bl b) H μ (.refl _ _) (.bl b) h3
    rcases eqB_ok h3 h1 h2 e with ⟨hs, hb⟩ | ⟨d1, e1, h4, h5, h6, h7, hb⟩
    · subst hb; exact op_eq pins s σ H _ _ v u Q I rx ry ⟨hs, q⟩
    · subst hb; exact op_eqD hu pins s σ H _ _ v u Q I rx ry ⟨d1, e1, h4, h5, h6, h7, q⟩
theorem op_vNe (hu : X.A.units + 64 < cLine) : OpL X E (compareOp .NotEq) vNe := by
  intro pins s σ H x y v u Q I rx ry ⟨d, d', st, μ, h1, h2, h3, p⟩
  unfold vNe at p
  cases e : eqB st d d' with
  | none => rw [e] at p; exact p.elim
  | some b =>
    rw [e] at p
    have q := p (.bl !b) H μ (.refl _ _) (.bl _) h3
    rcases eqB_ok h3 h1 h2 e with ⟨hs, hb⟩ | ⟨d1, e1, h4, h5, h6, h7, hb⟩
    · subst hb; exact op_ne pins s σ H _ _ v u Q I rx ry ⟨hs, q⟩
    · subst hb; exact op_neD hu pins s σ H _ _ v u Q I rx ry ⟨d1, e1, h4, h5, h6, h7, q⟩
/-! ### is None, is a bool -/
def vIs : F2 := fun x y st => match x, y with
  | x, .non => .ok (.bl (match x with | .non => true | _ => false)) st
  | .bl a, .bl b => .ok (.bl (decide (a = b))) st
  | _, _ => .stuck
def vIsNot : F2 := fun x y st => match x, y with
  | x, .non => .ok (.bl (match x with | .non => false | _ => true)) st
  | .bl a, .bl b => .ok (.bl (!decide (a = b))) st
  | _, _ => .stuck
theorem op_vIs : OpL X E (compareOp .Is) vIs := by
  intro pins s σ H x y v u Q I rx ry ⟨d, d', st, μ, h1, h2, h3, p⟩
  cases d' with
  | non =>
    cases h2
    refine op_isN pins s σ H _ _ v u Q I rx ry ⟨rfl, ?_⟩
    cases d <;> cases h1 <;> exact p _ H μ (.refl _ _) (.bl _) h3
  | bl b =>
    cases d with
    | bl a => cases h1; cases h2; exact op_isBl pins s σ H _ _ v u Q I rx ry ⟨_, _, rfl, rfl, p _ H μ (.refl _ _) (.bl _) h3⟩
    | _ => exact (show False from p).elim
  | _ => cases d <;> exact (show False from p).elim
theorem op_vIsNot : OpL X E (compareOp .IsNot) vIsNot := by
  intro pins s σ H x y v u Q I rx ry ⟨d, d', st, μ, h1, h2, h3, p⟩
  cases d' with
  | non =>
    cases h2
    refine op_notN pins s σ H _ _ v u Q I rx ry ⟨rfl, ?_⟩
    cases d <;> cases h1 <;> exact p _ H μ (.refl _ _) (.bl _) h3
  | bl b =>
    cases d with
    | bl a => cases h1; cases h2; exact op_notBl pins s σ H _ _ v u Q I rx ry ⟨_, _, rfl, rfl, p _ H μ (.refl _ _) (.bl _) h3⟩
    | _ => exact (show False from p).elim
  | _ => cases d <;> exact (show False from p).elim

end
/-! an index that is a bool -/
section
variable {prog : Program} {w : World} {A : Around} {E : Value → Shared → Prop} {s : Shared}
theorem asIx_bl (b : Bool) : asIndex (.bool b) = pure (if b then 1 else 0) := by cases b <;> rfl
theorem getItem_tup_bl {t : Addr} {items : Array Value} {b : Bool} {x : Value} {Q : Value → Shared → Prop} (ht : IsTup s.heap t items)
    (hj : seqIndex? (if b then 1 else 0) items.size = some b.toNat) (hx : items[b.toNat]? = some x) (h : Q x s) : wpAny (model prog w) A (getItem (.ref t) (.bool b)) Q E s := by
  unfold getItem
  try with_reducible refine wpAny_holding ?_
  first | refine wpAny_bind (wpAny_pure ?_) | skip
  refine wpAny_bind (wpAny_sequenceKey ht.typeIs (by decide) ?_)
  refine wpAny_bind (wpAny_callSpecial?_slot (name := Str.ofString "__getitem__") ht.typeIs slot_tuple_getitem
    (wpAny_call_entry slot_tuple_getitem ht.typeIs entry_tuple_getitem ?_ (args_tuple_getitem _ _)))
  show wpAny _ _ (Builtin.Tuple.tupleItemsOf (.ref t) >>= _) _ _ s
  refine wpAny_bind (tupleItemsOf_ ht ?_)
  refine wpAny_bind (wpAny_typeOf (PyProof.Rows.typeIs_bool s b) ?_)
  rw [if_neg (by decide)]
  refine wpAny_bind (wpAny_specialOf (T := "bool") (PyProof.Rows.typeIs_bool s b) PySem.F.slot_bool_index.lookup ?_)
  rw [if_neg (by simp)]
  refine wpAny_bind (wpAny_of_eq (a := if b then 1 else 0) (by cases b <;> rfl) ?_)
  rw [if_neg (by simp only [Bool.or_eq_true, decide_eq_true_eq]; split <;> omega)]
  simp only [hj, Option.bind_some, hx]
  exact wpAny_pure ⟨_, rfl, wpAny_pure h⟩
theorem getItem_str_bl {z : Str} {t : Tok} {b : Bool} {c : Nat} {Q : Value → Shared → Prop} (hc : (seqIndex? (if b then 1 else 0) z.length).bind (z.cps[·]?) = some c)
    (h : Q (.str ⟨#[c]⟩ s.toks) { s with toks := s.toks + 1 }) : wpAny (model prog w) A (getItem (.str z t) (.bool b)) Q E s := by
  refine PyProof.Rows.getItem_slot (typeIs_str s z t) (by decide) slot_str_getitem (wpAny_call_entry slot_str_getitem (typeIs_str s z t) entry_str_getitem ?_ (args_str_getitem _ _))
  refine wpAny_bind (wpAny_pure ?_)
  refine wpAny_bind (wpAny_typeOf (PyProof.Rows.typeIs_bool s b) ?_)
  rw [if_neg (by decide)]
  refine wpAny_bind (wpAny_specialOf (T := "bool") (PyProof.Rows.typeIs_bool s b) PySem.F.slot_bool_index.lookup ?_)
  rw [if_neg (by simp)]
  refine wpAny_bind (wpAny_of_eq (a := if b then 1 else 0) (by cases b <;> rfl) ?_)
  rw [if_neg (by simp only [Bool.or_eq_true, decide_eq_true_eq]; split <;> omega)]
  rw [hc]
  exact wpAny_bind (wpAny_mkStr (wpAny_pure ⟨_, rfl, h⟩))
theorem getItem_list_bl {l : Addr} {items : Array Value} {b : Bool} {x : Value} {Q : Value → Shared → Prop} (hl : s.heap.IsList l items)
    (hx : items[b.toNat]? = some x) (h : Q x s) : wpAny (model prog w) A (getItem (.ref l) (.bool b)) Q E s := by
  obtain ⟨o, ho, hc, ne, hd⟩ := id hl
  unfold getItem
  try with_reducible refine wpAny_holding ?_
  first | refine wpAny_bind (wpAny_pure ?_) | skip
  refine wpAny_bind (wpAny_sequenceKey hl.typeIs (by decide) ?_)
  refine wpAny_bind (wpAny_callSpecial?_slot (name := Str.ofString "__getitem__") hl.typeIs slot_list_getitem
    (wpAny_call_entry slot_list_getitem hl.typeIs entry_list_getitem ?_ (args_list_getitem _ _)))
  show wpAny _ _ (Builtin.List.listSubscript? (.bool b) >>= _) _ _ s
  have hsub : ∀ {A : Around} {Q : Option Int → Shared → Prop}, Q (some (if b then 1 else 0)) s → wpAny (model prog w) A (Builtin.List.listSubscript? (.bool b)) Q E s := by
    intro A Q h
    unfold Builtin.List.listSubscript?
    refine wpAny_bind (wpAny_specialOf (T := "bool") (PyProof.Rows.typeIs_bool s b) PySem.F.slot_bool_index.lookup ?_)
    rw [if_neg (by simp)]
    refine wpAny_bind (wpAny_of_eq (a := if b then 1 else 0) (by cases b <;> rfl) ?_)
    rw [if_neg (by cases b <;> decide)]
    exact wpAny_pure h
  refine wpAny_bind (hsub ?_)
  cases b
  all_goals
    first | (show wpAny _ _ ((seqItemAt l 0 >>= fun r => pure (r.map (0, ·))) >>= _) _ _ s) | (show wpAny _ _ ((seqItemAt l 1 >>= fun r => pure (r.map (1, ·))) >>= _) _ _ s)
    refine wpAny_bind (wpAny_bind (wpAny_seqItemAt ho hd (wpAny_pure ?_)))
    simp only [Bool.toNat_false, Bool.toNat_true] at hx
    rw [hx]
    first
      | exact wpAny_bind (wpAny_pure (wpAny_pure ⟨x, rfl, wpAny_pure h⟩))
      | exact wpAny_pure ⟨x, rfl, wpAny_pure h⟩
end
section
variable {X : Cx}
def rIxLb (K : PySem.W.Frag) : R2 := fun x y H Q => ∃ p xs b v, x = .ref p ∧ y = .bl b ∧ SqL K H p xs ∧ xs[b.toNat]? = some v ∧ Q v H
def rIxTb (K : PySem.W.Frag) : R2 := fun x y H Q => ∃ p xs b v, x = .ref p ∧ y = .bl b ∧ SqT K H p xs ∧ xs[b.toNat]? = some v ∧ Q v H
def rIxSb : R2 := fun x y H Q => ∃ z b c, x = .str z ∧ y = .bl b ∧ z.length ≤ sizeLine ∧ z.cps.toList[b.toNat]? = some c ∧ Q (.str ⟨#[c]⟩) H
theorem ix_list_b : IxR X (rIxLb X.K) := by
  intro value slice pins s σ H x y v u Q I rx ry h hs
  obtain ⟨p, xs, b, z, rfl, rfl, hq, he, q⟩ := h
  cases rx
  cases ry
  obtain ⟨its, r, pl, hz⟩ := I.list hq
  obtain ⟨w, ew, rw'⟩ := r.get he
  have fin : EP X pins σ Q w s := ⟨z, H, I, rw', q⟩
  exact subscriptTail_builtinR (x := w) pl.isList.typeIs slot_list_getitem.lookup
      (getItem_list_bl (Q := fun r s' => r = w ∧ EP X pins σ Q r s') pl.isList (by simpa using ew) ⟨rfl, fin⟩) hs
theorem ix_tup_b : IxR X (rIxTb X.K) := by
  intro value slice pins s σ H x y v u Q I rx ry h hs
  obtain ⟨p, xs, b, z, rfl, rfl, hq, he, q⟩ := h
  cases rx
  cases ry
  obtain ⟨its, r, pl, hz⟩ := I.tuple hq
  obtain ⟨w, ew, rw'⟩ := r.get he
  have hl := r.length
  have hlt := (List.getElem?_eq_some_iff.mp he).1
  have fin : EP X pins σ Q w s := ⟨z, H, I, rw', q⟩
  exact subscriptTail_builtinR (x := w) pl.typeIs slot_tuple_getitem.lookup
    (getItem_tup_bl (Q := fun r s' => r = w ∧ EP X pins σ Q r s') pl (by
      rw [List.size_toArray, ← hl]
      cases b
      · exact seqIndex_of (by decide) (by simpa using hlt)
      · exact seqIndex_of (by decide) (by simp at hlt ⊢; omega)) (by simpa using ew) ⟨rfl, fin⟩) hs
theorem ix_str_b : IxR X rIxSb := by
  intro value slice pins s σ H x y v u Q I rx ry h hs
  obtain ⟨z, b, c, rfl, rfl, hz, he, q⟩ := h
  obtain ⟨t, rfl⟩ := rx
  cases ry
  have hl : z.cps.toList.length = z.length := by simp [Str.length]
  have hlt := (List.getElem?_eq_some_iff.mp he).1
  rw [hl] at hlt
  exact tail_any (typeIs_str s z t) slot_str_getitem.lookup (getItem_str_bl (c := c) (by
    have e : seqIndex? (if b then 1 else 0) z.length = some b.toNat := by
      cases b
      · exact seqIndex_of (by decide) (by simpa using hlt)
      · exact seqIndex_of (by decide) (by simp at hlt ⊢; omega)
    rw [e]; simpa using he) ⟨.str ⟨#[c]⟩, H, I.tok _, ⟨_, rfl⟩, q⟩) hs
end
section
variable {X : Cx} {E : XK} {pos : Pos}
/-! ### subscripts -/
def IxL (X : Cx) (E : XK) (F : F2) : Prop := IxR X (lift2 X.K E F)
theorem le_ix {a b : Expr} {F : F2} {f g : SE} (hF : IxL X E F) (ha : LE X E a f) (hb : LE X E b g) (hs : PlainIx b := by exact fun _ _ => rfl) : LE X E (.Subscript a b pos) (s2 F f g) :=
  ⟨peMono (pe_ix hF ha.pe hb.pe hs) fun _ _ _ h => lift_s2 h⟩
theorem Reps.atI {K : PySem.W.Frag} {H : Hp} {μ : List Addr} {ds : List D} {vs : List V} {i : Int} {d : D} (r : Reps K H μ ds vs) (h : atI ds i = some d) : ∃ v, L2.atI vs i = some v ∧ Rep K H μ d v := by
  unfold L2.atI at h ⊢
  rw [r.length] at h
  cases e : ixN vs.length i with
  | none => rw [e] at h; cases h
  | some j =>
    rw [e] at h
    exact r.get h
def vIx : F2 := fun x y st => match x, y with
  | .tup xs, .int i => match L2.atI xs i with
    | some d => .ok d st
    | none => .stuck
  | .tup xs, .bl b => match xs[b.toNat]? with
    | some d => .ok d st
    | none => .stuck
  | .rl xs, .int i => match L2.atI xs i with
    | some d => .ok d st
    | none => .stuck
  | .rl xs, .bl b => match xs[b.toNat]? with
    | some d => .ok d st
    | none => .stuck
  | .str z, .int i => if z.length ≤ sizeLine then match L2.atI z.cps.toList i with
    | some c => .ok (.str ⟨#[c]⟩) st
    | none => .stuck else .stuck
  | .str z, .bl b => if z.length ≤ sizeLine then match z.cps.toList[b.toNat]? with
    | some c => .ok (.str ⟨#[c]⟩) st
    | none => .stuck else .stuck
  | .ref n, .int i => match st[n]? with
    | some (.lst xs) => match L2.atI xs i with
      | some d => .ok d st
      | none => .stuck
    | _ => .stuck
  | .ref n, .bl b => match st[n]? with
    | some (.lst xs) => match xs[b.toNat]? with
      | some d => .ok d st
      | none => .stuck
    | _ => .stuck
  | _, _ => .stuck
theorem ix_vIx : IxL X E vIx := by
  intro value slice pins s σ H x y v u Q I rx ry ⟨d, d', st, μ, h1, h2, h3, p⟩ hs
  cases d <;> cases d' <;> first | exact (show False from p).elim | skip
  · cases h1; cases h2
    simp only [vIx] at p
    split at p
    · split at p
      · exact ix_str_b value slice pins s σ H _ _ v u Q I rx ry ⟨_, _, _, rfl, rfl, by assumption, by assumption, p _ H μ (.refl _ _) (.str _) h3⟩ hs
      · exact p.elim
    · exact p.elim
  · cases h1; cases h2
    simp only [vIx] at p
    split at p
    · split at p
      · exact ix_str value slice pins s σ H _ _ v u Q I rx ry ⟨_, _, _, rfl, rfl, by assumption, by assumption, p _ H μ (.refl _ _) (.str _) h3⟩ hs
      · exact p.elim
    · exact p.elim
  · cases h2
    simp only [vIx] at p
    cases h1 with
    | tup t r =>
      split at p
      · rename_i e
        obtain ⟨z, e1, r1⟩ := r.get e
        exact ix_tup_b value slice pins s σ H _ _ v u Q I rx ry ⟨_, _, _, _, rfl, rfl, t.sq, e1, p _ H μ (.refl _ _) r1 h3⟩ hs
      · exact p.elim
  · cases h2
    simp only [vIx] at p
    cases h1 with
    | tup t r =>
      split at p
      · rename_i e
        obtain ⟨z, e1, r1⟩ := r.atI e
        exact ix_tup value slice pins s σ H _ _ v u Q I rx ry ⟨_, _, _, _, rfl, rfl, t.sq, e1, p _ H μ (.refl _ _) r1 h3⟩ hs
      · exact p.elim
  · cases h2
    simp only [vIx] at p
    cases h1 with
    | rl t r =>
      split at p
      · rename_i e
        obtain ⟨z, e1, r1⟩ := r.get e
        exact ix_list_b value slice pins s σ H _ _ v u Q I rx ry ⟨_, _, _, _, rfl, rfl, t.sq, e1, p _ H μ (.refl _ _) r1 h3⟩ hs
      · exact p.elim
  · cases h2
    simp only [vIx] at p
    cases h1 with
    | rl t r =>
      split at p
      · rename_i e
        obtain ⟨z, e1, r1⟩ := r.atI e
        exact ix_list value slice pins s σ H _ _ v u Q I rx ry ⟨_, _, _, _, rfl, rfl, t.sq, e1, p _ H μ (.refl _ _) r1 h3⟩ hs
      · exact p.elim
  · cases h2
    simp only [vIx] at p
    cases h1 with
    | ref e1 =>
      split at p
      · rename_i xs q1
        obtain ⟨a, f1, vs, g1, r⟩ := h3.at q1
        rw [e1] at f1; cases f1
        split at p
        · rename_i e
          obtain ⟨z, e1, r1⟩ := r.get e
          exact ix_list_b value slice pins s σ H _ _ v u Q I rx ry ⟨_, _, _, _, rfl, rfl, .of g1, e1, p _ H μ (.refl _ _) r1 h3⟩ hs
        · exact p.elim
      · exact p.elim
  · cases h2
    simp only [vIx] at p
    cases h1 with
    | ref e1 =>
      split at p
      · rename_i xs q1
        obtain ⟨a, f1, vs, g1, r⟩ := h3.at q1
        rw [e1] at f1; cases f1
        split at p
        · rename_i e
          obtain ⟨z, e1, r1⟩ := r.atI e
          exact ix_list value slice pins s σ H _ _ v u Q I rx ry ⟨_, _, _, _, rfl, rfl, .of g1, e1, p _ H μ (.refl _ _) r1 h3⟩ hs
        · exact p.elim
      · exact p.elim

/-! ### slices -/
abbrev SO' := Envr → Store → Res (Option Int)
def PostO (K : PySem.W.Frag) (H : Hp) (μ : List Addr) (r : Res (Option Int)) (Q : Option Int → Hp → Prop) (E : XK) : Prop :=
  match r with
  | .ok b st => ∀ H' μ', Ext H μ H' μ' → RepS K H' μ' st → Q b H'
  | .exc x st => ∀ c od H' μ', Ext H μ H' μ' → RepX K H' μ' x c od → RepS K H' μ' st → E c od H'
  | .stuck => False
theorem PostO.ext {K : PySem.W.Frag} {H H1 : Hp} {μ μ1 : List Addr} {r : Res (Option Int)} {Q : Option Int → Hp → Prop} (x : Ext H μ H1 μ1) (p : PostO K H μ r Q E) : PostO K H1 μ1 r Q E := by
  cases r with
  | ok d st => exact fun H' μ' e a => p H' μ' (x.trans e) a
  | exc y st => exact fun c od H' μ' e a b => p c od H' μ' (x.trans e) a b
  | stuck => exact p
def liftO (K : PySem.W.Frag) (E : XK) (f : SO') : TO := fun σ H Q => ∃ ρ st μ, RepE K H μ ρ σ ∧ RepS K H μ st ∧ PostO K H μ (f ρ st) Q E
structure LO (X : Cx) (E : XK) (e : Option Expr) (f : SO') : Prop where
  po : PO X e (liftO X.K E f)
theorem poMono {e : Option Expr} {t t' : TO} (h : PO X e t) (m : ∀ σ H Q, t' σ H Q → t σ H Q) : PO X e t' := ⟨fun pins s σ H Q I q => h.run pins s σ H Q I (m σ H Q q)⟩
def sNoPart : SO' := fun _ st => .ok none st
def sPart (f : SE) : SO' := fun ρ st => (f ρ st).bind fun d st => match d with
  | .int i => .ok (some i) st
  | _ => .stuck
theorem lo_none : LO X E none sNoPart := ⟨poMono po_none fun σ H Q ⟨ρ, st, μ, re, rs, p⟩ => p H μ (.refl _ _) rs⟩
theorem PostD.bindO {K : PySem.W.Frag} {H : Hp} {μ : List Addr} {r : Res D} {f : D → Store → Res (Option Int)} {Q : Option Int → Hp → Prop} (p : PostO K H μ (r.bind f) Q E) : Post K H μ r (Then K H μ fun d st1 H1 μ1 => PostO K H1 μ1 (f d st1) Q E) E := by
  cases r with
  | ok d st => exact fun v H' μ' e a b => ⟨d, st, μ', e, a, b, p.ext e⟩
  | exc y st => exact p
  | stuck => exact p
theorem lo_some {e : Expr} {f : SE} (h : LE X E e f) : LO X E (some e) (sPart f) := ⟨poMono (po_some h.pe) fun σ H Q ⟨ρ, st, μ, re, rs, p⟩ =>
  ⟨ρ, st, μ, re, rs, (PostD.bindO p).mono fun v H1 ⟨d, st1, μ1, x1, r1, s1, p1⟩ => by
    cases d with
    | int i => cases r1; exact ⟨i, rfl, p1 H1 μ1 (.refl _ _) s1⟩
    | _ => exact (show False from p1).elim⟩⟩
def ThenO (K : PySem.W.Frag) (H : Hp) (μ : List Addr) (R : Option Int → Store → Hp → List Addr → Prop) (v : Option Int) (H1 : Hp) : Prop :=
  ∃ st1 μ1, Ext H μ H1 μ1 ∧ RepS K H1 μ1 st1 ∧ R v st1 H1 μ1
theorem PostO.bindD {K : PySem.W.Frag} {H : Hp} {μ : List Addr} {r : Res (Option Int)} {f : Option Int → Store → Res D} {Q : VK} (p : Post K H μ (r.bind f) Q E) : PostO K H μ r (ThenO K H μ fun d st1 H1 μ1 => Post K H1 μ1 (f d st1) Q E) E := by
  cases r with
  | ok d st => exact fun H' μ' e b => ⟨st, μ', e, b, p.ext e⟩
  | exc y st => exact p
  | stuck => exact p
theorem PostO.mono {K : PySem.W.Frag} {H : Hp} {μ : List Addr} {r : Res (Option Int)} {Q Q' : Option Int → Hp → Prop} (p : PostO K H μ r Q E) (h : ∀ v H', Q v H' → Q' v H') : PostO K H μ r Q' E := by
  cases r with
  | ok d st => exact fun H' μ' e b => h d H' (p H' μ' e b)
  | exc y st => exact p
  | stuck => exact p
abbrev FS := D → Option Int → Option Int → Store → Res D
def sSlice (F : FS) (f : SE) (g h : SO') : SE := fun ρ st => (f ρ st).bind fun d st => (g ρ st).bind fun lo st => (h ρ st).bind fun hi st => F d lo hi st
def liftS3 (K : PySem.W.Frag) (E : XK) (F : FS) : V → Option Int → Option Int → Hp → VK → Prop := fun x lo hi H Q => ∃ d st μ, Rep K H μ d x ∧ RepS K H μ st ∧ Post K H μ (F d lo hi st) Q E
theorem le_slice {e : Expr} {lo hi : Option Expr} {p2 : Pos} {F : FS} {f : SE} {g h : SO'} (hF : SlR X (liftS3 X.K E F)) (he : LE X E e f) (hl : LO X E lo g) (hh : LO X E hi h) : LE X E (.Subscript e (.Slice lo hi none p2) pos) (sSlice F f g h) :=
  ⟨peMono (pe_slice hF he.pe hl.po hh.po) fun σ H Q ⟨ρ, st, μ, re, rs, p⟩ => ⟨ρ, st, μ, re, rs, (Post.bind p).mono fun v H1 ⟨d, st1, μ1, x1, r1, s1, p1⟩ =>
    ⟨ρ, st1, μ1, re.ext x1, s1, (PostO.bindD p1).mono fun l H2 ⟨st2, μ2, x2, s2, p2⟩ => ⟨ρ, st2, μ2, (re.ext x1).ext x2, s2, (PostO.bindD p2).mono fun l2 H3 ⟨st3, μ3, x3, s3, p3⟩ =>
      ⟨d, st3, μ3, (r1.ext x2).ext x3, s3, p3⟩⟩⟩⟩⟩
def cutD (xs : List D) (lo hi : Option Int) : List D := (xs.drop (HT.sIx xs.length 0 lo)).take (HT.sIx xs.length xs.length hi - HT.sIx xs.length 0 lo)
theorem Reps.cutV {K : PySem.W.Frag} {H : Hp} {μ : List Addr} {ds : List D} {vs : List V} (r : Reps K H μ ds vs) (lo hi : Option Int) : Reps K H μ (cutD ds lo hi) (L2.cutV vs lo hi) := by
  unfold cutD L2.cutV
  rw [r.length]
  exact (r.drop _).take _
def vSlice : FS := fun d lo hi st => match d with
  | .tup xs => .ok (.tup (cutD xs lo hi)) st
  | .rl xs => .ok (.ref st.length) (st ++ [.lst (cutD xs lo hi)])
  | .str z => if z.length ≤ sizeLine then .ok (.str (cutS z lo hi)) st else .stuck
  | .ref n => match st[n]? with
    | some (.lst xs) => .ok (.ref st.length) (st ++ [.lst (cutD xs lo hi)])
    | _ => .stuck
  | _ => .stuck
theorem cutD_all {xs : List D} {lo hi : Option Int} (h : HT.sIx xs.length 0 lo = 0 ∧ HT.sIx xs.length xs.length hi = xs.length) : cutD xs lo hi = xs := by
  unfold cutD
  rw [h.1, h.2]
  simp
theorem sl_vSlice : SlR X (liftS3 X.K E vSlice) := by
  intro pins s σ H x v vl vu lo hi sl Q I rx hs pl pu ⟨d, st, μ, h1, h3, p⟩
  cases d <;> first | exact (show False from p).elim | skip
  · cases h1
    simp only [vSlice] at p
    split at p
    · exact sl_str pins s σ H _ v vl vu lo hi sl Q I rx hs pl pu ⟨_, rfl, by assumption, p _ H μ (.refl _ _) (.str _) h3⟩
    · exact p.elim
  · cases h1 with
    | tup t r =>
      refine sl_tupA pins s σ H _ v vl vu lo hi sl Q I rx hs pl pu ⟨_, _, rfl, t.sq, fun hw => ?_, fun hw a ha => post_tup p (r.cutV lo hi) h3 ha⟩
      rw [← r.length] at hw
      refine p _ H μ (.refl _ _) ?_ h3
      rw [cutD_all hw]
      exact .tup t r
  · cases h1 with
    | rl t r => exact sl_list pins s σ H _ v vl vu lo hi sl Q I rx hs pl pu ⟨_, _, rfl, t.sq, fun a ha => post_lst p (r.cutV lo hi) h3 ha⟩
  · simp only [vSlice] at p
    cases h1 with
    | ref e1 =>
      split at p
      · rename_i xs q1
        obtain ⟨a, f1, vs, g1, r⟩ := h3.at q1
        rw [e1] at f1; cases f1
        exact sl_list pins s σ H _ v vl vu lo hi sl Q I rx hs pl pu ⟨_, _, rfl, .of g1, fun a ha => post_lst p (r.cutV lo hi) h3 ha⟩
      · exact p.elim
end
end L3

namespace L3
open PySem PySem.Spec PyProof.Rows L2
section
variable {X : Cx} {E : XK} {pos : Pos}
/-! ### swept -/
noncomputable def sSwp (f : SE) : SE := fun ρ st => swept st (f ρ st)
theorem post_swept {K : PySem.W.Frag} {H : Hp} {μ : List Addr} {st : Store} {r : Res D} {Q : VK} (s : RepS K H μ st) (p : Post K H μ (swept st r) Q E) : Post K H μ r Q E := by
  cases r with
  | ok d st' =>
    intro v H' μ' x r' s'
    unfold swept at p
    simp only at p
    split at p
    · rename_i hc
      obtain ⟨hl, hd, hq⟩ := hc
      obtain ⟨x2, s2⟩ := s.sweep x s' hq hl
      refine p v H' μ x2 ?_ s2
      obtain ⟨m, e, f⟩ := x.pre
      rw [e] at r'
      exact r'.cut (by rw [s.len]; exact hd)
    · exact p v H' μ' x r' s'
  | exc y st' => exact p
  | stuck => exact p
theorem le_swp {e : Expr} {f : SE} (h : LE X E e f) : LE X E e (sSwp f) := ⟨peMono h.pe fun σ H Q ⟨ρ, st, μ, re, rs, p⟩ => ⟨ρ, st, μ, re, rs, post_swept rs p⟩⟩

/-! ### built-ins by name -/
abbrev FL := List D → Store → Res D
def sCB (F : FL) (g : SL) : SE := fun ρ st => (g ρ st).bind F
def liftC (K : PySem.W.Frag) (E : XK) (F : FL) : List V → Hp → VK → Prop := fun vs H Q => ∃ ds st μ, Reps K H μ ds vs ∧ RepS K H μ st ∧ Post K H μ (F ds st) Q E
def CallL (X : Cx) (E : XK) (f : Value) (F : FL) : Prop := CallR X f (liftC X.K E F)
theorem lift_sCB {K : PySem.W.Frag} {F : FL} {g : SL} {σ : L2.St} {H : Hp} {Q : VK} (h : lift K E (sCB F g) σ H Q) : tCB (liftC K E F) (liftL K E g) σ H Q := by
  obtain ⟨ρ, st, μ, re, rs, p⟩ := h
  exact ⟨ρ, st, μ, re, rs, (PostL.bind p).mono fun v H1 ⟨d, st1, μ1, x1, r1, s1, p1⟩ => ⟨d, st1, μ1, r1, s1, p1⟩⟩
section
variable {x : Str} {p : Pos} {e : Expr} {es : List Expr} {g : SL} {id T : String} {F : FL}
theorem le_callB (hc : CallL X E (.builtin id) F) (hg : Gl X x) (hm : X.mg x = none) (hv : bootBuiltins x = some (.builtin id)) (ha : LL X E (e :: es) g) (hn : x ≠ "__name__" := by decide) (hdb : (x == ("__debug__" : Str)) = false := by decide)
    (he : starEach (e :: es) X.env = (false, eval e X.env) :: starEach es X.env := by rfl) (hpl : (backTo pos (starEach es X.env)).any (·.1) = false := by rfl) : LE X E (.Call (.Name x p) (e :: es) [] pos) (sCB F g) :=
  ⟨peMono (pe_callB hc hg hm hv ha.pa hn hdb he hpl) fun _ _ _ h => lift_sCB h⟩
theorem le_callTy (hc : CallL X E (.type T) F) (hg : Gl X x) (hm : X.mg x = none) (hv : bootBuiltins x = some (.type T)) (ha : LL X E (e :: es) g) (hn : x ≠ "__name__" := by decide) (hdb : (x == ("__debug__" : Str)) = false := by decide)
    (he : starEach (e :: es) X.env = (false, eval e X.env) :: starEach es X.env := by rfl) (hpl : (backTo pos (starEach es X.env)).any (·.1) = false := by rfl) : LE X E (.Call (.Name x p) (e :: es) [] pos) (sCB F g) :=
  ⟨peMono (pe_callTy hc hg hm hv ha.pa hn hdb he hpl) fun _ _ _ h => lift_sCB h⟩
end
def bAbs : FL := fun ds st => match ds with
  | [.int i] => .ok (.int i.natAbs) st
  | _ => .stuck
theorem reps1 {K : PySem.W.Frag} {H : Hp} {μ : List Addr} {d : D} {vs : List V} (r : Reps K H μ [d] vs) : ∃ v, vs = [v] ∧ Rep K H μ d v := by
  cases r with
  | cons r t => cases t; exact ⟨_, rfl, r⟩
theorem reps2 {K : PySem.W.Frag} {H : Hp} {μ : List Addr} {d d' : D} {vs : List V} (r : Reps K H μ [d, d'] vs) : ∃ v w, vs = [v, w] ∧ Rep K H μ d v ∧ Rep K H μ d' w := by
  cases r with
  | cons r t =>
    obtain ⟨w, e, r2⟩ := reps1 t
    subst e
    exact ⟨_, _, rfl, r, r2⟩
theorem cl_abs : CallL X E (.builtin "abs") bAbs := by
  intro pins s σ H vs us Q I rv ⟨ds, st, μ, h1, h2, p⟩
  unfold bAbs at p
  split at p
  · rename_i i
    obtain ⟨v, rfl, r⟩ := reps1 h1
    cases r
    refine call_abs pins s σ H _ us Q I rv ⟨_, rfl, ?_⟩
    have e : (if i < 0 then -i else i) = (i.natAbs : Int) := by split <;> omega
    rw [e]
    exact p _ H μ (.refl _ _) (.int _) h2
  · exact p.elim
def bLen : FL := fun ds st => match ds with
  | [.tup xs] => .ok (.int xs.length) st
  | [.rl xs] => .ok (.int xs.length) st
  | [.str z] => if z.length ≤ sizeLine then .ok (.int z.length) st else .stuck
  | [.ref n] => match st[n]? with
    | some (.lst xs) => .ok (.int xs.length) st
    | some (.dK xs) => .ok (.int xs.length) st
    | _ => .stuck
  | _ => .stuck
theorem RepF.length {κ : Type} {K : PySem.W.Frag} {H : Hp} {μ : List Addr} : ∀ {ds : List (κ × D)} {vs : List (κ × V)}, RepF K H μ ds vs → ds.length = vs.length
  | _, _, .nil => rfl
  | _, _, .cons _ t => congrArg (· + 1) (RepF.length t)
theorem cl_len : CallL X E (.builtin "len") bLen := by
  intro pins s σ H vs us Q I rv ⟨ds, st, μ, h1, h2, p⟩
  unfold bLen at p
  split at p
  · obtain ⟨v, rfl, r⟩ := reps1 h1
    cases r with
    | tup t r => exact call_len pins s σ H _ us Q I rv ⟨_, _, rfl, .inr ⟨_, t.sq, rfl⟩, by rw [← r.length]; exact p _ H μ (.refl _ _) (.int _) h2⟩
  · obtain ⟨v, rfl, r⟩ := reps1 h1
    cases r with
    | rl t r => exact call_len pins s σ H _ us Q I rv ⟨_, _, rfl, .inl ⟨_, t.sq, rfl⟩, by rw [← r.length]; exact p _ H μ (.refl _ _) (.int _) h2⟩
  · obtain ⟨v, rfl, r⟩ := reps1 h1
    cases r
    split at p
    · exact call_len pins s σ H _ us Q I rv ⟨_, _, rfl, ⟨by assumption, rfl⟩, p _ H μ (.refl _ _) (.int _) h2⟩
    · exact p.elim
  · obtain ⟨v, rfl, r⟩ := reps1 h1
    cases r with
    | ref e1 =>
      split at p
      · rename_i xs q1
        obtain ⟨a, f1, ws, g1, r⟩ := h2.at q1
        rw [e1] at f1; cases f1
        exact call_len pins s σ H _ us Q I rv ⟨_, _, rfl, .inl ⟨_, .of g1, rfl⟩, by rw [← r.length]; exact p _ H μ (.refl _ _) (.int _) h2⟩
      · rename_i xs q1
        obtain ⟨a, f1, ws, g1, r⟩ := h2.at q1
        rw [e1] at f1; cases f1
        exact call_lenD pins s σ H _ us Q I rv ⟨_, _, rfl, g1, by rw [← r.length]; exact p _ H μ (.refl _ _) (.int _) h2⟩
      · exact p.elim
  · exact p.elim
/-- the ints of a list of data -/
def intsOf : List D → Option (List Int)
  | [] => some []
  | .int i :: ds => (intsOf ds).map (i :: ·)
  | _ :: _ => none
theorem intsOf_eq : ∀ {ds : List D} {ns : List Int}, intsOf ds = some ns → ds = ns.map D.int
  | [], _, h => by cases h; rfl
  | .int i :: ds, ns, h => by
    simp only [intsOf] at h
    cases e : intsOf ds with
    | none => rw [e] at h; cases h
    | some ms => rw [e] at h; cases h; rw [intsOf_eq e]; rfl
  | .non :: _, _, h => by cases h
  | .bl _ :: _, _, h => by cases h
  | .str _ :: _, _, h => by cases h
  | .tup _ :: _, _, h => by cases h
  | .rl _ :: _, _, h => by cases h
  | .ref _ :: _, _, h => by cases h
theorem intsOf_map : ∀ (ns : List Int), intsOf (ns.map D.int) = some ns
  | [] => rfl
  | i :: ns => by simp only [List.map_cons, intsOf, intsOf_map ns, Option.map_some]
/-- the items of a list, a tuple -/
def seqOf (d : D) (st : Store) : Option (List D) := match d with
  | .tup xs => some xs
  | .rl xs => some xs
  | .ref n => match st[n]? with
    | some (.lst xs) => some xs
    | _ => none
  | _ => none
theorem seqOf_sq {K : PySem.W.Frag} {H : Hp} {μ : List Addr} {d : D} {v : V} {st : Store} {xs : List D} (r : Rep K H μ d v) (s : RepS K H μ st) (h : seqOf d st = some xs) : ∃ a vs, v = .ref a ∧ Reps K H μ xs vs ∧ (SqL K H a vs ∨ SqT K H a vs) := by
  cases d with
  | tup xs => cases h; cases r with | tup t r => exact ⟨_, _, rfl, r, .inr t.sq⟩
  | rl xs => cases h; cases r with | rl t r => exact ⟨_, _, rfl, r, .inl t.sq⟩
  | ref n =>
    cases r with
    | ref e1 =>
      simp only [seqOf] at h
      split at h
      · rename_i xs q1
        cases h
        obtain ⟨a, f1, ws, g1, r⟩ := s.at q1
        rw [e1] at f1; cases f1
        exact ⟨_, _, rfl, r, .inl (.of g1)⟩
      · cases h
  | _ => cases h
/-- .. of a list alone -/
def seqNT (d : D) (st : Store) : Option (List D) := match d with
  | .tup _ => none
  | d => seqOf d st
def bMax : FL := fun ds st => match ds with
  | [.int i, .int j] => .ok (.int (max i j)) st
  | [d] => match (seqNT d st).bind intsOf with
    | some (n :: ns) => .ok (.int (ns.foldl max n)) st
    | _ => .stuck
  | _ => .stuck
def bMin : FL := fun ds st => match ds with
  | [.int i, .int j] => .ok (.int (min i j)) st
  | [d] => match (seqNT d st).bind intsOf with
    | some (n :: ns) => .ok (.int (ns.foldl min n)) st
    | _ => .stuck
  | _ => .stuck
theorem foldl_max_mem : ∀ (ns : List Int) (n : Int), ns.foldl max n ∈ n :: ns ∧ ∀ y ∈ n :: ns, y ≤ ns.foldl max n
  | [], n => by simp
  | m :: ns, n => by
    obtain ⟨h1, h2⟩ := foldl_max_mem ns (max n m)
    simp only [List.foldl_cons]
    refine ⟨?_, fun y hy => ?_⟩
    · rcases List.mem_cons.mp h1 with h | h
      · rw [h]
        rcases Int.le_total n m with k | k
        · rw [Int.max_eq_right k]; simp
        · rw [Int.max_eq_left k]; simp
      · simp [h]
    · have h0 := h2 (max n m) (by simp)
      rcases List.mem_cons.mp hy with rfl | hy
      · exact Int.le_trans (Int.le_max_left _ _) h0
      · rcases List.mem_cons.mp hy with rfl | hy
        · exact Int.le_trans (Int.le_max_right _ _) h0
        · exact h2 y (by simp [hy])
theorem foldl_min_mem : ∀ (ns : List Int) (n : Int), ns.foldl min n ∈ n :: ns ∧ ∀ y ∈ n :: ns, ns.foldl min n ≤ y
  | [], n => by simp
  | m :: ns, n => by
    obtain ⟨h1, h2⟩ := foldl_min_mem ns (min n m)
    simp only [List.foldl_cons]
    refine ⟨?_, fun y hy => ?_⟩
    · rcases List.mem_cons.mp h1 with h | h
      · rw [h]
        rcases Int.le_total n m with k | k
        · rw [Int.min_eq_left k]; simp
        · rw [Int.min_eq_right k]; simp
      · simp [h]
    · have h0 := h2 (min n m) (by simp)
      rcases List.mem_cons.mp hy with rfl | hy
      · exact Int.le_trans h0 (Int.min_le_left _ _)
      · rcases List.mem_cons.mp hy with rfl | hy
        · exact Int.le_trans h0 (Int.min_le_right _ _)
        · exact h2 y (by simp [hy])
theorem notTup {K : PySem.W.Frag} {H : Hp} {μ : List Addr} {d : D} {v : V} {st : Store} {xs : List D} (hd : ∀ ys, d ≠ .tup ys) (r : Rep K H μ d v) (s : RepS K H μ st) (h : seqOf d st = some xs) : ∃ a vs, v = .ref a ∧ Reps K H μ xs vs ∧ SqL K H a vs := by
  cases d with
  | tup xs => exact (hd _ rfl).elim
  | rl xs => cases h; cases r with | rl t r => exact ⟨_, _, rfl, r, t.sq⟩
  | ref n =>
    cases r with
    | ref e1 =>
      simp only [seqOf] at h
      split at h
      · rename_i xs q1
        cases h
        obtain ⟨a, f1, ws, g1, r⟩ := s.at q1
        rw [e1] at f1; cases f1
        exact ⟨_, _, rfl, r, .of g1⟩
      · cases h
  | _ => cases h
theorem seqNT_sq {K : PySem.W.Frag} {H : Hp} {μ : List Addr} {d : D} {v : V} {st : Store} {xs : List D} (r : Rep K H μ d v) (s : RepS K H μ st) (h : seqNT d st = some xs) : ∃ a vs, v = .ref a ∧ Reps K H μ xs vs ∧ SqL K H a vs := by
  cases d with
  | tup xs => cases h
  | _ => exact notTup (fun ys h => by cases h) r s h
theorem cl_max (hc : X.calm = true) : CallL X E (.builtin "max") bMax := by
  intro pins s σ H vs us Q I rv ⟨ds, st, μ, h1, h2, p⟩
  unfold bMax at p
  split at p
  · obtain ⟨v, w', rfl, r1, r2⟩ := reps2 h1
    cases r1; cases r2
    refine call_max2 hc pins s σ H _ us Q I rv ⟨_, _, rfl, ?_⟩
    rename_i i j
    have e : (if j > i then j else i) = max i j := by split <;> omega
    rw [e]
    exact p _ H μ (.refl _ _) (.int _) h2
  · obtain ⟨v, rfl, r⟩ := reps1 h1
    rename_i _ d
    split at p
    · rename_i n ns e
      cases q : seqNT d st with
      | none => rw [q] at e; cases e
      | some xs =>
        rw [q] at e
        have e2 : intsOf xs = some (n :: ns) := e
        have e3 := intsOf_eq e2
        subst e3
        obtain ⟨a, ws, rfl, rw', sq⟩ := seqNT_sq r h2 q
        obtain rfl := rw'.ints
        obtain ⟨m1, m2⟩ := foldl_max_mem ns n
        refine cr_max hc pins s σ H _ us Q I rv ⟨_, _, rfl, sq, by simp, fun m hm hy => ?_⟩
        have : m = ns.foldl max n := Int.le_antisymm (m2 m hm) (hy _ m1)
        rw [this]
        exact p _ H μ (.refl _ _) (.int _) h2
    · exact p.elim
  · exact p.elim
theorem cl_min (hc : X.calm = true) : CallL X E (.builtin "min") bMin := by
  intro pins s σ H vs us Q I rv ⟨ds, st, μ, h1, h2, p⟩
  unfold bMin at p
  split at p
  · obtain ⟨v, w', rfl, r1, r2⟩ := reps2 h1
    cases r1; cases r2
    refine call_min2 hc pins s σ H _ us Q I rv ⟨_, _, rfl, ?_⟩
    rename_i i j
    have e : (if j < i then j else i) = min i j := by split <;> omega
    rw [e]
    exact p _ H μ (.refl _ _) (.int _) h2
  · obtain ⟨v, rfl, r⟩ := reps1 h1
    rename_i _ d
    split at p
    · rename_i n ns e
      cases q : seqNT d st with
      | none => rw [q] at e; cases e
      | some xs =>
        rw [q] at e
        have e2 : intsOf xs = some (n :: ns) := e
        have e3 := intsOf_eq e2
        subst e3
        obtain ⟨a, ws, rfl, rw', sq⟩ := seqNT_sq r h2 q
        obtain rfl := rw'.ints
        obtain ⟨m1, m2⟩ := foldl_min_mem ns n
        refine cr_min hc pins s σ H _ us Q I rv ⟨_, _, rfl, sq, by simp, fun m hm hy => ?_⟩
        have : m = ns.foldl min n := Int.le_antisymm (hy _ m1) (m2 m hm)
        rw [this]
        exact p _ H μ (.refl _ _) (.int _) h2
    · exact p.elim
  · exact p.elim
def bSum : FL := fun ds st => match ds with
  | [d] => match (seqOf d st).bind intsOf with
    | some ns => .ok (.int ns.sum) st
    | none => .stuck
  | _ => .stuck
theorem sumT_raw {prog : Program} {w : World} {A : Around} {E : Value → Shared → Prop} {s : Shared} {l : Addr} {its : List Value} {ns : List Int} {Q : Value → Shared → Prop} (hh : A.handled = none) (hl : s.heap.IsTuple l its.toArray) (hi : IntsAre its ns)
    (h : ∀ h' tk t', (∀ b o, s.heap.get? b = some o → h'.get? b = some o) → Q (.int ns.sum t') { s with heap := h', toks := tk }) : wpAny (model prog w) A (call (.builtin "sum") [.ref l]) Q E s := by
  obtain ⟨xs, e⟩ := hi.allInts.items
  have hn : numsOf (intItems xs).toList = ns := by rw [← e]; exact hi.numsOf
  rw [nums_intItems] at hn
  rw [e] at hl
  refine PySem.W.ktm_sumG hh hl fun h' tk t' hk => ?_
  have := h h' tk t' hk
  rw [preSum_eq, List.take_of_length_le (by simp), hn]; exact this
theorem cl_sum (hc : X.calm = true) : CallL X E (.builtin "sum") bSum := by
  intro pins s σ H vs us Q I rv ⟨ds, st, μ, h1, h2, p⟩
  unfold bSum at p
  split at p
  · obtain ⟨v, rfl, r⟩ := reps1 h1
    rename_i d
    split at p
    · rename_i ns e
      cases q : seqOf d st with
      | none => rw [q] at e; cases e
      | some xs =>
        rw [q] at e
        have e2 : intsOf xs = some ns := e
        have e3 := intsOf_eq e2
        subst e3
        obtain ⟨a, ws, rfl, rw', sq⟩ := seqOf_sq r h2 q
        obtain rfl := rw'.ints
        rcases sq with sq | sq
        · exact cr_sum hc pins s σ H _ us Q I rv ⟨_, _, rfl, sq, p _ H μ (.refl _ _) (.int _) h2⟩
        · obtain ⟨its, rv', ht, _⟩ := I.tuple sq
          rw [Vals.ref1 rv]
          exact sumT_raw (I.ok.hd hc) ht rv'.ints fun h' tk t' hk => ⟨.int _, H, I.kept hk, ⟨_, rfl⟩, p _ H μ (.refl _ _) (.int _) h2⟩
    · exact p.elim
  · exact p.elim
def bInt : FL := fun ds st => match ds with
  | [.int i] => .ok (.int i) st
  | [.bl b] => .ok (.int (if b then 1 else 0)) st
  | [.str x] => match PySem.intText? x with
    | some n => if x.length ≤ 640 then .ok (.int n) st else .stuck
    | none => .stuck
  | _ => .stuck
theorem cl_int : CallL X E (.type "int") bInt := by
  intro pins s σ H vs us Q I rv ⟨ds, st, μ, h1, h2, p⟩
  unfold bInt at p
  split at p
  · obtain ⟨v, rfl, r⟩ := reps1 h1
    cases r
    exact call_int1 pins s σ H _ us Q I rv (.inl ⟨_, rfl, p _ H μ (.refl _ _) (.int _) h2⟩)
  · obtain ⟨v, rfl, r⟩ := reps1 h1
    cases r
    exact call_int1 pins s σ H _ us Q I rv (.inr ⟨_, rfl, p _ H μ (.refl _ _) (.int _) h2⟩)
  · obtain ⟨v, rfl, r⟩ := reps1 h1
    cases r
    split at p
    · split at p
      · exact call_int_str pins s σ H _ us Q I rv ⟨_, _, rfl, by assumption, by assumption, p _ H μ (.refl _ _) (.int _) h2⟩
      · exact p.elim
    · exact p.elim
  · exact p.elim
def bStr : FL := fun ds st => match ds with
  | [.int i] => if i.natAbs.log2 < 1920 then .ok (.str (toString i)) st else .stuck
  | _ => .stuck
theorem cl_str : CallL X E (.type "str") bStr := by
  intro pins s σ H vs us Q I rv ⟨ds, st, μ, h1, h2, p⟩
  unfold bStr at p
  split at p
  · obtain ⟨v, rfl, r⟩ := reps1 h1
    cases r
    split at p
    · exact call_str_int pins s σ H _ us Q I rv ⟨_, rfl, by assumption, p _ H μ (.refl _ _) (.str _) h2⟩
    · exact p.elim
  · exact p.elim
def bTuple : FL := fun ds st => match ds with
  | [d] => match seqOf d st with
    | some xs => .ok (.tup xs) st
    | none => .stuck
  | _ => .stuck
theorem cl_tuple : CallL X E (.type "tuple") bTuple := by
  intro pins s σ H vs us Q I rv ⟨ds, st, μ, h1, h2, p⟩
  unfold bTuple at p
  split at p
  · obtain ⟨v, rfl, r⟩ := reps1 h1
    rename_i d
    split at p
    · rename_i xs q
      cases d with
      | tup ys =>
        cases q
        cases id r with
        | tup t r' => exact call_tuple_of pins s σ H _ us Q I rv ⟨_, _, rfl, .inr ⟨t.sq, p _ H μ (.refl _ _) r h2⟩⟩
      | _ =>
        obtain ⟨a, ws, rfl, rw', sq⟩ := notTup (fun ys h => by cases h) r h2 q
        exact call_tuple_of pins s σ H _ us Q I rv ⟨_, _, rfl, .inl ⟨sq, fun b hb => post_tup p rw' h2 hb⟩⟩
    · exact p.elim
  · exact p.elim
def bList : FL := fun ds st => match ds with
  | [d] => match seqOf d st with
    | some xs => .ok (.ref st.length) (st ++ [.lst xs])
    | none => .stuck
  | _ => .stuck
theorem cl_list : CallL X E (.type "list") bList := by
  intro pins s σ H vs us Q I rv ⟨ds, st, μ, h1, h2, p⟩
  unfold bList at p
  split at p
  · obtain ⟨v, rfl, r⟩ := reps1 h1
    rename_i d
    split at p
    · rename_i xs q
      obtain ⟨a, ws, rfl, rw', sq⟩ := seqOf_sq r h2 q
      exact call_list_of pins s σ H _ us Q I rv ⟨_, _, rfl, sq, fun b hb => post_lst p rw' h2 hb⟩
    · exact p.elim
  · exact p.elim
/-! ### isinstance(x, T), T a built-in type by its name -/
def tyName (d : D) (st : Store) : Option String := match d with
  | .non => some "NoneType"
  | .bl _ => some "bool"
  | .int _ => some "int"
  | .str _ => some "str"
  | .tup _ => some "tuple"
  | .rl _ => some "list"
  | .ref n => match st[n]? with
    | some (.lst _) => some "list"
    | some (.dK _) => some "dict"
    | _ => none
theorem tyX_of {K : PySem.W.Frag} {H : Hp} {μ : List Addr} {d : D} {v : V} {st : Store} {n : String} (r : Rep K H μ d v) (s : RepS K H μ st) (h : tyName d st = some n) : TyX K H v (.type n) := by
  cases d with
  | non => cases r; cases h; exact .base .non
  | bl b => cases r; cases h; exact .base (.bl b)
  | int i => cases r; cases h; exact .base (.int i)
  | str x => cases r; cases h; exact .base (.str x)
  | tup xs =>
    cases h
    cases r with
    | tup t r =>
      rcases t with ⟨h | ⟨o, h⟩, _⟩ | ⟨o, its, n, h1, h2, _⟩
      · exact .base (.tup h)
      · exact .fTuple h
      · exact .kTuple h1 h2
  | rl xs =>
    cases h
    cases r with
    | rl t r =>
      rcases t with ⟨⟨o, h⟩, _⟩ | ⟨o, its, n, h1, h2, _⟩
      · exact .base (.frz h)
      · exact .kList h1 h2
  | ref k =>
    cases r with
    | ref e1 =>
      simp only [tyName] at h
      split at h
      · rename_i xs q1
        cases h
        obtain ⟨a, f1, ws, g1, r⟩ := s.at q1
        rw [e1] at f1; cases f1
        exact .base (.lst g1)
      · rename_i xs q1
        cases h
        obtain ⟨a, f1, ws, g1, r⟩ := s.at q1
        rw [e1] at f1; cases f1
        exact .base (.dK g1)
      · cases h
def isiB (T : String) (n : String) : Bool := match T with
  | "int" => n == "int" || n == "bool"
  | T => n == T
def sIsi (T : String) (f : SE) : SE := fun ρ st => (f ρ st).bind fun d st => match tyName d st with
  | some n => match kitB n T with
    | some b => .ok (.bl b) st
    | none => .stuck
  | none => .stuck
theorem le_isi {p : Pos} {e : Expr} {T : String} {x : Str} {p2 : Pos} {f : SE} (hg : Gl X "isinstance") (hm : X.mg "isinstance" = none) (hg2 : Gl X x) (hm2 : X.mg x = none) (hv2 : bootBuiltins x = some (.type T)) (ha : LE X E e f) (hn2 : x ≠ "__name__" := by decide) (hd2 : (x == ("__debug__" : Str)) = false := by decide)
    (he : starEach (e :: [.Name x p2]) X.env = (false, eval e X.env) :: starEach [.Name x p2] X.env := by rfl)
    (he2 : starEach [.Name x p2] X.env = (false, eval (.Name x p2) X.env) :: starEach [] X.env := by rfl)
    (hpl : (backTo pos (starEach [.Name x p2] X.env)).any (·.1) = false := by rfl) : LE X E (.Call (.Name "isinstance" p) (e :: [.Name x p2]) [] pos) (sIsi T f) :=
  ⟨peMono (pe_callB call_isi hg hm (by decide +kernel) (pa_cons ha.pe (pa_cons (pe_bltn (v := .ty T) hg2 hm2 hv2 rfl hn2 hd2) pa_nil he2) he) (by decide) (by decide) he hpl) fun σ H Q ⟨ρ, st, μ, re, rs, p⟩ => by
    refine ⟨ρ, st, μ, re, rs, (Post.bind p).mono fun v H1 ⟨d, st1, μ1, x1, r1, s1, p1⟩ => ?_⟩
    dsimp only at p1
    split at p1
    · rename_i n e1
      split at p1
      · rename_i b e2
        exact ⟨v, .ty T, .type n, .type T, b, rfl, .ty T, tyX_of r1 s1 e1, kit_ty e2, p1 _ H1 μ1 (.refl _ _) (.bl b) s1⟩
      · exact p1.elim
    · exact p1.elim⟩

/-! ### methods of lists, of texts -/
abbrev FM := Nat → List D → Store → Res D
def isLst (st : Store) (n : Nat) : Bool := match st[n]? with
  | some (.lst _) => true
  | _ => false
def sML (F : FM) (f : SE) (g : SL) : SE := fun ρ st => (f ρ st).bind fun d st => match d with
  | .ref n => if isLst st n = true then (g ρ st).bind fun ds st => F n ds st else .stuck
  | _ => .stuck
def liftM (K : PySem.W.Frag) (E : XK) (F : FM) : V → List V → Hp → VK → Prop := fun x vs H Q => ∃ n a ds st μ, x = .ref a ∧ μ[n]? = some a ∧ Reps K H μ ds vs ∧ RepS K H μ st ∧ Post K H μ (F n ds st) Q E
section
variable {o e : Expr} {es : List Expr} {name : Str} {apos cpos : Pos} {id : String} {F : FM} {f : SE} {g : SL}
theorem isLst_ty {K : PySem.W.Frag} {H : Hp} {μ : List Addr} {st : Store} {n : Nat} {a : Addr} (s : RepS K H μ st) (e : μ[n]? = some a) (h : isLst st n = true) : tyV K "list" (.ref a) H := by
  unfold isLst at h
  split at h
  · rename_i xs q1
    obtain ⟨a', f1, ws, g1, r⟩ := s.at q1
    rw [e] at f1; cases f1
    exact .inl ⟨rfl, _, .of g1⟩
  · cases h
theorem le_ml (slot : Slot "list" name id) (hty : typeOf (.builtin id) = pure (.type "method_descriptor")) (hm : MtR X id (liftM X.K E F)) (ho : LE X E o f) (ha : LL X E (e :: es) g)
    (hbase : attributeBase o name X.env (eval o X.env) = eval o X.env := by rfl)
    (hfew : ((backTo cpos (starEach (e :: es) X.env)).all (fun x => !x.1) && (backToKw cpos (keywordEach [] X.env)).all (fun x => x.1.isSome)
      && decide ((e :: es).length + ([] : List Keyword).length + (if ([] : List Keyword).isEmpty then 0 else 1) < 30)) = true := by rfl)
    (hline : (apos.endLine == cpos.line) = true := by rfl) (hs : starEach (e :: es) X.env = (false, eval e X.env) :: starEach es X.env := by rfl) (hplain : (backTo cpos (starEach es X.env)).any (·.1) = false := by rfl) :
    LE X E (.Call (.Attribute o name apos) (e :: es) [] cpos) (sML F f g) :=
  ⟨peMono (pe_bm PySem.F.plainAttrs_list slot hty hm ho.pe ha.pa hbase hfew hline hs hplain) fun σ H Q ⟨ρ, st, μ, re, rs, p⟩ => by
    refine ⟨ρ, st, μ, re, rs, (Post.bind p).mono fun v H1 ⟨d, st1, μ1, x1, r1, s1, p1⟩ => ?_⟩
    cases d with
    | ref n =>
      dsimp only at p1
      split at p1
      · rename_i hl
        cases r1 with
        | ref e1 =>
          refine ⟨isLst_ty s1 e1 hl, ρ, st1, μ1, re.ext x1, s1, (PostL.bind p1).mono fun vs H2 ⟨ds, st2, μ2, x2, r2, s2, p2⟩ => ?_⟩
          exact ⟨n, _, ds, st2, μ2, rfl, x2.get e1, r2, s2, p2⟩
      · exact p1.elim
    | _ => exact (show False from p1).elim⟩
theorem le_ml0 (slot : Slot "list" name id) (hty : typeOf (.builtin id) = pure (.type "method_descriptor")) (hm : MtR X id (liftM X.K E F)) (ho : LE X E o f)
    (hbase : attributeBase o name X.env (eval o X.env) = eval o X.env := by rfl) (hline : (apos.endLine == cpos.line) = true := by rfl) : LE X E (.Call (.Attribute o name apos) [] [] cpos) (sML F f sNil) :=
  ⟨peMono (pe_bm0 PySem.F.plainAttrs_list slot hty hm ho.pe hbase hline) fun σ H Q ⟨ρ, st, μ, re, rs, p⟩ => by
    refine ⟨ρ, st, μ, re, rs, (Post.bind p).mono fun v H1 ⟨d, st1, μ1, x1, r1, s1, p1⟩ => ?_⟩
    cases d with
    | ref n =>
      dsimp only at p1
      split at p1
      · rename_i hl
        cases r1 with
        | ref e1 => exact ⟨isLst_ty s1 e1 hl, n, _, [], st1, μ1, rfl, e1, .nil, s1, p1⟩
      · exact p1.elim
    | _ => exact (show False from p1).elim⟩
end
theorem post_set {K : PySem.W.Frag} {H : Hp} {μ : List Addr} {d : D} {v : V} {st : Store} {Q : VK} {n : Nat} {a : Addr} {xs : List D} {vs : List V} (p : Post K H μ (.ok d (st.set n (.lst xs))) Q E) (e : μ[n]? = some a) (r : Rep K H μ d v) (rs : Reps K H μ xs vs) (s : RepS K H μ st) : Q v (upd H a (.lst vs)) :=
  have x : Ext H μ (upd H a (.lst vs)) μ := .write (List.mem_of_getElem? e)
  p v _ μ x (r.ext x) (s.write e ⟨vs, upd_same, rs.ext x⟩)
def mAppend : FM := fun n ds st => match ds, st[n]? with
  | [y], some (.lst xs) => if xs.length < sizeLine then .ok .non (st.set n (.lst (xs ++ [y]))) else .stuck
  | _, _ => .stuck
theorem ml_append : MtR X "list.append" (liftM X.K E mAppend) := by
  intro pins s σ H x vs v us Q I rx rvs ⟨n, a, ds, st, μ, hx, e, r, hs, p⟩
  subst hx
  unfold mAppend at p
  split at p
  · rename_i y xs q1
    split at p
    · obtain ⟨v1, rfl, ry⟩ := reps1 r
      obtain ⟨a', f1, ws, g1, r1⟩ := hs.at q1
      rw [e] at f1; cases f1
      exact mt_append pins s σ H _ _ v us Q I rx rvs ⟨_, _, _, rfl, rfl, g1, by rw [← r1.length]; assumption, post_set p e .non (r1.append (.cons ry .nil)) hs⟩
    · exact p.elim
  · exact p.elim
def mPop : FM := fun n ds st => match ds, st[n]? with
  | [], some (.lst xs) => match xs[xs.length - 1]? with
    | some y => .ok y (st.set n (.lst xs.dropLast))
    | none => .stuck
  | [.int i], some (.lst xs) => if -(2 ^ 63) ≤ i ∧ i < 2 ^ 63 then match seqIndex? i xs.length with
    | some k => match xs[k]? with
      | some y => .ok y (st.set n (.lst (xs.eraseIdx k)))
      | none => .stuck
    | none => .stuck else .stuck
  | _, _ => .stuck
theorem ml_pop : MtR X "list.pop" (liftM X.K E mPop) := by
  intro pins s σ H x vs v us Q I rx rvs ⟨n, a, ds, st, μ, hx, e, r, hs, p⟩
  subst hx
  unfold mPop at p
  split at p
  · rename_i xs q1
    split at p
    · rename_i y ey
      cases r
      obtain ⟨a', f1, ws, g1, r1⟩ := hs.at q1
      rw [e] at f1; cases f1
      obtain ⟨z, ez, rz⟩ := r1.get ey
      exact mt_pop pins s σ H _ _ v us Q I rx rvs ⟨_, _, _, rfl, rfl, g1, by rw [← r1.length]; exact ez, post_set p e rz r1.dropLast hs⟩
    · exact p.elim
  · rename_i i xs q1
    split at p
    · rename_i hi
      split at p
      · rename_i k ek
        split at p
        · rename_i y ey
          obtain ⟨v1, rfl, ri⟩ := reps1 r
          cases ri
          obtain ⟨a', f1, ws, g1, r1⟩ := hs.at q1
          rw [e] at f1; cases f1
          obtain ⟨z, ez, rz⟩ := r1.get ey
          exact mt_popAt pins s σ H _ _ v us Q I rx rvs ⟨_, _, _, _, _, rfl, rfl, g1, hi.1, hi.2, by rw [← r1.length]; exact ek, ez, post_set p e rz (r1.eraseIdx k) hs⟩
        · exact p.elim
      · exact p.elim
    · exact p.elim
  · exact p.elim
/-- extend by a list -/
def mExtend : FM := fun n ds st => match ds, st[n]? with
  | [.ref m], some (.lst xs) => match st[m]? with
    | some (.lst ys) => if xs.length + ys.length ≤ sizeLine then .ok .non (st.set n (.lst (xs ++ ys))) else .stuck
    | _ => .stuck
  | _, _ => .stuck
theorem ml_extend : MtR X "list.extend" (liftM X.K E mExtend) := by
  intro pins s σ H x vs v us Q I rx rvs ⟨n, a, ds, st, μ, hx, e, r, hs, p⟩
  subst hx
  unfold mExtend at p
  split at p
  · rename_i m xs q1
    split at p
    · rename_i ys q2
      split at p
      · rename_i hz
        obtain ⟨v1, rfl, ri⟩ := reps1 r
        obtain ⟨a', f1, ws, g1, r1⟩ := hs.at q1
        rw [e] at f1; cases f1
        cases ri with
        | ref e2 =>
          obtain ⟨b', f2, zs, g2, r2⟩ := hs.at q2
          rw [e2] at f2; cases f2
          exact mt_extend pins s σ H _ _ v us Q I rx rvs ⟨_, _, _, _, rfl, rfl, g1, g2, by rw [← r1.length, ← r2.length]; exact hz, post_set p e .non (r1.append r2) hs⟩
      · exact p.elim
    · exact p.elim
  · exact p.elim
/-! texts -/
abbrev FT := Str → List D → Store → Res D
def sMT (F : FT) (f : SE) (g : SL) : SE := fun ρ st => (f ρ st).bind fun d st => match d with
  | .str z => (g ρ st).bind fun ds st => F z ds st
  | _ => .stuck
def liftT (K : PySem.W.Frag) (E : XK) (F : FT) : V → List V → Hp → VK → Prop := fun x vs H Q => ∃ z ds st μ, x = .str z ∧ Reps K H μ ds vs ∧ RepS K H μ st ∧ Post K H μ (F z ds st) Q E
section
variable {o e : Expr} {es : List Expr} {name : Str} {apos cpos : Pos} {id : String} {F : FT} {f : SE} {g : SL}
theorem le_mt (slot : Slot "str" name id) (hty : typeOf (.builtin id) = pure (.type "method_descriptor")) (hm : MtR X id (liftT X.K E F)) (ho : LE X E o f) (ha : LL X E (e :: es) g)
    (hbase : attributeBase o name X.env (eval o X.env) = eval o X.env := by rfl)
    (hfew : ((backTo cpos (starEach (e :: es) X.env)).all (fun x => !x.1) && (backToKw cpos (keywordEach [] X.env)).all (fun x => x.1.isSome)
      && decide ((e :: es).length + ([] : List Keyword).length + (if ([] : List Keyword).isEmpty then 0 else 1) < 30)) = true := by rfl)
    (hline : (apos.endLine == cpos.line) = true := by rfl) (hs : starEach (e :: es) X.env = (false, eval e X.env) :: starEach es X.env := by rfl) (hplain : (backTo cpos (starEach es X.env)).any (·.1) = false := by rfl) :
    LE X E (.Call (.Attribute o name apos) (e :: es) [] cpos) (sMT F f g) :=
  ⟨peMono (pe_bm PySem.F.plainAttrs_str slot hty hm ho.pe ha.pa hbase hfew hline hs hplain) fun σ H Q ⟨ρ, st, μ, re, rs, p⟩ => by
    refine ⟨ρ, st, μ, re, rs, (Post.bind p).mono fun v H1 ⟨d, st1, μ1, x1, r1, s1, p1⟩ => ?_⟩
    cases d with
    | str z =>
      cases r1
      refine ⟨rfl, ρ, st1, μ1, re.ext x1, s1, (PostL.bind p1).mono fun vs H2 ⟨ds, st2, μ2, x2, r2, s2, p2⟩ => ?_⟩
      exact ⟨z, ds, st2, μ2, rfl, r2, s2, p2⟩
    | _ => exact (show False from p1).elim⟩
end
def strsOf : List D → Option (List Str)
  | [] => some []
  | .str i :: ds => (strsOf ds).map (i :: ·)
  | _ :: _ => none
theorem strsOf_eq : ∀ {ds : List D} {ns : List Str}, strsOf ds = some ns → ds = ns.map D.str
  | [], _, h => by cases h; rfl
  | .str i :: ds, ns, h => by
    simp only [strsOf] at h
    cases e : strsOf ds with
    | none => rw [e] at h; cases h
    | some ms => rw [e] at h; cases h; rw [strsOf_eq e]; rfl
  | .non :: _, _, h => by cases h
  | .bl _ :: _, _, h => by cases h
  | .int _ :: _, _, h => by cases h
  | .tup _ :: _, _, h => by cases h
  | .rl _ :: _, _, h => by cases h
  | .ref _ :: _, _, h => by cases h
theorem strsOf_map : ∀ (ns : List Str), strsOf (ns.map D.str) = some ns
  | [] => rfl
  | i :: ns => by simp only [List.map_cons, strsOf, strsOf_map ns, Option.map_some]
def tJoin : FT := fun z ds st => match ds with
  | [d] => match (seqOf d st).bind strsOf with
    | some ys => if (ys.map (·.length)).sum + ys.length * z.length ≤ 16777216 then .ok (.str (Txt.join z ys)) st else .stuck
    | none => .stuck
  | _ => .stuck
theorem mt_tJoin : MtR X "str.join" (liftT X.K E tJoin) := by
  intro pins s σ H x vs v us Q I rx rvs ⟨z, ds, st, μ, hx, r, hs, p⟩
  subst hx
  unfold tJoin at p
  split at p
  · rename_i d
    obtain ⟨v1, rfl, r1⟩ := reps1 r
    split at p
    · rename_i ys e
      split at p
      · cases q : seqOf d st with
        | none => rw [q] at e; cases e
        | some xs =>
          rw [q] at e
          have e3 := strsOf_eq (show strsOf xs = some ys from e)
          subst e3
          obtain ⟨a, ws, rfl, rw', sq⟩ := seqOf_sq r1 hs q
          obtain rfl := rw'.strs
          exact mt_join pins s σ H _ _ v us Q I rx rvs ⟨_, _, _, rfl, rfl, sq, by assumption, p _ H μ (.refl _ _) (.str _) hs⟩
      · exact p.elim
    · exact p.elim
  · exact p.elim
def tCount : FT := fun z ds st => match ds with
  | [.str b] => .ok (.int (Txt.count z b)) st
  | _ => .stuck
theorem mt_tCount : MtR X "str.count" (liftT X.K E tCount) := by
  intro pins s σ H x vs v us Q I rx rvs ⟨z, ds, st, μ, hx, r, hs, p⟩
  subst hx
  unfold tCount at p
  split at p
  · obtain ⟨v1, rfl, r1⟩ := reps1 r
    cases r1
    exact mt_count pins s σ H _ _ v us Q I rx rvs ⟨_, _, rfl, rfl, p _ H μ (.refl _ _) (.int _) hs⟩
  · exact p.elim

/-! ### the text's own defs -/
def spOf (K : PySem.W.Frag) (n : Nat) (F : FL) : Sp := fun vs H Q _ => vs.length = n ∧ ∃ ds st μ, Reps K H μ ds vs ∧ RepS K H μ st ∧ Post K H μ (F ds st) Q E0
theorem spOf_len {K : PySem.W.Frag} {n : Nat} {F : FL} {ps : List Str} (h : n = ps.length) : ∀ vs H Q E, spOf K n F vs H Q E → vs.length = ps.length := fun vs H Q E q => by rw [← h]; exact q.1
theorem le_call {x : Str} {p : Pos} {e : Expr} {es : List Expr} {CX : CXT} {k n : Nat} {f : Addr} {fd : FuncData} {ps : List Str} {G : FL} {g : SL} (F : FnOk X.prog X.w X.K X.mg X.base CX k f fd ps (spOf X.K n G)) (hr : Room k X.A) (hg : Gl X x) (hm : X.mg x = some (.ref f)) (hk : PySem.W.keepIn X.K (.ref f) = true)
    (hb : Binds X.K fd ps []) (hx : Passes CX X E0) (ha : LL X E0 (e :: es) g) (hl : LenIs g n) (hdb : (x == ("__debug__" : Str)) = false := by decide) (he : starEach (e :: es) X.env = (false, eval e X.env) :: starEach es X.env := by rfl) (hpl : (backTo pos (starEach es X.env)).any (·.1) = false := by rfl) :
    LE X E0 (.Call (.Name x p) (e :: es) [] pos) (sCB G g) :=
  ⟨peMono (pe_call F hr hg hm hk hb .nil hx ha.pa hdb he hpl) fun σ H Q ⟨ρ, st, μ, re, rs, p⟩ => ⟨ρ, st, μ, re, rs, ((PostL.bind p).len fun ds st' e => hl _ _ _ _ e).mono fun vs H1 ⟨en, d, st1, μ1, x1, r1, s1, p1⟩ => by
    rw [List.append_nil]
    exact ⟨en, d, st1, μ1, r1, s1, p1⟩⟩⟩
/-- keywords: the values in the order of the call, then put in the parameters' order -/
structure LK (X : Cx) (E : XK) (kws : List Keyword) (f : SL) : Prop where
  pk : PK X kws (liftL X.K E f)
theorem pkMono {kws : List Keyword} {t t' : TA} (h : PK X kws t) (m : ∀ σ H Q, t' σ H Q → t σ H Q) : PK X kws t' := ⟨fun pos pins s σ H Q I q => h.run pos pins s σ H Q I (m σ H Q q)⟩
theorem lk_nil : LK X E [] sNil := ⟨pkMono pk_nil fun σ H Q ⟨ρ, st, μ, re, rs, p⟩ => p _ H μ (.refl H μ) .nil rs⟩
theorem lk_cons {nm : Option Str} {kpos : Pos} {e : Expr} {kws : List Keyword} {f : SE} {g : SL} (ha : LE X E e f) (hr : LK X E kws g) : LK X E (⟨nm, e, kpos⟩ :: kws) (sCons f g) :=
  ⟨pkMono (pk_cons ha.pe hr.pk) fun σ H Q ⟨ρ, st, μ, re, rs, p⟩ => by
    have p1 := Post.bindL (f := fun d st => (g ρ st).bind fun ds st => .ok (d :: ds) st) p
    refine ⟨ρ, st, μ, re, rs, p1.mono fun v H1 ⟨d, st1, μ1, x1, r1, s1, p2⟩ => ?_⟩
    refine ⟨ρ, st1, μ1, re.ext x1, s1, (PostL.bindL (f := fun ds st => .ok (d :: ds) st) p2).mono fun vs H2 ⟨ds, st2, μ2, x2, r2, s2, p3⟩ => ?_⟩
    exact p3 (v :: vs) H2 μ2 (.refl _ _) (.cons (r1.ext x2) r2) s2⟩
end
end L3

namespace L3
open PySem PySem.Spec PyProof.Rows L2

/-! ### targets -/
inductive Tgt where
  | nm (i : Nat)
  | tp (ts : List Tgt)
mutual
def Tgt.rd (K : PySem.W.Frag) : Tgt → TG
  | .nm i => gName i
  | .tp ts => gTup K ts.length (Tgt.rds K ts)
def Tgt.rds (K : PySem.W.Frag) : List Tgt → TGs
  | [] => gNil
  | t :: ts => gCons (Tgt.rd K t) (Tgt.rds K ts)
end
mutual
def Tgt.ev : Tgt → D → Envr → Option Envr
  | .nm i, d, ρ => some (ρ.set i (some d))
  | .tp ts, d, ρ => match d with
    | .tup ds => Tgt.evs ts ds ρ
    | _ => none
def Tgt.evs : List Tgt → List D → Envr → Option Envr
  | [], [], ρ => some ρ
  | t :: ts, d :: ds, ρ => match Tgt.ev t d ρ with
    | some ρ1 => Tgt.evs ts ds ρ1
    | none => none
  | _, _, _ => none
end
mutual
def Tgt.slots : Tgt → List Nat
  | .nm i => [i]
  | .tp ts => Tgt.slotss ts
def Tgt.slotss : List Tgt → List Nat
  | [] => []
  | t :: ts => Tgt.slots t ++ Tgt.slotss ts
end
theorem Tgt.evs_len : ∀ (ts : List Tgt) (ds : List D) (ρ ρ' : Envr), Tgt.evs ts ds ρ = some ρ' → ts.length = ds.length
  | [], [], _, _, _ => rfl
  | [], _ :: _, _, _, e => by simp only [Tgt.evs] at e; cases e
  | _ :: _, [], _, _, e => by simp only [Tgt.evs] at e; cases e
  | t :: ts, d :: ds, ρ, ρ', e => by
    simp only [Tgt.evs] at e
    cases e1 : Tgt.ev t d ρ with
    | none => rw [e1] at e; cases e
    | some ρ1 => rw [e1] at e; simp [Tgt.evs_len ts ds ρ1 ρ' e]
theorem wipe_set {i : Nat} {x : Option V} : ∀ {vs : List Nat} {σ : L2.St}, i ∈ vs → wipe (σ.set i x) vs = wipe σ vs
  | [], _, h => by cases h
  | v :: vs, σ, h => by
    show (wipe (σ.set i x) vs).set v none = (wipe σ vs).set v none
    by_cases hv : i = v
    · subst hv
      -- what stands at i is overwritten
      have gen : ∀ (ws : List Nat) (τ : L2.St), (wipe (τ.set i x) ws).set i none = (wipe τ ws).set i none := by
        intro ws
        induction ws with
        | nil => intro τ; show (τ.set i x).set i none = τ.set i none; rw [List.set_set]
        | cons w ws ih =>
          intro τ
          show ((wipe (τ.set i x) ws).set w none).set i none = ((wipe τ ws).set w none).set i none
          by_cases hw : w = i
          · subst hw; rw [List.set_set, List.set_set]; exact ih τ
          · rw [List.set_comm _ _ hw, List.set_comm _ _ hw, ih τ]
      exact gen vs σ
    · rw [wipe_set (by rcases List.mem_cons.mp h with h | h; exact absurd h hv; exact h)]
section
variable {K : PySem.W.Frag} {H : Hp} {μ : List Addr}
mutual
theorem Tgt.ok : ∀ (t : Tgt) {d : D} {v : V} {ρ ρ' : Envr} {σ : L2.St} {Q : L2.St → Hp → Prop}, Rep K H μ d v → RepE K H μ ρ σ → Tgt.ev t d ρ = some ρ' → (∀ σ', RepE K H μ ρ' σ' → (∀ vs, (∀ i ∈ t.slots, i ∈ vs) → wipe σ' vs = wipe σ vs) → Q σ' H) → Tgt.rd K t v σ H Q
  | .nm i, d, v, ρ, ρ', σ, Q, r, re, e, q => by
    simp only [Tgt.ev] at e
    cases e
    simp only [Tgt.rd]
    exact q _ (re.set r) fun vs h => wipe_set (h i (by simp [Tgt.slots]))
  | .tp ts, d, v, ρ, ρ', σ, Q, r, re, e, q => by
    cases d with
    | tup ds =>
      cases r with
      | tup t r =>
        simp only [Tgt.ev] at e
        simp only [Tgt.rd]
        obtain ⟨h1, h2⟩ := Tgt.oks ts r re e (fun σ' h1 h2 => q σ' h1 fun vs hv => h2 vs (by simpa [Tgt.slots] using hv))
        exact ⟨_, _, rfl, t.sq, h1, h2⟩
    | _ => simp only [Tgt.ev] at e; cases e
theorem Tgt.oks : ∀ (ts : List Tgt) {ds : List D} {vs : List V} {ρ ρ' : Envr} {σ : L2.St} {Q : L2.St → Hp → Prop}, Reps K H μ ds vs → RepE K H μ ρ σ → Tgt.evs ts ds ρ = some ρ' → (∀ σ', RepE K H μ ρ' σ' → (∀ ws, (∀ i ∈ Tgt.slotss ts, i ∈ ws) → wipe σ' ws = wipe σ ws) → Q σ' H) → vs.length = ts.length ∧ Tgt.rds K ts vs σ H Q
  | [], [], vs, ρ, ρ', σ, Q, r, re, e, q => by
    cases r
    simp only [Tgt.evs] at e
    cases e
    simp only [Tgt.rds]
    exact ⟨rfl, rfl, q σ re fun _ _ => rfl⟩
  | [], _ :: _, vs, ρ, ρ', σ, Q, r, re, e, q => by simp only [Tgt.evs] at e; cases e
  | _ :: _, [], vs, ρ, ρ', σ, Q, r, re, e, q => by simp only [Tgt.evs] at e; cases e
  | t :: ts, d :: ds, vs, ρ, ρ', σ, Q, r, re, e, q => by
    cases r with
    | @cons _ v _ vs r1 r2 =>
      simp only [Tgt.evs] at e
      cases e1 : Tgt.ev t d ρ with
      | none => rw [e1] at e; cases e
      | some ρ1 =>
        rw [e1] at e
        simp only [Tgt.rds]
        have hl : vs.length = ts.length := by rw [← r2.length]; exact (Tgt.evs_len ts ds ρ1 ρ' e).symm
        refine ⟨by simp [hl], v, vs, rfl, Tgt.ok t r1 re e1 fun σ1 re1 w1 => ?_⟩
        exact (Tgt.oks ts r2 re1 e (fun σ' re' w2 => q σ' re' fun ws hw => (w2 ws fun i hi => hw i (by simp [Tgt.slotss, hi])).trans (w1 ws fun i hi => hw i (by simp [Tgt.slotss, hi])))).2
end
end
structure LTg (X : Cx) (target : Expr) (t : Tgt) : Prop where
  pg : PG X target (Tgt.rd X.K t)
structure LTgs (X : Cx) (targets : List Expr) (t : List Tgt) : Prop where
  pgs : PGs X targets (Tgt.rds X.K t)
section
variable {X : Cx} {E : XK} {pos : Pos}
theorem lt_nm (i : Nat) {x : Str} (hN : X.N.Nodup) (hi : X.N[i]? = some x := by rfl) (hx : Loc X.env.scope x := by first | exact .inl rfl | exact .inr rfl) (hf : X.fn x = true ∨ X.env.scope.names.lookup x = some .local := by first | exact .inl rfl | exact .inr rfl) : LTg X (.Name x pos) (.nm i) :=
  ⟨by simp only [Tgt.rd]; exact pg_name hN hi hx hf⟩
theorem lts_nil : LTgs X [] [] := ⟨by simp only [Tgt.rds]; exact pgs_nil⟩
theorem lts_cons {e : Expr} {es : List Expr} {t : Tgt} {ts : List Tgt} (h1 : LTg X e t) (h2 : LTgs X es ts)
    (hs : (assignEach (e :: es) X.env).map (·.2) = assign e X.env :: (assignEach es X.env).map (·.2) := by rfl) : LTgs X (e :: es) (t :: ts) := ⟨by simp only [Tgt.rds]; exact pgs_cons h1.pg h2.pgs hs⟩
theorem lt_tp {es : List Expr} {ts : List Tgt} {k : Nat} (hc : X.calm = true) (h : LTgs X es ts) (hn : (assignEach es X.env).length = ts.length := by rfl) (hst : (assignEach es X.env).findIdx? (·.1) = none := by rfl) : LTg X (.Tuple es k pos) (.tp ts) :=
  ⟨by simp only [Tgt.rd]; exact pg_tup hc h.pgs hn hst⟩

/-! ### statements -/
inductive SRes where
  | nx (ρ : Envr) (st : Store)
  | rt (d : D) (st : Store)
  | bk (ρ : Envr) (st : Store)
  | ct (ρ : Envr) (st : Store)
  | exc (x : Exn) (st : Store)
  | stuck
abbrev SS := Envr → Store → SRes
def PostS (K : PySem.W.Frag) (H : Hp) (μ : List Addr) (r : SRes) (D : Ends) (E : XK) : Prop :=
  match r with
  | .nx ρ st => ∀ σ' H' μ', Ext H μ H' μ' → RepE K H' μ' ρ σ' → RepS K H' μ' st → D.nx σ' H'
  | .rt d st => ∀ v H' μ', Ext H μ H' μ' → Rep K H' μ' d v → RepS K H' μ' st → D.rt v H'
  | .bk ρ st => ∀ σ' H' μ', Ext H μ H' μ' → RepE K H' μ' ρ σ' → RepS K H' μ' st → D.bk σ' H'
  | .ct ρ st => ∀ σ' H' μ', Ext H μ H' μ' → RepE K H' μ' ρ σ' → RepS K H' μ' st → D.ct σ' H'
  | .exc x st => ∀ c od H' μ', Ext H μ H' μ' → RepX K H' μ' x c od → RepS K H' μ' st → E c od H'
  | .stuck => False
theorem PostS.ext {K : PySem.W.Frag} {H H1 : Hp} {μ μ1 : List Addr} {r : SRes} {D : Ends} (x : Ext H μ H1 μ1) (p : PostS K H μ r D E) : PostS K H1 μ1 r D E := by
  cases r with
  | nx ρ st => exact fun σ' H' μ' e a b => p σ' H' μ' (x.trans e) a b
  | bk ρ st => exact fun σ' H' μ' e a b => p σ' H' μ' (x.trans e) a b
  | ct ρ st => exact fun σ' H' μ' e a b => p σ' H' μ' (x.trans e) a b
  | rt d st => exact fun v H' μ' e a b => p v H' μ' (x.trans e) a b
  | exc y st => exact fun c od H' μ' e a b => p c od H' μ' (x.trans e) a b
  | stuck => exact p
def liftS (K : PySem.W.Frag) (E : XK) (f : SS) : TS := fun D σ H => ∃ ρ st μ, RepE K H μ ρ σ ∧ RepS K H μ st ∧ PostS K H μ (f ρ st) D E
structure LS (X : Cx) (E : XK) (s : Stmt) (f : SS) : Prop where
  ps : PS X s (liftS X.K E f)
structure LSs (X : Cx) (E : XK) (s : List Stmt) (f : SS) : Prop where
  pss : PSs X s (liftS X.K E f)
theorem psMono {s : Stmt} {t t' : TS} (h : PS X s t) (m : ∀ D σ H, t' D σ H → t D σ H) : PS X s t' := ⟨fun pins s σ H D I q => h.run pins s σ H D I (m D σ H q)⟩
theorem pssMono {s : List Stmt} {t t' : TS} (h : PSs X s t) (m : ∀ D σ H, t' D σ H → t D σ H) : PSs X s t' := ⟨fun pins s σ H D I q => h.run pins s σ H D I (m D σ H q)⟩
/-- an expression's result, then a statement's -/
def Res.thn {α : Type} (r : Res α) (f : α → Store → SRes) : SRes := match r with
  | .ok a st => f a st
  | .exc x st => .exc x st
  | .stuck => .stuck
theorem thn_ok {α : Type} {a : α} {st : Store} {f : α → Store → SRes} : (Res.ok a st).thn f = f a st := rfl
theorem Post.thn {K : PySem.W.Frag} {H : Hp} {μ : List Addr} {r : Res D} {f : D → Store → SRes} {De : Ends} (p : PostS K H μ (r.thn f) De E) : Post K H μ r (Then K H μ fun d st1 H1 μ1 => PostS K H1 μ1 (f d st1) De E) E := by
  cases r with
  | ok d st => exact fun v H' μ' e a b => ⟨d, st, μ', e, a, b, p.ext e⟩
  | exc y st => exact p
  | stuck => exact p
theorem PostB.thn {K : PySem.W.Frag} {H : Hp} {μ : List Addr} {r : Res Bool} {f : Bool → Store → SRes} {De : Ends} (p : PostS K H μ (r.thn f) De E) : PostB K H μ r (ThenB K H μ fun d st1 H1 μ1 => PostS K H1 μ1 (f d st1) De E) E := by
  cases r with
  | ok d st => exact fun H' μ' e b => ⟨st, μ', e, b, p.ext e⟩
  | exc y st => exact p
  | stuck => exact p
theorem PostL.thn {K : PySem.W.Frag} {H : Hp} {μ : List Addr} {r : Res (List D)} {f : List D → Store → SRes} {De : Ends} (p : PostS K H μ (r.thn f) De E) : PostL K H μ r (ThenL K H μ fun d st1 H1 μ1 => PostS K H1 μ1 (f d st1) De E) E := by
  cases r with
  | ok d st => exact fun v H' μ' e a b => ⟨d, st, μ', e, a, b, p.ext e⟩
  | exc y st => exact p
  | stuck => exact p
def SRes.thn (r : SRes) (g : SS) : SRes := match r with
  | .nx ρ st => g ρ st
  | r => r
def xNil : SS := fun ρ st => .nx ρ st
def xSeq (f g : SS) : SS := fun ρ st => (f ρ st).thn g
theorem lss_nil : LSs X E [] xNil := ⟨pssMono pss_nil fun D σ H ⟨ρ, st, μ, re, rs, p⟩ => p σ H μ (.refl _ _) re rs⟩
theorem lss_cons {s : Stmt} {ss : List Stmt} {f g : SS} (h1 : LS X E s f) (h2 : LSs X E ss g) : LSs X E (s :: ss) (xSeq f g) :=
  ⟨pssMono (pss_cons h1.ps h2.pss) fun D σ H ⟨ρ, st, μ, re, rs, p⟩ => by
    refine ⟨ρ, st, μ, re, rs, ?_⟩
    unfold xSeq at p
    cases e : f ρ st with
    | nx ρ' st' => rw [e] at p; exact fun σ' H' μ' x a b => ⟨ρ', st', μ', a, b, PostS.ext x p⟩
    | rt d st' => rw [e] at p; exact p
    | bk ρ' st' => rw [e] at p; exact p
    | ct ρ' st' => rw [e] at p; exact p
    | exc y st' => rw [e] at p; exact p
    | stuck => rw [e] at p; exact p⟩
theorem lss_one {s : Stmt} {f : SS} (h1 : LS X E s f) : LSs X E [s] f := ⟨pss_one h1.ps⟩
def xBreak : SS := fun ρ st => .bk ρ st
def xCont : SS := fun ρ st => .ct ρ st
theorem ls_pass : LS X E (.Pass pos) xNil := ⟨psMono ps_pass fun D σ H ⟨ρ, st, μ, re, rs, p⟩ => p σ H μ (.refl _ _) re rs⟩
theorem ls_break : LS X E (.Break pos) xBreak := ⟨psMono ps_break fun D σ H ⟨ρ, st, μ, re, rs, p⟩ => p σ H μ (.refl _ _) re rs⟩
theorem ls_cont : LS X E (.Continue pos) xCont := ⟨psMono ps_continue fun D σ H ⟨ρ, st, μ, re, rs, p⟩ => p σ H μ (.refl _ _) re rs⟩
def xRet (f : SE) : SS := fun ρ st => (f ρ st).thn fun d st => .rt d st
theorem ls_ret {e : Expr} {f : SE} (h : LE X E e f) : LS X E (.Return (some e) pos) (xRet f) := ⟨psMono (ps_ret h.pe) fun D σ H ⟨ρ, st, μ, re, rs, p⟩ =>
  ⟨ρ, st, μ, re, rs, (Post.thn p).mono fun v H1 ⟨d, st1, μ1, x1, r1, s1, p1⟩ => p1 v H1 μ1 (.refl _ _) r1 s1⟩⟩
def xRetN : SS := fun _ st => .rt .non st
theorem ls_retN : LS X E (.Return none pos) xRetN := ⟨psMono ps_retN fun D σ H ⟨ρ, st, μ, re, rs, p⟩ => p .non H μ (.refl _ _) .non rs⟩
def xExpr (f : SE) : SS := fun ρ st => (f ρ st).thn fun _ st => .nx ρ st
theorem ls_expr {e : Expr} {f : SE} (h : LE X E e f) (hs : swapsWith e none pos.line X.env = pure false := by rfl) : LS X E (.Expr e pos) (xExpr f) := ⟨psMono (ps_expr h.pe hs) fun D σ H ⟨ρ, st, μ, re, rs, p⟩ =>
  ⟨ρ, st, μ, re, rs, (Post.thn p).mono fun v H1 ⟨d, st1, μ1, x1, r1, s1, p1⟩ => p1 σ H1 μ1 (.refl _ _) (re.ext x1) s1⟩⟩
def xIf (t : SB) (f g : SS) : SS := fun ρ st => (t ρ st).thn fun b st => if b = true then f ρ st else g ρ st
theorem ls_if {c : Expr} {a b : List Stmt} {t : SB} {f g : SS} (hc : LB X E c t) (ha : LSs X E a f) (hb : LSs X E b g) : LS X E (.If c a b pos) (xIf t f g) := ⟨psMono (ps_if hc.pt ha.pss hb.pss) fun D σ H ⟨ρ, st, μ, re, rs, p⟩ =>
  ⟨ρ, st, μ, re, rs, (PostB.thn p).mono fun b H1 ⟨st1, μ1, x1, s1, p1⟩ => by
    cases b with
    | true => rw [if_pos rfl] at p1 ⊢; exact ⟨ρ, st1, μ1, re.ext x1, s1, p1⟩
    | false => rw [if_neg Bool.false_ne_true] at p1 ⊢; exact ⟨ρ, st1, μ1, re.ext x1, s1, p1⟩⟩⟩
/-- target = value -/
def xAsg (t : Tgt) (f : SE) : SS := fun ρ st => (f ρ st).thn fun d st => match t.ev d ρ with
  | some ρ' => .nx ρ' st
  | none => .stuck
theorem lift_xAsg {K : PySem.W.Frag} {t : Tgt} {f : SE} {De : Ends} {σ : L2.St} {H : Hp} (h : liftS K E (xAsg t f) De σ H) : tAsg (lift K E f) (Tgt.rd K t) De σ H := by
  obtain ⟨ρ, st, μ, re, rs, p⟩ := h
  refine ⟨ρ, st, μ, re, rs, (Post.thn p).mono fun v H1 ⟨d, st1, μ1, x1, r1, s1, p1⟩ => ?_⟩
  dsimp only at p1
  cases e : t.ev d ρ with
  | none => rw [e] at p1; exact p1.elim
  | some ρ' =>
    rw [e] at p1
    exact Tgt.ok t r1 (re.ext x1) e fun σ' re' _ => p1 σ' H1 μ1 (.refl _ _) re' s1
theorem ls_set (i : Nat) {x : Str} {e : Expr} {f : SE} {pos' : Pos} (hN : X.N.Nodup) (he : LE X E e f) (hi : X.N[i]? = some x := by rfl) (hx : Loc X.env.scope x := by first | exact .inl rfl | exact .inr rfl) (hs : swapsWith e (some (.Name x pos')) pos.line X.env = pure false := by rfl) (hf : X.fn x = true ∨ X.env.scope.names.lookup x = some .local := by first | exact .inl rfl | exact .inr rfl) :
    LS X E (.Assign [.Name x pos'] e pos) (xAsg (.nm i) f) := ⟨psMono (ps_set hN hi hx he.pe hs hf) fun D σ H h => by
      have := lift_xAsg h
      simp only [Tgt.rd] at this
      exact this⟩
theorem ls_asg {tg e : Expr} {f : SE} {t : Tgt} (he : LE X E e f) (ht : LTg X tg t) (hs : swapsWithSole [tg] e pos.line X.env = pure false := by rfl) (hw : swappedStores [tg] e X.env = pure none := by rfl)
    (h1 : (assignEach [tg] X.env).map (·.2) = [assign tg X.env] := by rfl) : LS X E (.Assign [tg] e pos) (xAsg t f) := ⟨psMono (ps_asg he.pe ht.pg hs hw h1) fun D σ H h => lift_xAsg h⟩
/-- a, b = x, y by plain local names -/
def xPar (i j : Nat) (f : SL) : SS := fun ρ st => (f ρ st).thn fun ds st => match ds with
  | [d, d'] => .nx ((ρ.set i (some d)).set j (some d')) st
  | _ => .stuck
theorem ls_par (i j : Nat) {x y : Str} {a b : Expr} {f : SL} {px py pt : Pos} {kt k2 : Nat} {pt2 : Pos} (hc : X.calm = true) (hN : X.N.Nodup) (ha : LL X E [a, b] f) (hi : X.N[i]? = some x := by rfl) (hj : X.N[j]? = some y := by rfl) (hij : i ≠ j := by decide)
    (hx : X.env.scope.names.lookup x = some .local := by rfl) (hy : X.env.scope.names.lookup y = some .local := by rfl)
    (hw : swappedStores [.Tuple [.Name x px, .Name y py] kt pt] (.Tuple [a, b] k2 pt2) X.env = pure (some [x, y]) := by rfl)
    (hs : swapsWithSole [.Tuple [.Name x px, .Name y py] kt pt] (.Tuple [a, b] k2 pt2) pos.line X.env = pure false := by rfl) :
    LS X E (.Assign [.Tuple [.Name x px, .Name y py] kt pt] (.Tuple [a, b] k2 pt2) pos) (xPar i j f) := ⟨psMono (ps_par hc hN hi hj hij hx hy ha.pa hw hs) fun D σ H ⟨ρ, st, μ, re, rs, p⟩ =>
  ⟨ρ, st, μ, re, rs, (PostL.thn p).mono fun vs H1 ⟨ds, st1, μ1, x1, r1, s1, p1⟩ => by
    dsimp only at p1
    split at p1
    · obtain ⟨v, w', rfl, r2, r3⟩ := reps2 r1
      exact ⟨v, w', rfl, p1 _ H1 μ1 (.refl _ _) (((re.ext x1).set r2).set r3) s1⟩
    · exact p1.elim⟩⟩
def xPar3 (i j l : Nat) (f : SL) : SS := fun ρ st => (f ρ st).thn fun ds st => match ds with
  | [d, d', d2] => .nx (((ρ.set i (some d)).set j (some d')).set l (some d2)) st
  | _ => .stuck
/-- name op= e -/
def xAug (i : Nat) (F : F2) (f : SE) : SS := fun ρ st => match ρ[i]? with
  | some (some d) => (f ρ st).thn fun d' st => (F d d' st).thn fun z st => .nx (ρ.set i (some z)) st
  | _ => .stuck
def IpL (X : Cx) (E : XK) (op : Operator) (F : F2) : Prop := PIp X op (lift2 X.K E F)
theorem ls_aug (i : Nat) {x : Str} {e : Expr} {f : SE} {op : Operator} {F : F2} {pos' : Pos} (hN : X.N.Nodup) (he : LE X E e f) (ho : IpL X E op F) (hi : X.N[i]? = some x := by rfl) (hx : Loc X.env.scope x := by first | exact .inl rfl | exact .inr rfl) (hf : X.fn x = true ∨ X.env.scope.names.lookup x = some .local := by first | exact .inl rfl | exact .inr rfl) :
    LS X E (.AugAssign (.Name x pos') op e pos) (xAug i F f) := ⟨psMono (ps_aug hN hi hx he.pe ho hf) fun D σ H ⟨ρ, st, μ, re, rs, p⟩ => by
      unfold xAug at p
      split at p
      · rename_i d q
        obtain ⟨v, e1, r⟩ := re.2 i d q
        refine ⟨v, e1, ρ, st, μ, re, rs, (Post.thn p).mono fun w H1 ⟨d', st1, μ1, x1, r1, s1, p1⟩ => ?_⟩
        refine ⟨d, d', st1, μ1, r.ext x1, r1, s1, (Post.thn p1).mono fun z H2 ⟨dz, st2, μ2, x2, r2, s2, p2⟩ => ?_⟩
        exact p2 _ H2 μ2 (.refl _ _) (((re.ext x1).ext x2).set r2) s2
      · exact p.elim⟩
def vAddI : F2 := fun x y st => match x, y with
  | .int i, .int j => .ok (.int (i + j)) st
  | _, _ => .stuck
theorem ip_vAdd : IpL X E .Add vAddI := by
  intro pins s σ H x y v u Q I rx ry ⟨d, d', st, μ, h1, h2, h3, p⟩
  cases d <;> cases d' <;> first | exact (show False from p).elim | skip
  cases h1; cases h2
  exact ip_add pins s σ H _ _ v u Q I rx ry ⟨_, _, rfl, rfl, p _ H μ (.refl _ _) (.int _) h3⟩
theorem ip_vSub : IpL X E .Sub vSub := by
  intro pins s σ H x y v u Q I rx ry ⟨d, d', st, μ, h1, h2, h3, p⟩
  cases d <;> cases d' <;> first | exact (show False from p).elim | skip
  cases h1; cases h2
  exact ip_sub pins s σ H _ _ v u Q I rx ry ⟨_, _, rfl, rfl, p _ H μ (.refl _ _) (.int _) h3⟩
/-- o[i] = value -/
def xSetL (fv fo fi : SE) : SS := fun ρ st => (fv ρ st).thn fun v st => (fo ρ st).thn fun o st => (fi ρ st).thn fun i st => match o, i with
  | .ref n, .int k => match st[n]? with
    | some (.lst xs) => match ixN xs.length k with
      | some j => .nx ρ (st.set n (.lst (xs.set j v)))
      | none => .stuck
    | _ => .stuck
  | _, _ => .stuck
theorem ls_setL {o i e : Expr} {fv fo fi : SE} {tpos : Pos} (hv : LE X E e fv) (ho : LE X E o fo) (hi : LE X E i fi)
    (ha : ∀ v, assign (.Subscript o i tpos) X.env v = (do
      let ov ← holding [v] (eval o X.env)
      let iv ← holding [v, ov] (eval i X.env)
      standAt tpos
      holding [v, ov, iv] (setItem ov iv v)
      release [v, ov, iv] []) := by intro _; rfl)
    (hs : swapsWithSole [.Subscript o i tpos] e pos.line X.env = pure false := by rfl) (hw : swappedStores [.Subscript o i tpos] e X.env = pure none := by rfl)
    (h1 : (assignEach [.Subscript o i tpos] X.env).map (·.2) = [assign (.Subscript o i tpos) X.env] := by rfl) : LS X E (.Assign [.Subscript o i tpos] e pos) (xSetL fv fo fi) :=
  ⟨psMono (ps_asg hv.pe (pg_sub ho.pe hi.pe set_list ha) hs hw h1) fun D σ H ⟨ρ, st, μ, re, rs, p⟩ =>
    ⟨ρ, st, μ, re, rs, (Post.thn p).mono fun v H1 ⟨dv, st1, μ1, x1, r1, s1, p1⟩ => ⟨ρ, st1, μ1, re.ext x1, s1, (Post.thn p1).mono fun ov H2 ⟨do_, st2, μ2, x2, r2, s2, p2⟩ =>
      ⟨ρ, st2, μ2, (re.ext x1).ext x2, s2, (Post.thn p2).mono fun iv H3 ⟨di, st3, μ3, x3, r3, s3, p3⟩ => by
        dsimp only at p3
        split at p3
        · rename_i n k
          split at p3
          · rename_i xs q1
            split at p3
            · rename_i j ej
              obtain ⟨a', f1, ws, g1, rr⟩ := s3.at q1
              cases r3
              have r2' := r2.ext x3
              cases r2' with
              | ref e2 =>
                rw [e2] at f1; cases f1
                have rv := (r1.ext x2).ext x3
                have x : Ext H3 μ3 (upd H3 _ (.lst (ws.set j v))) μ3 := .write (List.mem_of_getElem? e2)
                refine ⟨_, _, _, j, rfl, rfl, g1, by rw [← rr.length]; exact ej, p3 σ _ μ3 x ((((re.ext x1).ext x2).ext x3).ext x) (s3.write e2 ⟨_, upd_same, (rr.set rv j).ext x⟩)⟩
            · exact p3.elim
          · exact p3.elim
        · exact p3.elim⟩⟩⟩⟩
open Classical in
/-- the store swept behind a statement -/
noncomputable def xSwp (f : SS) : SS := fun ρ st => match f ρ st with
  | .nx ρ' st' => if st.length ≤ st'.length ∧ (∀ d, some d ∈ ρ' → d.low st.length = true) ∧ ∀ (i : Nat) (o : SO), i < st.length → st'[i]? = some o → st[i]? = some o ∨ o.low st.length = true then .nx ρ' (st'.take st.length) else .nx ρ' st'
  | r => r
theorem ls_swp {s : Stmt} {f : SS} (h : LS X E s f) : LS X E s (xSwp f) := ⟨psMono h.ps fun D σ H ⟨ρ, st, μ, re, rs, p⟩ => by
  refine ⟨ρ, st, μ, re, rs, ?_⟩
  unfold xSwp at p
  cases e : f ρ st with
  | nx ρ' st' =>
    rw [e] at p
    dsimp only at p
    split at p
    · rename_i hc
      obtain ⟨hl, hd, hq⟩ := hc
      intro σ' H' μ' x a b
      obtain ⟨x2, s2⟩ := rs.sweep x b hq hl
      refine p σ' H' μ x2 ⟨a.1, fun i d q => ?_⟩ s2
      obtain ⟨v, e1, r⟩ := a.2 i d q
      obtain ⟨m, em, f⟩ := x.pre
      rw [em] at r
      exact ⟨v, e1, r.cut (by rw [rs.len]; exact hd d (List.mem_of_getElem? q))⟩
    · exact p
  | rt d st' => rw [e] at p; exact p
  | bk ρ' st' => rw [e] at p; exact p
  | ct ρ' st' => rw [e] at p; exact p
  | exc y st' => rw [e] at p; exact p
  | stuck => rw [e] at p; exact p⟩
end
end L3

namespace L3
open PySem PySem.Spec PyProof.Rows L2

/-! ### what is walked -/
inductive Src where
  | its (ds : List D)
  | lst (n : Nat) (ds : List D)
def Src.all : Src → List D
  | .its ds => ds
  | .lst _ ds => ds
def Src.ok (src : Src) (st : Store) : Prop := match src with
  | .its _ => True
  | .lst n ds => st[n]? = some (.lst ds)
abbrev SI := Envr → Store → Res Src
def SrcOk (K : PySem.W.Frag) (src : Src) (J : It) (H0 : Hp) (μ0 : List Addr) : Prop :=
  ∀ (H : Hp) (μ : List Addr) (st : Store), Ext H0 μ0 H μ → RepS K H μ st → src.ok st → ∀ i : Nat,
    (i < src.all.length → J.go i H ∧ ∀ x H', J.yld i H x H' → ∃ d, src.all[i]? = some d ∧ Ext H μ H' μ ∧ RepS K H' μ st ∧ Rep K H' μ d x) ∧ (i = src.all.length → J.stop i H)
def PostI (K : PySem.W.Frag) (H : Hp) (μ : List Addr) (r : Res Src) (R : It → Hp → Prop) (E : XK) : Prop :=
  match r with
  | .ok src st => ∀ J H' μ', Ext H μ H' μ' → RepS K H' μ' st → SrcOk K src J H' μ' → R J H'
  | .exc x st => ∀ c od H' μ', Ext H μ H' μ' → RepX K H' μ' x c od → RepS K H' μ' st → E c od H'
  | .stuck => False
def liftI (K : PySem.W.Frag) (E : XK) (f : SI) : TI := fun σ H R => ∃ ρ st μ, RepE K H μ ρ σ ∧ RepS K H μ st ∧ PostI K H μ (f ρ st) R E
structure LI (X : Cx) (E : XK) (tg iter : Expr) (f : SI) : Prop where
  pi : PI X tg iter (liftI X.K E f)
section
variable {X : Cx} {E : XK} {pos : Pos} {tg : Expr}
theorem piMono {iter : Expr} {t t' : TI} (h : PI X tg iter t) (m : ∀ σ H Q, t' σ H Q → t σ H Q) : PI X tg iter t' := ⟨fun pins s σ H Q I q => h.run pins s σ H Q I (m σ H Q q)⟩
theorem PostI.ext {K : PySem.W.Frag} {H H1 : Hp} {μ μ1 : List Addr} {r : Res Src} {Q : It → Hp → Prop} (x : Ext H μ H1 μ1) (p : PostI K H μ r Q E) : PostI K H1 μ1 r Q E := by
  cases r with
  | ok d st => exact fun J H' μ' e a => p J H' μ' (x.trans e) a
  | exc y st => exact fun c od H' μ' e a b => p c od H' μ' (x.trans e) a b
  | stuck => exact p
theorem Post.bindI {K : PySem.W.Frag} {H : Hp} {μ : List Addr} {r : Res D} {f : D → Store → Res Src} {Q : It → Hp → Prop} (p : PostI K H μ (r.bind f) Q E) : Post K H μ r (Then K H μ fun d st1 H1 μ1 => PostI K H1 μ1 (f d st1) Q E) E := by
  cases r with
  | ok d st => exact fun v H' μ' e a b => ⟨d, st, μ', e, a, b, p.ext e⟩
  | exc y st => exact p
  | stuck => exact p
theorem PostL.bindI {K : PySem.W.Frag} {H : Hp} {μ : List Addr} {r : Res (List D)} {f : List D → Store → Res Src} {Q : It → Hp → Prop} (p : PostI K H μ (r.bind f) Q E) : PostL K H μ r (ThenL K H μ fun d st1 H1 μ1 => PostI K H1 μ1 (f d st1) Q E) E := by
  cases r with
  | ok d st => exact fun v H' μ' e a b => ⟨d, st, μ', e, a, b, p.ext e⟩
  | exc y st => exact p
  | stuck => exact p
/-- a list, a tuple, a text -/
def iAny (K : PySem.W.Frag) (tl : TE) : TI := fun σ H R => tl σ H fun x H1 => (∃ a, x = .ref a ∧ (∃ xs, SqL K H1 a xs) ∧ R (Itl K a) H1) ∨ (∃ a, x = .ref a ∧ (∃ xs, SqT K H1 a xs) ∧ R (Itt K a) H1) ∨ (∃ z, x = .str z ∧ R (Its z) H1)
theorem pi_any {l : Expr} {tl : TE} (hl : PE X l tl) : PI X tg l (iAny X.K tl) := by
  refine ⟨fun pins s σ H R I h => ?_⟩
  refine thn (hl.run pins s σ H _ I h) fun v s1 ⟨x, H1, I1, r1, q1⟩ => ?_
  rcases q1 with ⟨a, e, ⟨xs, hq⟩, q⟩ | ⟨a, e, ⟨xs, hq⟩, q⟩ | ⟨z, e, q⟩
  · subst e
    cases r1
    obtain ⟨its, rv, p, hz⟩ := I1.list hq
    refine wpAny_pyIter_list p.isList ?_
    refine ⟨s1.heap.objs.size, [s1.heap.objs.size], _, _, H1, rfl, I1.kept (t' := s1.toks) fun b o e => Heap.get?_push_of_some _ e, turn_list a _, ⟨_, Heap.get?_push_size _ rfl, rfl, rfl⟩, fun b hb => ?_, q⟩
    have e : b = s1.heap.objs.size := by simpa using hb
    subst e
    exact I1.fpOk (Nat.le_refl _) (I1.hok.fresh (Nat.le_refl _))
  · subst e
    cases r1
    obtain ⟨its, rv, p, hz⟩ := I1.tuple hq
    refine wpAny_pyIter_tuple (show s1.heap.IsTuple a its.toArray from p) ?_
    refine ⟨s1.heap.objs.size, [s1.heap.objs.size], _, _, H1, rfl, I1.kept (t' := s1.toks) fun b o e => Heap.get?_push_of_some _ e, turn_tuple a _, ⟨_, Heap.get?_push_size _ rfl, rfl, rfl⟩, fun b hb => ?_, q⟩
    have e : b = s1.heap.objs.size := by simpa using hb
    subst e
    exact I1.fpOk (Nat.le_refl _) (I1.hok.fresh (Nat.le_refl _))
  · subst e
    obtain ⟨t, rfl⟩ := r1
    cases ha : z.cps.all (· < 128)
    · exact wpAny_pyIter_wide ha (pi_one (tk := s1.toks) I1 _ (turn_str _ z t "str_iterator" (.inr rfl)) ⟨_, Heap.get?_push_size _ rfl, rfl, rfl⟩ q)
    · exact wpAny_pyIter_ascii ha (pi_one (tk := s1.toks) I1 _ (turn_str _ z t "str_ascii_iterator" (.inl rfl)) ⟨_, Heap.get?_push_size _ rfl, rfl, rfl⟩ q)
def chars (z : Str) : List D := z.cps.toList.map fun c => .str ⟨#[c]⟩
def srcOf (d : D) (st : Store) : Option Src := match d with
  | .tup xs => some (.its xs)
  | .rl xs => some (.its xs)
  | .str z => some (.its (chars z))
  | .ref n => match st[n]? with
    | some (.lst xs) => some (.lst n xs)
    | _ => none
  | _ => none
def iSeq (f : SE) : SI := fun ρ st => (f ρ st).bind fun d st => match srcOf d st with
  | some src => .ok src st
  | none => .stuck
theorem src_tup {K : PySem.W.Frag} {H : Hp} {μ : List Addr} {a : Addr} {xs : List D} {vs : List V} (t : TupAt K H μ a vs) (r : Reps K H μ xs vs) : SrcOk K (.its xs) (Itt K a) H μ := fun H1 μ1 st1 x1 s1 _ i =>
  ⟨fun hi => by
    have hv : i < vs.length := by rw [← r.length]; exact hi
    refine ⟨⟨vs, vs[i], (t.ext x1).sq, by simp [hv]⟩, fun y H' ⟨e1, e2⟩ => ?_⟩
    subst e1
    obtain ⟨d, e3, r3⟩ := (r.ext x1).getV (e2 vs (t.ext x1).sq)
    exact ⟨d, e3, .refl _ _, s1, r3⟩, fun hi => ⟨vs, (t.ext x1).sq, by rw [hi, ← r.length]; exact Nat.le_refl _⟩⟩
theorem src_rl {K : PySem.W.Frag} {H : Hp} {μ : List Addr} {a : Addr} {xs : List D} {vs : List V} (t : RlAt K H μ a vs) (r : Reps K H μ xs vs) : SrcOk K (.its xs) (Itl K a) H μ := fun H1 μ1 st1 x1 s1 _ i =>
  ⟨fun hi => by
    have hv : i < vs.length := by rw [← r.length]; exact hi
    refine ⟨⟨vs, vs[i], (t.ext x1).sq, by simp [hv]⟩, fun y H' ⟨e1, e2⟩ => ?_⟩
    subst e1
    obtain ⟨d, e3, r3⟩ := (r.ext x1).getV (e2 vs (t.ext x1).sq)
    exact ⟨d, e3, .refl _ _, s1, r3⟩, fun hi => ⟨vs, (t.ext x1).sq, by rw [hi, ← r.length]; exact Nat.le_refl _⟩⟩
theorem src_lst {K : PySem.W.Frag} {H : Hp} {μ : List Addr} {n : Nat} {a : Addr} {xs : List D} (e : μ[n]? = some a) : SrcOk K (.lst n xs) (Itl K a) H μ := fun H1 μ1 st1 x1 s1 ok i => by
  obtain ⟨a', f1, vs, g1, r⟩ := s1.at (show st1[n]? = some (.lst xs) from ok)
  rw [x1.get e] at f1; cases f1
  refine ⟨fun hi => ?_, fun hi => ⟨vs, .of g1, by rw [hi, ← r.length]; exact Nat.le_refl _⟩⟩
  have hv : i < vs.length := by rw [← r.length]; exact hi
  refine ⟨⟨vs, vs[i], .of g1, by simp [hv]⟩, fun y H' ⟨e1, e2⟩ => ?_⟩
  subst e1
  obtain ⟨d, e3, r3⟩ := r.getV (e2 vs (.of g1))
  exact ⟨d, e3, .refl _ _, s1, r3⟩
theorem src_str {K : PySem.W.Frag} {H : Hp} {μ : List Addr} (z : Str) : SrcOk K (.its (chars z)) (Its z) H μ := fun H1 μ1 st1 x1 s1 _ i => by
  have hl : (chars z).length = z.cps.size := by simp [chars]
  refine ⟨fun hi => ?_, fun hi => ?_⟩
  · have hi' : i < z.cps.size := by rw [← hl]; exact hi
    refine ⟨hi', fun y H' ⟨e1, c, e2, e3⟩ => ?_⟩
    subst e1 e3
    refine ⟨.str ⟨#[c]⟩, ?_, .refl _ _, s1, .str _⟩
    show (chars z)[i]? = _
    unfold chars
    rw [List.getElem?_map, Array.getElem?_toList, e2]
    rfl
  · have : i = (chars z).length := hi
    show z.cps.size ≤ i
    omega
theorem li_seq {l : Expr} {f : SE} (h : LE X E l f) : LI X E tg l (iSeq f) := ⟨piMono (pi_any h.pe) fun σ H R ⟨ρ, st, μ, re, rs, p⟩ => by
  refine ⟨ρ, st, μ, re, rs, (Post.bindI p).mono fun v H1 ⟨d, st1, μ1, x1, r1, s1, p1⟩ => ?_⟩
  dsimp only at p1
  split at p1
  · rename_i src q
    cases d with
    | tup xs =>
      cases q
      cases r1 with
      | tup t r => exact .inr (.inl ⟨_, rfl, ⟨_, t.sq⟩, p1 _ H1 μ1 (.refl _ _) s1 (src_tup t r)⟩)
    | rl xs =>
      cases q
      cases r1 with
      | rl t r => exact .inl ⟨_, rfl, ⟨_, t.sq⟩, p1 _ H1 μ1 (.refl _ _) s1 (src_rl t r)⟩
    | str z =>
      cases q
      cases r1
      exact .inr (.inr ⟨z, rfl, p1 _ H1 μ1 (.refl _ _) s1 (src_str z)⟩)
    | ref n =>
      cases r1 with
      | ref e1 =>
        simp only [srcOf] at q
        split at q
        · rename_i xs q1
          cases q
          obtain ⟨a, f1, ws, g1, r⟩ := s1.at q1
          rw [e1] at f1; cases f1
          exact .inl ⟨_, rfl, ⟨_, .of g1⟩, p1 _ H1 μ1 (.refl _ _) s1 (src_lst e1)⟩
        · cases q
    | _ => cases q
  · exact p1.elim⟩
/-- range -/
def rangeD (lo : Int) (n : Nat) : List D := (List.range n).map fun k => .int (lo + (k : Nat))
theorem src_rng {K : PySem.W.Frag} {H : Hp} {μ : List Addr} (lo : Int) (n : Nat) : SrcOk K (.its (rangeD lo n)) (Itr lo n) H μ := fun H1 μ1 st1 x1 s1 _ i => by
  have hl : (rangeD lo n).length = n := by simp [rangeD]
  refine ⟨fun hi => ?_, fun hi => ?_⟩
  · have hi' : i < n := by rw [← hl]; exact hi
    refine ⟨hi', fun y H' ⟨e1, e2⟩ => ?_⟩
    subst e1 e2
    refine ⟨.int (lo + i), ?_, .refl _ _, s1, .int _⟩
    show (rangeD lo n)[i]? = _
    unfold rangeD
    rw [List.getElem?_map, List.getElem?_range hi']
    rfl
  · have : i = (rangeD lo n).length := hi
    show n ≤ i
    omega
def iRange1 (f : SL) : SI := fun ρ st => (f ρ st).bind fun ds st => match ds with
  | [.int j] => if -(2 ^ 62) ≤ j ∧ j < 2 ^ 62 then .ok (.its (rangeD 0 j.toNat)) st else .stuck
  | _ => .stuck
theorem li_range1 {a : Expr} {f : SL} {p : Pos} (hg : Gl X "range") (hm : X.mg "range" = none) (ha : LL X E [a] f) (hs : starEach [a] X.env = [(false, eval a X.env)] := by rfl) : LI X E tg (.Call (.Name "range" p) [a] [] pos) (iRange1 f) :=
  ⟨piMono (pi_range1 hg hm ha.pa hs) fun σ H R ⟨ρ, st, μ, re, rs, p⟩ => by
    refine ⟨ρ, st, μ, re, rs, (PostL.bindI p).mono fun vs H1 ⟨ds, st1, μ1, x1, r1, s1, p1⟩ => ?_⟩
    dsimp only at p1
    split at p1
    · split at p1
      · rename_i hz
        obtain ⟨v, rfl, r⟩ := reps1 r1
        cases r
        exact ⟨_, rfl, hz.1, hz.2, p1 _ H1 μ1 (.refl _ _) s1 (src_rng 0 _)⟩
      · exact p1.elim
    · exact p1.elim⟩
def iRange2 (f : SL) : SI := fun ρ st => (f ρ st).bind fun ds st => match ds with
  | [.int i, .int j] => if -(2 ^ 62) ≤ i ∧ i < 2 ^ 62 ∧ -(2 ^ 62) ≤ j ∧ j < 2 ^ 62 then .ok (.its (rangeD i (j - i).toNat)) st else .stuck
  | _ => .stuck
theorem li_range2 {a b : Expr} {f : SL} {p : Pos} (hg : Gl X "range") (hm : X.mg "range" = none) (ha : LL X E [a, b] f) (hs : starEach [a, b] X.env = [(false, eval a X.env), (false, eval b X.env)] := by rfl) (hs2 : starEach [b] X.env = [(false, eval b X.env)] := by rfl) : LI X E tg (.Call (.Name "range" p) [a, b] [] pos) (iRange2 f) :=
  ⟨piMono (pi_range2 hg hm ha.pa hs hs2) fun σ H R ⟨ρ, st, μ, re, rs, p⟩ => by
    refine ⟨ρ, st, μ, re, rs, (PostL.bindI p).mono fun vs H1 ⟨ds, st1, μ1, x1, r1, s1, p1⟩ => ?_⟩
    dsimp only at p1
    split at p1
    · split at p1
      · rename_i hz
        obtain ⟨v, w', rfl, r, r'⟩ := reps2 r1
        cases r; cases r'
        exact ⟨_, _, rfl, hz, p1 _ H1 μ1 (.refl _ _) s1 (src_rng _ _)⟩
      · exact p1.elim
    · exact p1.elim⟩

/-! ### for -/
open Classical in
noncomputable def forL (src : Src) (t : Tgt) (body : SS) : List D → Envr → Store → SRes
  | [], ρ, st => if src.ok st then .nx ρ st else .stuck
  | d :: ds, ρ, st => if src.ok st then match t.ev d ρ with
    | some ρ1 => match body ρ1 st with
      | .nx ρ2 st2 => forL src t body ds ρ2 st2
      | .ct ρ2 st2 => forL src t body ds ρ2 st2
      | .bk ρ2 st2 => .nx ρ2 st2
      | r => r
    | none => .stuck
    else .stuck
noncomputable def xFor (f : SI) (t : Tgt) (body : SS) : SS := fun ρ st => (f ρ st).thn fun src st => forL src t body src.all ρ st
theorem PostI.thn {K : PySem.W.Frag} {H : Hp} {μ : List Addr} {r : Res Src} {f : Src → Store → SRes} {De : Ends} (p : PostS K H μ (r.thn f) De E) :
    PostI K H μ r (fun J H1 => ∃ src st1 μ1, Ext H μ H1 μ1 ∧ RepS K H1 μ1 st1 ∧ SrcOk K src J H1 μ1 ∧ PostS K H1 μ1 (f src st1) De E) E := by
  cases r with
  | ok d st => exact fun J H' μ' e b so => ⟨d, st, μ', e, b, so, PostS.ext e p⟩
  | exc y st => exact p
  | stuck => exact p
theorem PostI.mono {K : PySem.W.Frag} {H : Hp} {μ : List Addr} {r : Res Src} {Q Q' : It → Hp → Prop} (p : PostI K H μ r Q E) (h : ∀ v H', Q v H' → Q' v H') : PostI K H μ r Q' E := by
  cases r with
  | ok d st => exact fun J H' μ' e b so => h J H' (p J H' μ' e b so)
  | exc y st => exact p
  | stuck => exact p
theorem ls_for {iter : Expr} {body : List Stmt} {f : SI} {t : Tgt} {g : SS} (hp : PassesOwn (model X.prog X.w) X.A X.env X.xe) (hc : X.calm = true) (hi : LI X E tg iter f) (ht : LTg X tg t) (hb : LSs X E body g)
    (hs : ∀ x, foldedSetIterable iter X.env x = pure x := by intro _; rfl) : LS X E (.For tg iter body [] pos) (xFor f t g) :=
  ⟨psMono (ps_for hp hc hi.pi ht.pg hb.pss hs) fun De σ H ⟨ρ, st, μ, re, rs, p⟩ => by
    refine ⟨ρ, st, μ, re, rs, (PostI.thn p).mono fun J H1 ⟨src, st1, μ1, x1, s1, so, p1⟩ => ?_⟩
    refine ⟨fun i m σ' H' => ∃ ρ' st' μ', Ext H1 μ1 H' μ' ∧ RepE X.K H' μ' ρ' σ' ∧ RepS X.K H' μ' st' ∧ m = src.all.length - i ∧ i ≤ src.all.length ∧ PostS X.K H' μ' (forL src t g (src.all.drop i) ρ' st') De E,
      ⟨_, ρ, st1, μ1, .refl _ _, re.ext x1, s1, rfl, Nat.zero_le _, by rw [List.drop_zero]; exact p1⟩, ?_⟩
    rintro i m σ2 H2 ⟨ρ2, st2, μ2, x2, re2, s2, rfl, hi, p2⟩
    by_cases hlt : i < src.all.length
    · rw [List.drop_eq_getElem_cons hlt] at p2
      simp only [forL] at p2
      split at p2
      · rename_i ok
        obtain ⟨h1, h2⟩ := (so H2 μ2 st2 x2 s2 ok i).1 hlt
        refine .inr ⟨h1, fun σ' H' => ∃ ρ' st' μ', Ext H1 μ1 H' μ' ∧ RepE X.K H' μ' ρ' σ' ∧ RepS X.K H' μ' st' ∧ PostS X.K H' μ' (forL src t g (src.all.drop (i + 1)) ρ' st') De E,
          fun σ' H' ⟨ρ', st', μ', a, b, c, d⟩ => ⟨src.all.length - (i + 1), by omega, ρ', st', μ', a, b, c, rfl, hlt, d⟩, fun x H3 hy => ?_⟩
        obtain ⟨d, ed, x3, s3, r3⟩ := h2 x H3 hy
        have ed' : src.all[i] = d := by rw [List.getElem?_eq_getElem hlt] at ed; exact Option.some.inj ed
        rw [ed'] at p2
        split at p2
        · rename_i ρ3 e3
          refine Tgt.ok t r3 (re2.ext x3) e3 fun σ4 re4 _ => ⟨ρ3, st2, μ2, re4, s3, ?_⟩
          have p3 := PostS.ext x3 p2
          cases e : g ρ3 st2 with
          | nx ρ5 st5 => rw [e] at p3; exact fun σ' H' μ' a b c => ⟨ρ5, st5, μ', (x2.trans x3).trans a, b, c, PostS.ext a p3⟩
          | ct ρ5 st5 => rw [e] at p3; exact fun σ' H' μ' a b c => ⟨ρ5, st5, μ', (x2.trans x3).trans a, b, c, PostS.ext a p3⟩
          | bk ρ5 st5 => rw [e] at p3; exact p3
          | rt d st5 => rw [e] at p3; exact p3
          | exc y st5 => rw [e] at p3; exact p3
          | stuck => rw [e] at p3; exact p3
        · exact p2.elim
      · exact p2.elim
    · have e : i = src.all.length := by omega
      subst e
      rw [List.drop_length] at p2
      simp only [forL] at p2
      split at p2
      · rename_i ok
        exact .inl ⟨(so H2 μ2 st2 x2 s2 ok _).2 rfl, p2 σ2 H2 μ2 (.refl _ _) re2 s2⟩
      · exact p2.elim⟩

/-! ### while, of so many turns at most -/
def whileL (t : SB) (body : SS) : Nat → SS
  | 0 => fun _ _ => .stuck
  | n + 1 => fun ρ st => (t ρ st).thn fun b st => if b = true then match body ρ st with
      | .nx ρ2 st2 => whileL t body n ρ2 st2
      | .ct ρ2 st2 => whileL t body n ρ2 st2
      | .bk ρ2 st2 => .nx ρ2 st2
      | r => r
    else .nx ρ st
theorem ls_while {c : Expr} {body : List Stmt} {t : SB} {g : SS} (n : Nat) (hp : PassesOwn (model X.prog X.w) X.A X.env X.xe) (hc : LB X E c t) (hb : LSs X E body g) : LS X E (.While c body [] pos) (whileL t g n) :=
  ⟨psMono (ps_while hp hc.pt hb.pss) fun De σ H ⟨ρ, st, μ, re, rs, p⟩ => by
    refine ⟨fun m σ' H' => ∃ ρ' st' μ', RepE X.K H' μ' ρ' σ' ∧ RepS X.K H' μ' st' ∧ PostS X.K H' μ' (whileL t g m ρ' st') De E, ⟨n, ρ, st, μ, re, rs, p⟩, ?_⟩
    rintro m σ1 H1 ⟨ρ1, st1, μ1, re1, s1, p1⟩
    cases m with
    | zero => exact p1.elim
    | succ m =>
      refine ⟨ρ1, st1, μ1, re1, s1, (PostB.thn p1).mono fun b H2 ⟨st2, μ2, x2, s2, p2⟩ => ?_⟩
      cases b with
      | false => rw [if_neg Bool.false_ne_true] at p2 ⊢; exact p2 σ1 H2 μ2 (.refl _ _) (re1.ext x2) s2
      | true =>
        rw [if_pos rfl] at p2 ⊢
        refine ⟨fun σ' H' => ∃ ρ' st' μ', RepE X.K H' μ' ρ' σ' ∧ RepS X.K H' μ' st' ∧ PostS X.K H' μ' (whileL t g m ρ' st') De E, fun σ' H' h => ⟨m, Nat.lt_succ_self m, h⟩, ρ1, st2, μ2, re1.ext x2, s2, ?_⟩
        cases e : g ρ1 st2 with
        | nx ρ5 st5 => rw [e] at p2; exact fun σ' H' μ' a b c => ⟨ρ5, st5, μ', b, c, PostS.ext a p2⟩
        | ct ρ5 st5 => rw [e] at p2; exact fun σ' H' μ' a b c => ⟨ρ5, st5, μ', b, c, PostS.ext a p2⟩
        | bk ρ5 st5 => rw [e] at p2; exact p2
        | rt d st5 => rw [e] at p2; exact p2
        | exc y st5 => rw [e] at p2; exact p2
        | stuck => rw [e] at p2; exact p2⟩

/-! ### comprehensions -/
def Res.calm {α : Type} (r : Res α) : Res α := match r with
  | .exc _ _ => .stuck
  | r => r
theorem calm_ok {α : Type} {a : α} {st : Store} : (Res.ok a st).calm = .ok a st := rfl
theorem Post.calm {K : PySem.W.Frag} {H : Hp} {μ : List Addr} {r : Res D} {Q : VK} (p : Post K H μ r.calm Q E) : Post K H μ r Q E0 := by
  cases r with
  | ok d st => exact p
  | exc y st => exact p.elim
  | stuck => exact p
theorem PostB.calm {K : PySem.W.Frag} {H : Hp} {μ : List Addr} {r : Res Bool} {Q : Bool → Hp → Prop} (p : PostB K H μ r.calm Q E) : PostB K H μ r Q E0 := by
  cases r with
  | ok d st => exact p
  | exc y st => exact p.elim
  | stuck => exact p
open Classical in
noncomputable def lcL (src : Src) (t : Tgt) (test : SB) (elt : SE) (ρ : Envr) : List D → List D → Store → Res (List D)
  | [], acc, st => if src.ok st then .ok acc st else .stuck
  | d :: ds, acc, st => if src.ok st then match t.ev d ρ with
    | some ρ1 => (test ρ1 st).calm.bind fun b st => if b = true then (elt ρ1 st).calm.bind fun y st => if acc.length < sizeLine then lcL src t test elt ρ ds (acc ++ [y]) st else .stuck else lcL src t test elt ρ ds acc st
    | none => .stuck
    else .stuck
def wipeE (ρ : Envr) : List Nat → Envr
  | [] => ρ
  | v :: vs => (wipeE ρ vs).set v none
theorem RepE.wipe {K : PySem.W.Frag} {H : Hp} {μ : List Addr} {ρ : Envr} {σ : L2.St} (h : RepE K H μ ρ σ) : ∀ vs, RepE K H μ (wipeE ρ vs) (L2.wipe σ vs)
  | [] => h
  | v :: vs => by
    obtain ⟨h1, h2⟩ := h.wipe vs
    refine ⟨by simp [wipeE, L2.wipe, h1], fun i d e => ?_⟩
    simp only [wipeE, L2.wipe] at e ⊢
    by_cases hv : v = i
    · subst hv
      by_cases hl : v < (wipeE ρ vs).length
      · rw [List.getElem?_set_self hl] at e; cases e
      · rw [List.getElem?_eq_none (by simpa using hl)] at e; cases e
    · rw [List.getElem?_set_ne hv] at e
      rw [List.getElem?_set_ne hv]
      exact h2 i d e
def sYes : SB := fun _ st => .ok true st
noncomputable def sLc (f : SI) (t : Tgt) (test : SB) (elt : SE) (vs : List Nat) : SE := fun ρ st => (f ρ st).bind fun src st => (lcL src t test elt (wipeE ρ vs) src.all [] st).bind fun ds st => .ok (.ref st.length) (st ++ [.lst ds])
structure LTs (X : Cx) (E : XK) (ifs : List Expr) (f : SB) : Prop where
  pts : PTs X ifs (liftB X.K E f)
theorem lts_yes : LTs X E [] sYes := ⟨⟨fun pins s σ H Q I ⟨ρ, st, μ, re, rs, p⟩ => pts_nil.run pins s σ H Q I (p H μ (.refl _ _) rs)⟩⟩
theorem lts_one {c : Expr} {t : SB} (h : LB X E c t) : LTs X E [c] t := ⟨pts_one h.pt⟩
theorem PostI.bind {K : PySem.W.Frag} {H : Hp} {μ : List Addr} {r : Res Src} {f : Src → Store → Res D} {Q : VK} (p : Post K H μ (r.bind f) Q E) :
    PostI K H μ r (fun J H1 => ∃ src st1 μ1, Ext H μ H1 μ1 ∧ RepS K H1 μ1 st1 ∧ SrcOk K src J H1 μ1 ∧ Post K H1 μ1 (f src st1) Q E) E := by
  cases r with
  | ok d st => exact fun J H' μ' e b so => ⟨d, st, μ', e, b, so, p.ext e⟩
  | exc y st => exact p
  | stuck => exact p
theorem wipe_wipe (σ : L2.St) (vs : List Nat) : L2.wipe (L2.wipe σ vs) vs = L2.wipe σ vs := by
  have pt : ∀ (ws : List Nat) (τ : L2.St) (i : Nat), (L2.wipe τ ws)[i]? = if i ∈ ws ∧ i < τ.length then some none else τ[i]? := by
    intro ws
    induction ws with
    | nil => intro τ i; simp [L2.wipe]
    | cons w ws ih =>
      intro τ i
      simp only [L2.wipe]
      by_cases hw : w = i
      · subst hw
        by_cases hl : w < τ.length
        · rw [List.getElem?_set_self (by rw [L2.wipe_length]; exact hl), if_pos ⟨by simp, hl⟩]
        · rw [List.getElem?_eq_none (by rw [List.length_set, L2.wipe_length]; omega), if_neg (fun h => hl h.2), List.getElem?_eq_none (by omega)]
      · rw [List.getElem?_set_ne hw, ih]
        have : (i ∈ w :: ws) ↔ i ∈ ws := by simp [Ne.symm hw]
        simp only [this]
  apply List.ext_getElem?
  intro i
  rw [pt vs (L2.wipe σ vs) i, L2.wipe_length, pt vs σ i]
  split <;> rfl
theorem lift_lc {K : PySem.W.Frag} {f : SI} {t : Tgt} {test : SB} {elt : SE} {vs : List Nat} {σ : L2.St} {H : Hp} {Q : VK} (ht : ∀ i ∈ t.slots, i ∈ vs) (h : lift K E (sLc f t test elt vs) σ H Q) :
    tLc (liftI K E f) (Tgt.rd K t) (liftB K E0 test) (lift K E0 elt) vs σ H Q := by
  obtain ⟨ρ, st, μ, re, rs, p⟩ := h
  refine ⟨ρ, st, μ, re, rs, (PostI.bind p).mono fun J H1 ⟨src, st1, μ1, x1, s1, so, p1⟩ => fun L hL => ?_⟩
  have hLμ : L ∉ μ1 := s1.free hL
  refine ⟨fun i m H' => ∃ st' μ' acc vacc, RepS K H' μ' st' ∧ H' L = some (.lst vacc) ∧ Reps K H' μ' acc vacc ∧ L ∉ μ' ∧ Ext H1 μ1 H' μ' ∧ m = src.all.length - i ∧ i ≤ src.all.length ∧
      Post K H1 μ1 ((lcL src t test elt (wipeE ρ vs) (src.all.drop i) acc st').bind fun ds st => .ok (.ref st.length) (st ++ [.lst ds])) Q E, ?_, ?_⟩
  · refine ⟨_, st1, μ1, [], [], s1.new hL, upd_same, .nil, hLμ, .new hL, rfl, Nat.zero_le _, ?_⟩
    rw [List.drop_zero]
    exact p1
  · rintro i m H2 ⟨st2, μ2, acc, vacc, s2, hl2, ra, hn2, x2, rfl, hi, p2⟩
    by_cases hlt : i < src.all.length
    · rw [List.drop_eq_getElem_cons hlt] at p2
      simp only [lcL] at p2
      by_cases ok : src.ok st2
      · rw [if_pos ok] at p2
        obtain ⟨h1, h2⟩ := (so H2 μ2 st2 x2 s2 ok i).1 hlt
        refine .inr ⟨h1, fun H' => ∃ st' μ' acc vacc, RepS K H' μ' st' ∧ H' L = some (.lst vacc) ∧ Reps K H' μ' acc vacc ∧ L ∉ μ' ∧ Ext H1 μ1 H' μ' ∧
            Post K H1 μ1 ((lcL src t test elt (wipeE ρ vs) (src.all.drop (i + 1)) acc st').bind fun ds st => .ok (.ref st.length) (st ++ [.lst ds])) Q E,
          fun H' ⟨st', μ', acc, vacc, b, c, d, e, g, k⟩ => ⟨src.all.length - (i + 1), by omega, st', μ', acc, vacc, b, c, d, e, g, rfl, hlt, k⟩, fun x H3 hy => ?_⟩
        obtain ⟨d, ed, x3, s3, r3⟩ := h2 x H3 hy
        have ed' : src.all[i] = d := by rw [List.getElem?_eq_getElem hlt] at ed; exact Option.some.inj ed
        rw [ed'] at p2
        have hl3 : H3 L = some (.lst vacc) := x3.keep _ _ hl2 hn2
        have ra3 := ra.ext x3
        cases e3 : t.ev d (wipeE ρ vs) with
        | none => rw [e3] at p2; exact p2.elim
        | some ρ3 =>
          rw [e3] at p2
          dsimp only at p2
          refine Tgt.ok t r3 (((re.ext x1).ext x2).ext x3 |>.wipe vs) e3 fun σ4 re4 w4 => ⟨(w4 vs ht).trans (wipe_wipe σ vs), ?_⟩
          refine ⟨ρ3, st2, μ2, re4, s3, ?_⟩
          cases et : test ρ3 st2 with
          | exc y st5 => rw [et] at p2; exact p2.elim
          | stuck => rw [et] at p2; exact p2.elim
          | ok b st5 =>
            rw [et, calm_ok, bind_ok] at p2
            intro H5 μ5 x5 s5
            have hl5 : H5 L = some (.lst vacc) := x5.keep _ _ hl3 hn2
            have hn5 : L ∉ μ5 := x5.not_mem hl3 hn2
            cases b with
            | false =>
              rw [if_neg Bool.false_ne_true] at p2 ⊢
              exact ⟨st5, μ5, acc, vacc, s5, hl5, ra3.ext x5, hn5, (x2.trans x3).trans x5, p2⟩
            | true =>
              rw [if_pos rfl] at p2 ⊢
              refine ⟨ρ3, st5, μ5, re4.ext x5, s5, ?_⟩
              cases ee : elt ρ3 st5 with
              | exc y st6 => rw [ee] at p2; exact p2.elim
              | stuck => rw [ee] at p2; exact p2.elim
              | ok dy st6 =>
                rw [ee, calm_ok, bind_ok] at p2
                intro y H6 μ6 x6 r6 s6
                have hl6 : H6 L = some (.lst vacc) := x6.keep _ _ hl5 hn5
                have hn6 : L ∉ μ6 := x6.not_mem hl5 hn5
                have ra6 := (ra3.ext x5).ext x6
                by_cases hz : acc.length < sizeLine
                · rw [if_pos hz] at p2
                  refine ⟨vacc, hl6, by rw [← ra6.length]; exact hz, ?_⟩
                  have x16 := ((x2.trans x3).trans x5).trans x6
                  refine ⟨st6, μ6, acc ++ [dy], vacc ++ [y], s6.chg hl6 hn6, upd_same, (ra6.append (.cons r6 .nil)).chg hl6, hn6, ⟨x16.pre, fun b o hb hnb => ?_, fun b hb => ?_⟩, p2⟩
                  · rw [upd_ne (ne_of_none hb hL)]
                    exact x16.keep b o hb hnb
                  · by_cases q : b = L
                    · rw [q]; exact hL
                    · rw [upd_ne q] at hb; exact x16.live b hb
                · rw [if_neg hz] at p2; exact p2.elim
      · rw [if_neg ok] at p2; exact p2.elim
    · have e : i = src.all.length := by omega
      subst e
      rw [List.drop_length] at p2
      simp only [lcL] at p2
      by_cases ok : src.ok st2
      · rw [if_pos ok, bind_ok] at p2
        refine .inl ⟨(so H2 μ2 st2 x2 s2 ok _).2 rfl, ?_⟩
        -- the new list enters the store
        refine p2 (.ref L) H2 (μ2 ++ [L]) ⟨?_, x2.keep, x2.live⟩ (.ref (by rw [← s2.len, List.getElem?_append_right (Nat.le_refl _)]; simp)) ?_
        · obtain ⟨m, em, f⟩ := x2.pre
          exact ⟨m ++ [L], by rw [em, List.append_assoc], fun a ha => by
            rcases List.mem_append.mp ha with h | h
            · exact f a h
            · have : a = L := by simpa using h
              rw [this]; exact hL⟩
        · have xe : Ext H2 μ2 H2 (μ2 ++ [L]) → True := fun _ => trivial
          refine ⟨by simp [s2.len], ?_, fun i b u e f => ?_⟩
          · rw [List.nodup_append]
            refine ⟨s2.nd, by simp, fun x hx y hy => ?_⟩
            have : y = L := by simpa using hy
            subst this
            rintro rfl
            exact hn2 hx
          · by_cases hi : i < μ2.length
            · rw [List.getElem?_append_left hi] at e
              rw [List.getElem?_append_left (by rw [← s2.len]; exact hi)] at f
              exact (s2.obj i b u e f).more hl2
            · have hj : i < (μ2 ++ [L]).length := (List.getElem?_eq_some_iff.mp e).1
              have : i = μ2.length := by simp at hj; omega
              subst this
              rw [List.getElem?_append_right (Nat.le_refl _)] at e
              rw [s2.len, List.getElem?_append_right (Nat.le_refl _)] at f
              simp at e f
              subst e f
              exact ⟨vacc, hl2, ra.more hl2⟩
      · rw [if_neg ok] at p2; exact p2.elim
theorem le_lc {elt iter : Expr} {ifs : List Expr} {scope : Scope} {own : List (Str × Nat)} {vs : List Nat} {f : SI} {t : Tgt} {test : SB} {g : SE} (hc : X.calm = true) (hN : X.N.Nodup) (hi : LI X E tg iter f) (ok : BlkOk X.N X.env.scope scope own) (hs : ∀ i ∈ t.slots, i ∈ vs)
    (hg : ∀ (s : Shared) (H : Hp) (C : Addr) (cl : List (Str × Addr)) (fp : List Addr), LTg (X.blk s H scope (compEnvC scope cl C X.env) fp) tg t)
    (ht : ∀ (s : Shared) (H : Hp) (C : Addr) (cl : List (Str × Addr)) (fp : List Addr), LTs (X.blk s H scope (compEnvC scope cl C X.env) fp) E0 ifs test)
    (he : ∀ (s : Shared) (H : Hp) (C : Addr) (cl : List (Str × Addr)) (fp : List Addr), LE (X.blk s H scope (compEnvC scope cl C X.env) fp) E0 elt g) (hs2 : ∀ x, foldedSetIterable iter X.env x = pure x := by intro _; rfl) (hv : own.map (·.2) = vs := by rfl) :
    LE X E (.ListComp elt [⟨tg, iter, ifs, 0⟩] scope pos) (sLc f t test g vs) :=
  ⟨peMono (pe_lc hc hN hi.pi ok (fun s H C cl fp => (hg s H C cl fp).pg) (fun s H C cl fp => (ht s H C cl fp).pts) (fun s H C cl fp => (he s H C cl fp).pe) hs2) fun σ H Q h => by rw [hv]; exact lift_lc hs h⟩
theorem ls_setLc (i : Nat) {y : Str} {py spos : Pos} {elt iter : Expr} {ifs : List Expr} {scope : Scope} {own : List (Str × Nat)} {vs : List Nat} {f : SI} {t : Tgt} {test : SB} {g : SE} (hc : X.calm = true) (hN : X.N.Nodup) (hi : LI X E tg iter f) (ok : BlkOk X.N X.env.scope scope own) (hs : ∀ i ∈ t.slots, i ∈ vs)
    (hg : ∀ (s : Shared) (H : Hp) (C : Addr) (cl : List (Str × Addr)) (fp : List Addr), LTg (X.blk s H scope (compEnvC scope cl C X.env) fp) tg t)
    (ht : ∀ (s : Shared) (H : Hp) (C : Addr) (cl : List (Str × Addr)) (fp : List Addr), LTs (X.blk s H scope (compEnvC scope cl C X.env) fp) E0 ifs test)
    (he : ∀ (s : Shared) (H : Hp) (C : Addr) (cl : List (Str × Addr)) (fp : List Addr), LE (X.blk s H scope (compEnvC scope cl C X.env) fp) E0 elt g) (hy : X.N[i]? = some y := by rfl) (hyl : X.env.scope.names.lookup y = some .local := by rfl)
    (hsw : swapsWith (.ListComp elt [⟨tg, iter, ifs, 0⟩] scope pos) (some (.Name y py)) spos.line X.env = pure true := by exact sw_true rfl rfl rfl (by decide +kernel)) (hs2 : ∀ x, foldedSetIterable iter X.env x = pure x := by intro _; rfl) (hv : own.map (·.2) = vs := by rfl) :
    LS X E (.Assign [.Name y py] (.ListComp elt [⟨tg, iter, ifs, 0⟩] scope pos) spos) (xAsg (.nm i) (sLc f t test g vs)) :=
  ⟨psMono (ps_setLc hc hN hy hyl hsw hi.pi ok (fun s H C cl fp => (hg s H C cl fp).pg) (fun s H C cl fp => (ht s H C cl fp).pts) (fun s H C cl fp => (he s H C cl fp).pe) hs2) fun De σ H h => by
    obtain ⟨ρ, st, μ, re, rs, p⟩ := lift_xAsg h
    have h2 := lift_lc hs ⟨ρ, st, μ, re, rs, p⟩
    simp only [Tgt.rd] at h2
    rw [hv]
    exact h2⟩

/-! ### a def -/
noncomputable def fnBody (n : Nat) (body : SS) : FL := fun ds st => swept st (match body (ds.map some ++ List.replicate (n - ds.length) none) st with
  | .rt d st' => .ok d st'
  | .nx _ st' => .ok .non st'
  | .exc x st' => .exc x st'
  | _ => .stuck)
theorem repE_start {K : PySem.W.Frag} {H : Hp} {μ : List Addr} {ds : List D} {vs : List V} {N : List Str} (r : Reps K H μ ds vs) : RepE K H μ (ds.map some ++ List.replicate (N.length - ds.length) none) (L2.start N vs) := by
  unfold L2.start
  refine ⟨by simp [r.length], fun i d e => ?_⟩
  by_cases hi : i < ds.length
  · rw [List.getElem?_append_left (by simpa using hi), List.getElem?_map] at e
    cases q : ds[i]? with
    | none => rw [q] at e; cases e
    | some d' =>
      rw [q] at e
      have e' : d' = d := by simpa using e
      subst e'
      obtain ⟨v, e1, r1⟩ := r.get q
      exact ⟨v, by rw [List.getElem?_append_left (by rw [List.length_map, ← r.length]; exact hi), List.getElem?_map, e1]; rfl, r1⟩
  · rw [List.getElem?_append_right (by simpa using hi), List.getElem?_replicate] at e
    split at e <;> cases e
theorem fn_ok {P : Program} {w : World} {K : PySem.W.Frag} {mg : Str → Option Value} {base : Heap} {x qual : Str} {st : Stmt} {f : Addr} {fd : FuncData} {N ps : List Str} {k : Nat} {body : SS} (F : Fun K x qual st f fd) (S : FnScope N ps (defScope st))
    (hb : ∀ (cdv : Value) (A : Around) (outer : List Env) (s : Shared) (H : Hp) (E : XK), Room k (A.deeper (envOfC qual (defScope st) s.heap.objs.size f cdv)) → LSs (cxOf CX0 P w K mg base N qual (defScope st) f cdv A outer s H E).nox E0 (defBody st) body) :
    FnOk P w K mg base CX0 (k + 1) f fd ps (spOf K ps.length (fnBody N.length body)) :=
  F.ok S (spOf_len rfl) fun cdv A outer s H vs Q E hr ⟨hl, ds, st1, μ, r, rs, p⟩ => ⟨_, (hb cdv A outer s H E hr).pss, _, st1, μ, repE_start r, rs, by
    have p1 := post_swept rs p
    revert p1
    cases body (ds.map some ++ List.replicate (N.length - ds.length) none) st1 with
    | nx ρ st' => exact fun p1 σ' H' μ' a b c => p1 .non H' μ' a .non c
    | rt d st' => exact fun p1 => p1
    | bk ρ st' => exact fun p1 => p1.elim
    | ct ρ st' => exact fun p1 => p1.elim
    | exc y st' => exact fun p1 => p1
    | stuck => exact fun p1 => p1⟩
end
end L3

namespace L3
open PySem PySem.Spec PyProof.Rows L2

section
variable {X : Cx} {E : XK} {pos : Pos}
/-! ### a test, the store swept behind it -/
open Classical in
noncomputable def sweptB (st : Store) (r : Res Bool) : Res Bool := match r with
  | .ok d st' => if st.length ≤ st'.length ∧ ∀ (i : Nat) (o : SO), i < st.length → st'[i]? = some o → st[i]? = some o ∨ o.low st.length = true then .ok d (st'.take st.length) else .ok d st'
  | r => r
noncomputable def sSwpB (f : SB) : SB := fun ρ st => sweptB st (f ρ st)
theorem lb_swp {e : Expr} {f : SB} (h : LB X E e f) : LB X E e (sSwpB f) := ⟨ptMono h.pt fun σ H Q ⟨ρ, st, μ, re, rs, p⟩ => ⟨ρ, st, μ, re, rs, by
  unfold sSwpB at p
  cases e : f ρ st with
  | ok d st' =>
    rw [e] at p
    unfold sweptB at p
    simp only at p
    split at p
    · rename_i hc
      intro H' μ' x s'
      obtain ⟨x2, s2⟩ := rs.sweep x s' hc.2 hc.1
      exact p H' μ x2 s2
    · exact p
  | exc y st' => rw [e] at p; exact p
  | stuck => rw [e] at p; exact p⟩⟩

/-! ### defs by their names -/
def HasFn (P : Program) (w : World) (K : PySem.W.Frag) (mg : Str → Option Value) (base : Heap) (x : Str) (lvl : Nat) (ps : List Str) (G : FL) : Prop :=
  ∃ f fd, FnOk P w K mg base CX0 lvl f fd ps (spOf K ps.length G) ∧ mg x = some (.ref f) ∧ PySem.W.keepIn K (.ref f) = true ∧ Binds K fd ps []
theorem le_fn {x : Str} {p : Pos} {e : Expr} {es : List Expr} {k : Nat} {ps : List Str} {G : FL} {g : SL} (F : HasFn X.prog X.w X.K X.mg X.base x k ps G) (hr : Room k X.A) (hg : Gl X x)
    (ha : LL X E0 (e :: es) g) (hl : LenIs g ps.length) (hdb : (x == ("__debug__" : Str)) = false := by decide) (he : starEach (e :: es) X.env = (false, eval e X.env) :: starEach es X.env := by rfl) (hpl : (backTo pos (starEach es X.env)).any (·.1) = false := by rfl) :
    LE X E0 (.Call (.Name x p) (e :: es) [] pos) (sCB G g) := by
  obtain ⟨f, fd, F, hm, hk, hb⟩ := F
  exact le_call F hr hg hm hk hb pass0 ha hl hdb he hpl
theorem le_fn0 {x : Str} {p : Pos} {k : Nat} {G : FL} (F : HasFn X.prog X.w X.K X.mg X.base x k [] G) (hr : Room k X.A) (hg : Gl X x) (hdb : (x == ("__debug__" : Str)) = false := by decide) :
    LE X E0 (.Call (.Name x p) [] [] pos) (sCB G sNil) := by
  obtain ⟨f, fd, F, hm, hk, hb⟩ := F
  exact ⟨peMono (pe_call0 F hr hg hm hk hb .nil pass0 hdb) fun σ H Q ⟨ρ, st, μ, re, rs, p⟩ => ⟨rfl, [], st, μ, .nil, rs, p⟩⟩
/-- keywords: the values in the call's order, taken in the parameters' order -/
def permL {α : Type} (pm : List Nat) (xs : List α) : List α := pm.filterMap fun i => xs[i]?
def permC {α : Type} (na nb : Nat) (pm : List Nat) (us ws : List α) : List α := if us.length = na ∧ ws.length = nb then permL pm (us ++ ws) else []
def sCBk (G : FL) (pm : List Nat) (f g : SL) : SE := fun ρ st => (f ρ st).bind fun ds st => (g ρ st).bind fun es st => G (permL pm (ds ++ es)) st
theorem permL_rel {α β : Type} {R : α → β → Prop} : ∀ (pm : List Nat) {xs : List α} {ys : List β}, (∀ i : Nat, (xs[i]? = none ∧ ys[i]? = none) ∨ ∃ a b, xs[i]? = some a ∧ ys[i]? = some b ∧ R a b) → Paired R (permL pm xs) (permL pm ys)
  | [], _, _, _ => .nil
  | i :: pm, xs, ys, h => by
    unfold permL
    rcases h i with ⟨h1, h2⟩ | ⟨a, b, h1, h2, r⟩
    · rw [List.filterMap_cons_none h1, List.filterMap_cons_none h2]; exact permL_rel pm h
    · rw [List.filterMap_cons_some h1, List.filterMap_cons_some h2]; exact .cons r (permL_rel pm h)
theorem Reps.paired {K : PySem.W.Frag} {H : Hp} {μ : List Addr} : ∀ {ds : List D} {vs : List V}, Paired (Rep K H μ) ds vs → Reps K H μ ds vs
  | _, _, .nil => .nil
  | _, _, .cons r t => .cons r (Reps.paired t)
theorem Reps.perm {K : PySem.W.Frag} {H : Hp} {μ : List Addr} {ds : List D} {vs : List V} (r : Reps K H μ ds vs) (pm : List Nat) : Reps K H μ (permL pm ds) (permL pm vs) :=
  Reps.paired (permL_rel pm fun i => by
    by_cases hi : i < ds.length
    · obtain ⟨v, e, q⟩ := r.get (List.getElem?_eq_getElem hi)
      exact .inr ⟨_, v, List.getElem?_eq_getElem hi, e, q⟩
    · exact .inl ⟨List.getElem?_eq_none (by omega), List.getElem?_eq_none (by rw [← r.length]; omega)⟩)
def HasFnK (P : Program) (w : World) (K : PySem.W.Frag) (mg : Str → Option Value) (base : Heap) (x : Str) (lvl : Nat) (ps : List Str) (G : FL) (na : Nat) (ks : List Str) (pm : List Nat) : Prop :=
  ∃ f fd, FnOk P w K mg base CX0 lvl f fd ps (spOf K ps.length G) ∧ mg x = some (.ref f) ∧ PySem.W.keepIn K (.ref f) = true ∧ KBinds K fd ps ks (permC na ks.length pm) (permC na ks.length pm)
theorem permC_vals {na nb : Nat} {pm : List Nat} {vs zs : List V} {us ws : List Value} (r1 : Vals vs us) (r2 : Vals zs ws) : Vals (permC na nb pm vs zs) (permC na nb pm us ws) := by
  unfold permC
  rw [r1.length, r2.length]
  split
  · have r := r1.append r2
    exact permL_rel pm fun i => by
      by_cases hi : i < (vs ++ zs).length
      · obtain ⟨v, e, q⟩ := r.get (List.getElem?_eq_getElem hi)
        exact .inr ⟨_, v, List.getElem?_eq_getElem hi, e, q⟩
      · exact .inl ⟨List.getElem?_eq_none (by omega), List.getElem?_eq_none (by rw [← r.length]; omega)⟩
  · exact .nil
theorem fun_kbinds {K : PySem.W.Frag} {x qual : Str} {st : Stmt} {f : Addr} {fd : FuncData} {ps ks : List Str} {na : Nat} {pm : List Nat} (F : Fun K x qual st f fd) (hp : ps ≠ [])
    (h : ∀ (kV doc pmv : Value) (an : Option Addr) (cdv ct : Value) (us ws : List Value), us.length = na → ws.length = ks.length → bindArgs (PySem.W.fnOf x qual (defArgs st) (defBody st) (defScope st) .none kV doc pmv an cdv ct) ⟨us, ks.zip ws⟩ = pure (ps.zip (permL pm (us ++ ws)))) :
    KBinds K fd ps ks (permC na ks.length pm) (permC na ks.length pm) := by
  obtain ⟨oc, od, kV, doc, pmv, an, cdv, ct, osl, rfl, lk, hcd⟩ := F.ex
  refine ⟨fun s us ws _ hl => ?_, fun r1 r2 => permC_vals r1 r2⟩
  unfold permC at hl ⊢
  split at hl
  · rename_i hc
    rw [if_pos hc]
    exact .of_eq (h kV doc pmv an cdv ct us ws hc.1 hc.2)
  · exact (hp (List.eq_nil_of_length_eq_zero hl.symm)).elim
theorem lift_cbk {K : PySem.W.Frag} {G : FL} {na nb n : Nat} {pm : List Nat} {f g : SL} {σ : L2.St} {H : Hp} {Q : VK} {E' : XK} (hl : LenIs f na) (hl2 : LenIs g nb) (hn : ∀ xs : List V, xs.length = na + nb → (permL pm xs).length = n) (h : lift K E0 (sCBk G pm f g) σ H Q) :
    tCallK (spOf K n G) (permC na nb pm) E' (liftL K E0 f) (liftL K E0 g) σ H Q := by
  obtain ⟨ρ, st, μ, re, rs, p⟩ := h
  refine ⟨ρ, st, μ, re, rs, ((PostL.bind p).len fun ds st' e => hl _ _ _ _ e).mono fun vs H1 ⟨en, ds, st1, μ1, x1, r1, s1, p1⟩ => ?_⟩
  refine ⟨ρ, st1, μ1, re.ext x1, s1, ((PostL.bind p1).len fun ds st' e => hl2 _ _ _ _ e).mono fun zs H2 ⟨en2, es, st2, μ2, x2, r2, s2, p2⟩ => ?_⟩
  have e : permC na nb pm vs zs = permL pm (vs ++ zs) := by unfold permC; rw [if_pos ⟨en, en2⟩]
  rw [e]
  exact ⟨hn _ (by rw [List.length_append, en, en2]), _, st2, μ2, ((r1.ext x2).append r2).perm pm, s2, p2⟩
theorem le_fnk {x : Str} {p : Pos} {e : Expr} {es : List Expr} {kws : List Keyword} {k na : Nat} {ps ks : List Str} {pm : List Nat} {G : FL} {f g : SL} (F : HasFnK X.prog X.w X.K X.mg X.base x k ps G na ks pm) (hr : Room k X.A) (hg : Gl X x)
    (ha : LL X E0 (e :: es) f) (hkw : LK X E0 kws g) (hl : LenIs f na) (hl2 : LenIs g ks.length) (hn : ∀ xs : List V, xs.length = na + ks.length → (permL pm xs).length = ps.length)
    (hall : (backToKw pos (keywordEach kws X.env)).all (·.1.isSome) = true := by rfl) (hks : (backToKw pos (keywordEach kws X.env)).filterMap (·.1) = ks := by rfl)
    (hdb : (x == ("__debug__" : Str)) = false := by decide) (he : starEach (e :: es) X.env = (false, eval e X.env) :: starEach es X.env := by rfl)
    (hpl : ((backTo pos (starEach (e :: es) X.env)).any (·.1) || (backToKw pos (keywordEach kws X.env)).any (·.1.isNone)) = false := by rfl) :
    LE X E0 (.Call (.Name x p) (e :: es) kws pos) (sCBk G pm f g) := by
  obtain ⟨fa, fd, F, hm, hk, hb⟩ := F
  exact ⟨peMono (pe_callK F hr hg hm hk hb pass0 ha.pa hkw.pk hall hks hdb he hpl) fun σ H Q h => lift_cbk hl hl2 hn h⟩
theorem pe_callK0 {x : Str} {p : Pos} {kws : List Keyword} {CX : CXT} {k : Nat} {f : Addr} {fd : FuncData} {ps ks : List Str} {sp : Sp} {tk : TA} {g : List Value → List Value → List Value} {gV : List V → List V → List V} (F : FnOk X.prog X.w X.K X.mg X.base CX k f fd ps sp) (hr : Room k X.A) (hg : Gl X x) (hm : X.mg x = some (.ref f)) (hk : PySem.W.keepIn X.K (.ref f) = true) (hb : KBinds X.K fd ps ks g gV) (hx : Passes CX X E)
    (hkw : PK X kws tk) (hall : (backToKw pos (keywordEach kws X.env)).all (·.1.isSome) = true) (hks : (backToKw pos (keywordEach kws X.env)).filterMap (·.1) = ks)
    (hdb : (x == ("__debug__" : Str)) = false) (hpl : ((backTo pos (starEach [] X.env)).any (·.1) || (backToKw pos (keywordEach kws X.env)).any (·.1.isNone)) = false) :
    PE X (.Call (.Name x p) [] kws pos) (tCallK sp gV E tNil tk) := by
  refine ⟨fun pins s σ H Q I h => ?_⟩
  refine wpAny_Call_Name_kw (ld_glob I hg hm ?_ hdb)
  refine PySem.W.callWith_KW0 (h₀ := X.base) I.ok.mod.kin hk hall (thn (hkw.run pos pins s σ H _ I h) fun ws s2 ⟨zs, H2, I2, rz, q2⟩ => ⟨I2.kIn, ?_⟩) hpl
  rw [hks]
  exact run_fnk (us := []) F hr hb hx I2 .nil rz q2
theorem le_fnk0 {x : Str} {p : Pos} {kws : List Keyword} {k : Nat} {ps ks : List Str} {pm : List Nat} {G : FL} {g : SL} (F : HasFnK X.prog X.w X.K X.mg X.base x k ps G 0 ks pm) (hr : Room k X.A) (hg : Gl X x)
    (hkw : LK X E0 kws g) (hl2 : LenIs g ks.length) (hn : ∀ xs : List V, xs.length = 0 + ks.length → (permL pm xs).length = ps.length)
    (hall : (backToKw pos (keywordEach kws X.env)).all (·.1.isSome) = true := by rfl) (hks : (backToKw pos (keywordEach kws X.env)).filterMap (·.1) = ks := by rfl)
    (hdb : (x == ("__debug__" : Str)) = false := by decide) (hpl : ((backTo pos (starEach [] X.env)).any (·.1) || (backToKw pos (keywordEach kws X.env)).any (·.1.isNone)) = false := by rfl) :
    LE X E0 (.Call (.Name x p) [] kws pos) (sCBk G pm sNil g) := by
  obtain ⟨fa, fd, F, hm, hk, hb⟩ := F
  exact ⟨peMono (pe_callK0 F hr hg hm hk hb pass0 hkw.pk hall hks hdb hpl) fun σ H Q h => by
    have h1 := lift_cbk (E' := E0) lenIs_nil hl2 hn h
    obtain ⟨ρ, st, μ, re, rs, p⟩ := h1
    exact p [] H μ (.refl _ _) .nil rs⟩

/-! ### built-ins' values -/
theorem bt_abs : bootBuiltins "abs" = some (.builtin "abs") := by decide +kernel
theorem bt_len : bootBuiltins "len" = some (.builtin "len") := by decide +kernel
theorem bt_max : bootBuiltins "max" = some (.builtin "max") := by decide +kernel
theorem bt_min : bootBuiltins "min" = some (.builtin "min") := by decide +kernel
theorem bt_sum : bootBuiltins "sum" = some (.builtin "sum") := by decide +kernel
theorem bt_sorted : bootBuiltins "sorted" = some (.builtin "sorted") := by decide +kernel
theorem bt_int : bootBuiltins "int" = some (.type "int") := by decide +kernel
theorem bt_str : bootBuiltins "str" = some (.type "str") := by decide +kernel
theorem bt_tuple : bootBuiltins "tuple" = some (.type "tuple") := by decide +kernel
theorem bt_list : bootBuiltins "list" = some (.type "list") := by decide +kernel

/-! ### three at once -/
theorem reps3 {K : PySem.W.Frag} {H : Hp} {μ : List Addr} {d d' d2 : D} {vs : List V} (r : Reps K H μ [d, d', d2] vs) : ∃ v w z, vs = [v, w, z] ∧ Rep K H μ d v ∧ Rep K H μ d' w ∧ Rep K H μ d2 z := by
  cases r with
  | cons r t =>
    obtain ⟨w, z, e, r2, r3⟩ := reps2 t
    subst e
    exact ⟨_, _, _, rfl, r, r2, r3⟩
theorem ls_par3 (i j l : Nat) {x y z : Str} {a b c : Expr} {f : SL} {px py pz pt : Pos} {kt k2 : Nat} {pt2 : Pos} (hc : X.calm = true) (hN : X.N.Nodup) (ha : LL X E [a, b, c] f) (hi : X.N[i]? = some x := by rfl) (hj : X.N[j]? = some y := by rfl) (hl : X.N[l]? = some z := by rfl) (hij : i ≠ j := by decide) (hil : i ≠ l := by decide) (hjl : j ≠ l := by decide)
    (hx : X.env.scope.names.lookup x = some .local := by rfl) (hy : X.env.scope.names.lookup y = some .local := by rfl) (hz : X.env.scope.names.lookup z = some .local := by rfl)
    (hw : swappedStores [.Tuple [.Name x px, .Name y py, .Name z pz] kt pt] (.Tuple [a, b, c] k2 pt2) X.env = pure (some [x, y, z]) := by rfl)
    (hs : swapsWithSole [.Tuple [.Name x px, .Name y py, .Name z pz] kt pt] (.Tuple [a, b, c] k2 pt2) pos.line X.env = pure false := by rfl) :
    LS X E (.Assign [.Tuple [.Name x px, .Name y py, .Name z pz] kt pt] (.Tuple [a, b, c] k2 pt2) pos) (xPar3 i j l f) := ⟨psMono (ps_par3 hc hN hi hj hl hij hil hjl hx hy hz ha.pa hw hs) fun D σ H ⟨ρ, st, μ, re, rs, p⟩ =>
  ⟨ρ, st, μ, re, rs, (PostL.thn p).mono fun vs H1 ⟨ds, st1, μ1, x1, r1, s1, p1⟩ => by
    dsimp only at p1
    split at p1
    · obtain ⟨v, w', z', rfl, r2, r3, r4⟩ := reps3 r1
      exact ⟨v, w', z', rfl, p1 _ H1 μ1 (.refl _ _) ((((re.ext x1).set r2).set r3).set r4) s1⟩
    · exact p1.elim⟩⟩

/-! ### o[i] op= e, o a list -/
theorem pg_list : PGet X (rIxL X.K) := by
  intro pins s σ H x y v u Q I rx ry h
  obtain ⟨p, xs, i, z, rfl, rfl, hq, he, q⟩ := h
  cases rx
  obtain ⟨t, rfl⟩ := ry
  obtain ⟨its, r, pl, hz⟩ := I.list hq
  obtain ⟨j, h1, h2, h3, h4, h5⟩ := atI_get he
  obtain ⟨w', ew, rw'⟩ := r.get h2
  have hl := r.length
  have hn := line63
  have fin : EP X pins σ Q w' s := ⟨z, H, I, rw', q⟩
  by_cases h0 : 0 ≤ i
  · have hj : i.toNat = j := by
      rw [seqIndex_of h0 h5] at h1
      exact Option.some.inj h1
    exact wpAny_getItem_list pl.isList h0 (by omega) (by rw [hj]; simpa using ew) fin
  · have hj : (i + (its.toArray.size : Int)).toNat = j := by
      rw [seqIndex_neg (by omega) h4] at h1
      rw [List.size_toArray, ← hl]
      exact Option.some.inj h1
    exact wpAny_getItem_list_neg pl.isList (by omega) (by rw [List.size_toArray] <;> omega) (by omega) (by rw [hj]; simpa using ew) fin
def xAugL (F : F2) (fo fi fe : SE) : SS := fun ρ st => (fo ρ st).thn fun o st => (fi ρ st).thn fun i st => match o, i with
  | .ref n, .int k => match st[n]? with
    | some (.lst xs) => match L2.atI xs k with
      | some x => (fe ρ st).thn fun y st => (F x y st).thn fun z st => match st[n]? with
        | some (.lst ys) => match ixN ys.length k with
          | some j => .nx ρ (st.set n (.lst (ys.set j z)))
          | none => .stuck
        | _ => .stuck
      | none => .stuck
    | _ => .stuck
  | _, _ => .stuck
theorem ls_augL {o i e : Expr} {fo fi fe : SE} {F : F2} {op : Operator} {tpos : Pos} (hp : IpL X E op F) (ho : LE X E o fo) (hi : LE X E i fi) (he : LE X E e fe)
    (ha : ∀ ov iv new, augStore i ov iv new = (do holding [new, ov, iv] (setItem ov iv new); release [new, ov, iv] []; pure .next) := by intros; rfl) : LS X E (.AugAssign (.Subscript o i tpos) op e pos) (xAugL F fo fi fe) :=
  ⟨psMono (ps_augS ho.pe hi.pe pg_list he.pe hp set_list ha) fun De σ H ⟨ρ, st, μ, re, rs, p⟩ =>
    ⟨ρ, st, μ, re, rs, (Post.thn p).mono fun ov H1 ⟨do_, st1, μ1, x1, r1, s1, p1⟩ => ⟨ρ, st1, μ1, re.ext x1, s1, (Post.thn p1).mono fun iv H2 ⟨di, st2, μ2, x2, r2, s2, p2⟩ => by
      cases do_ with
      | ref n => cases di with
       | int k =>
        dsimp only at p2
        split at p2
        · rename_i xs q1
          split at p2
          · rename_i x ex
            cases r2
            have r1' := r1.ext x2
            cases r1' with
            | @ref _ a e2 =>
              obtain ⟨a', f1, ws, g1, rr⟩ := s2.at q1
              rw [e2] at f1; cases f1
              obtain ⟨z, ez, rz⟩ := rr.atI ex
              refine ⟨_, ws, k, z, rfl, rfl, .of g1, ez, ρ, st2, μ2, (re.ext x1).ext x2, s2, (Post.thn p2).mono fun y H4 ⟨dy, st4, μ4, x4, r4, s4, p4⟩ => ?_⟩
              refine ⟨x, dy, st4, μ4, rz.ext x4, r4, s4, (Post.thn p4).mono fun w5 H5 ⟨dz, st5, μ5, x5, r5, s5, p5⟩ => ?_⟩
              dsimp only at p5
              split at p5
              · rename_i ys q5
                split at p5
                · rename_i j ej
                  obtain ⟨a', f1, ws5, g5, rr5⟩ := s5.at q5
                  rw [x5.get (x4.get e2)] at f1; cases f1
                  have e5 := x5.get (x4.get e2)
                  have xw : Ext H5 μ5 (upd H5 a (.lst (ws5.set j w5))) μ5 := .write (List.mem_of_getElem? e5)
                  exact ⟨_, _, _, j, rfl, rfl, g5, by rw [← rr5.length]; exact ej, p5 σ _ μ5 xw (((((re.ext x1).ext x2).ext x4).ext x5).ext xw) (s5.write e5 ⟨_, upd_same, (rr5.set r5 j).ext xw⟩)⟩
                · exact p5.elim
              · exact p5.elim
          · exact p2.elim
        · exact p2.elim
       | _ => exact (show False from p2).elim
      | _ => (cases di <;> exact (show False from p2).elim)⟩⟩⟩
/-! ### xs[::-1] of a list -/
def vRev : F1 := fun d st => match d with
  | .ref n => match st[n]? with
    | some (.lst xs) => .ok (.ref st.length) (st ++ [.lst xs.reverse])
    | _ => .stuck
  | _ => .stuck
theorem le_rev {e : Expr} {f : SE} {k : Nat} {p1 p2 p3 : Pos} (he : LE X E e f) : LE X E (.Subscript e (.Slice none none (some (.UnaryOp .USub (.Constant (.int 1) k p1) p2)) p3) pos) (s1 vRev f) :=
  ⟨peMono (pe_revL he.pe) fun σ H Q h => by
    obtain ⟨ρ, st, μ, re, rs, p⟩ := lift_s1 h
    refine ⟨ρ, st, μ, re, rs, p.mono fun v H1 ⟨d, st1, μ1, r1, s1, p1⟩ => ?_⟩
    cases d with
    | ref n =>
      simp only [vRev] at p1
      split at p1
      · rename_i xs q1
        obtain ⟨a, f1, ws, g1, r⟩ := s1.at q1
        cases r1 with
        | ref e1 =>
          rw [e1] at f1; cases f1
          exact ⟨_, ws, rfl, .of g1, fun b hb => post_lst p1 r.reverse s1 hb⟩
      · exact p1.elim
    | _ => exact (show False from p1).elim⟩
end
end L3
namespace L3
open PySem PySem.Spec PyProof.Rows L2
theorem permL_len {α β : Type} (pm : List Nat) {xs : List α} {ys : List β} (h : xs.length = ys.length) : (permL pm xs).length = (permL pm ys).length := by
  induction pm with
  | nil => rfl
  | cons i pm ih =>
    unfold permL at ih ⊢
    by_cases hi : i < xs.length
    · rw [List.filterMap_cons_some (List.getElem?_eq_getElem hi), List.filterMap_cons_some (List.getElem?_eq_getElem (h ▸ hi)), List.length_cons, List.length_cons, ih]
    · rw [List.filterMap_cons_none (List.getElem?_eq_none (by omega)), List.filterMap_cons_none (List.getElem?_eq_none (by omega)), ih]
theorem lenOk (na nb : Nat) (pm : List Nat) {n : Nat} (h : (permL pm (List.range (na + nb))).length = n) : ∀ xs : List V, xs.length = na + nb → (permL pm xs).length = n := fun xs e => by
  rw [permL_len pm (ys := List.range (na + nb)) (by rw [e, List.length_range])]; exact h
/-- a def as the top has left it -/
def FnAt (K : PySem.W.Frag) (x : Str) (st : Stmt) : Prop := ∃ f fd, Fun K x x st f fd ∧ PySem.W.nsIn K mainGlobals x = some (some (.ref f))
theorem FnAt.mk {K : PySem.W.Frag} {x : Str} {st : Stmt} {f : Addr} {oc : Value} {od an : Option Addr} {osl : Array (Option Value)} {kV doc pm cdv ct : Value} (a : PySem.W.nsIn K mainGlobals x = some (some (.ref f)))
    (l : K.lookup f = some ⟨oc, od, .func (PySem.W.fnOf x x (defArgs st) (defBody st) (defScope st) .none kV doc pm an cdv ct), osl⟩)
    (c : PySem.W.codeIn K cdv x = true) (k : PySem.W.keepIn K (.ref f) = true) : FnAt K x st := ⟨f, _, fun_mk l c k, a⟩
theorem FnAt.get {K : PySem.W.Frag} {x : Str} {st : Stmt} {h : Heap} {mg : Str → Option Value} (F : FnAt K x st) (X : K.In h) (G : h.Ns mainGlobals mg) : ∃ f fd, Fun K x x st f fd ∧ mg x = some (.ref f) := by
  obtain ⟨f, fd, F, a⟩ := F
  exact ⟨f, fd, F, PySem.W.mg_of X G a⟩
theorem law_sp {K : PySem.W.Frag} {F : FL} (ht : ∀ ns : List Int, ns.length ≤ 63 → ∃ st, F [.rl (ns.map D.int)] [] = .ok (.bl true) st) {vs : List V} {H : Hp} {Q : VK} {E : XK}
    (h : ∃ (a : Addr) (ns : List Int), vs = [.ref a] ∧ SqL K H a (ns.map V.int) ∧ ns.length ≤ 63 ∧ Only H ∧ ∀ H1, Q (.bl true) H1) : spOf K 1 F vs H Q E := by
  obtain ⟨a, ns, rfl, hS, hl, hO, q⟩ := h
  obtain ⟨st, e⟩ := ht ns hl
  refine ⟨rfl, _, [], [], .cons (.rl ?_ (reps_ints ns)) .nil, ⟨rfl, .nil, fun i a o h => by simp at h⟩, ?_⟩
  · rcases hS with (h | h) | h
    · rcases hO a with h2 | ⟨o, xs, h2⟩
      · rw [h2] at h; cases h
      · rw [h2] at h; cases h
    · exact .inl ⟨h, by simp⟩
    · exact .inr h
  · rw [e]
    intro v H' μ' x r s
    cases r
    exact q H'
end L3

/-! L3h: dicts by whole numbers and texts. -/
namespace L3
open PySem PySem.Spec PyProof.Rows L2
section
variable {X : Cx} {E : XK} {pos : Pos}
def keyOf : D → Option Key
  | .int i => some (.inl i)
  | .str z => some (.inr z)
  | _ => none
theorem rep_key {K : PySem.W.Frag} {H : Hp} {μ : List Addr} {d : D} {k : Key} {v : V} (r : Rep K H μ d v) (e : keyOf d = some k) : v = kV k := by
  cases r <;> simp [keyOf] at e
  · subst e; rfl
  · subst e; rfl
def lookD (kvs : List (Key × D)) (k : Key) : Option D := (kvs.find? fun p => decide (p.1 = k)).map fun p => p.2
def setD (kvs : List (Key × D)) (k : Key) (d : D) : List (Key × D) := if (kvs.any fun p => decide (p.1 = k)) = true then kvs.map (fun p => if p.1 = k then (p.1, d) else p) else kvs ++ [(k, d)]
theorem RepF.len {κ : Type} {K : PySem.W.Frag} {H : Hp} {μ : List Addr} : ∀ {ds : List (κ × D)} {vs : List (κ × V)}, RepF K H μ ds vs → ds.length = vs.length
  | _, _, .nil => rfl
  | _, _, .cons _ t => congrArg (· + 1) (RepF.len t)
theorem RepF.look {K : PySem.W.Frag} {H : Hp} {μ : List Addr} {k : Key} : ∀ {ds : List (Key × D)} {vs : List (Key × V)}, RepF K H μ ds vs → (∀ d, lookD ds k = some d → ∃ v, valV vs k = some v ∧ Rep K H μ d v) ∧ (lookD ds k = none → valV vs k = none)
  | _, _, .nil => ⟨fun d e => by simp [lookD] at e, fun _ => rfl⟩
  | _, _, .cons (k := j) (d := d0) (v := v0) r t => by
    have ih := RepF.look (k := k) t
    by_cases h : j = k
    · subst h
      refine ⟨fun d e => ⟨v0, valV_pos rfl, ?_⟩, fun e => by simp [lookD] at e⟩
      have : d0 = d := by simpa [lookD] using e
      rw [← this]; exact r
    · refine ⟨fun d e => ?_, fun e => ?_⟩
      · rw [valV_neg h]; exact ih.1 d (by simpa [lookD, h] using e)
      · rw [valV_neg h]; exact ih.2 (by simpa [lookD, h] using e)
theorem RepF.any {K : PySem.W.Frag} {H : Hp} {μ : List Addr} {k : Key} : ∀ {ds : List (Key × D)} {vs : List (Key × V)}, RepF K H μ ds vs → (ds.any fun p => decide (p.1 = k)) = (vs.any fun p => decide (p.1 = k))
  | _, _, .nil => rfl
  | _, _, .cons _ t => by simp only [List.any_cons]; rw [RepF.any t]
theorem RepF.repl {K : PySem.W.Frag} {H : Hp} {μ : List Addr} {k : Key} {d : D} {v : V} (r : Rep K H μ d v) : ∀ {ds : List (Key × D)} {vs : List (Key × V)}, RepF K H μ ds vs →
    RepF K H μ (ds.map fun p => if p.1 = k then (p.1, d) else p) (vs.map fun p => if p.1 = k then (p.1, v) else p)
  | _, _, .nil => .nil
  | _, _, .cons (k := j) r1 t => by
    simp only [List.map_cons]
    by_cases h : j = k
    · rw [if_pos h, if_pos h]; exact .cons r (RepF.repl r t)
    · rw [if_neg h, if_neg h]; exact .cons r1 (RepF.repl r t)
theorem RepF.snoc {K : PySem.W.Frag} {H : Hp} {μ : List Addr} {k : Key} {d : D} {v : V} (r : Rep K H μ d v) : ∀ {ds : List (Key × D)} {vs : List (Key × V)}, RepF K H μ ds vs → RepF K H μ (ds ++ [(k, d)]) (vs ++ [(k, v)])
  | _, _, .nil => .cons r .nil
  | _, _, .cons r1 t => .cons r1 (RepF.snoc r t)
theorem RepF.set {K : PySem.W.Frag} {H : Hp} {μ : List Addr} {k : Key} {d : D} {v : V} {ds : List (Key × D)} {vs : List (Key × V)} (h : RepF K H μ ds vs) (r : Rep K H μ d v) : RepF K H μ (setD ds k d) (putK vs k v) := by
  unfold setD putK
  rw [h.any]
  split
  · exact h.repl r
  · exact h.snoc r
def vDix : F2 := fun x y st => match x, keyOf y with
  | .ref n, some k => match st[n]? with
    | some (.dK kvs) => match lookD kvs k with
      | some d => .ok d st
      | none => .stuck
    | _ => .stuck
  | _, _ => .stuck
theorem le_dix {a b : Expr} {f g : SE} (hu : X.A.units + 64 < cLine) (ha : LE X E a f) (hb : LE X E b g) (hs : NoSl b := by intro _ _; rfl) : LE X E (.Subscript a b pos) (s2 vDix f g) :=
  ⟨peMono (pe_dget (by omega) ha.pe hb.pe hs) fun σ H Q h => by
    obtain ⟨ρ, st, μ, re, rs, p⟩ := h
    refine ⟨ρ, st, μ, re, rs, (Post.bind p).mono fun v H1 ⟨d, st1, μ1, x1, r1, s1, p1⟩ => ⟨ρ, st1, μ1, re.ext x1, s1, (Post.bind p1).mono fun u H2 ⟨d2, st2, μ2, x2, r2, s2, p2⟩ => ?_⟩⟩
    unfold vDix at p2
    cases d <;> try exact p2.elim
    rename_i n
    cases q0 : keyOf d2 with
    | none => simp only [q0] at p2; exact p2.elim
    | some k =>
      simp only [q0] at p2
      split at p2
      · rename_i kvs q1
        split at p2
        · rename_i d q2
          have hk := rep_key r2 q0
          obtain ⟨a', f1, ws, g1, rr⟩ := s2.at q1
          obtain ⟨v', e3, r3⟩ := rr.look.1 d q2
          have r1' := r1.ext x2
          cases r1' with
          | ref e2 =>
            rw [e2] at f1; cases f1
            exact ⟨_, v', rfl, .inl ⟨ws, k, .inl g1, hk, e3.symm⟩, p2 v' H2 μ2 (.refl _ _) r3 s2⟩
        · exact p2.elim
      · exact p2.elim⟩
noncomputable def xSetD (fv fo fi : SE) : SS := fun ρ st => (fv ρ st).thn fun v st => (fo ρ st).thn fun o st => (fi ρ st).thn fun i st => match o, keyOf i with
  | .ref n, some k => match st[n]? with
    | some (.dK kvs) => if kvs.length < sizeLine then .nx ρ (st.set n (.dK (setD kvs k v))) else .stuck
    | _ => .stuck
  | _, _ => .stuck
theorem ls_setD {o i e : Expr} {fv fo fi : SE} {tpos : Pos} (hu : X.A.units + 64 < cLine) (hv : LE X E e fv) (ho : LE X E o fo) (hi : LE X E i fi)
    (hs : swapsWith e (some (.Subscript o i tpos)) pos.line X.env = pure false := by rfl) : LS X E (.Assign [.Subscript o i tpos] e pos) (xSetD fv fo fi) :=
  ⟨psMono (ps_dput (by omega) ho.pe hi.pe hv.pe hs) fun De σ H ⟨ρ, st, μ, re, rs, p⟩ =>
    ⟨ρ, st, μ, re, rs, (Post.thn p).mono fun v H1 ⟨dv, st1, μ1, x1, r1, s1, p1⟩ => ⟨ρ, st1, μ1, re.ext x1, s1, (Post.thn p1).mono fun ov H2 ⟨do_, st2, μ2, x2, r2, s2, p2⟩ =>
      ⟨ρ, st2, μ2, (re.ext x1).ext x2, s2, (Post.thn p2).mono fun iv H3 ⟨di, st3, μ3, x3, r3, s3, p3⟩ => by
        cases do_ <;> try exact p3.elim
        rename_i n
        cases q0 : keyOf di with
        | none => simp only [q0] at p3; exact p3.elim
        | some k =>
          simp only [q0] at p3
          split at p3
          · rename_i kvs q1
            split at p3
            · rename_i hz
              have hk := rep_key r3 q0
              obtain ⟨a', f1, ws, g1, rr⟩ := s3.at q1
              have r2' := r2.ext x3
              cases r2' with
              | ref e2 =>
                rw [e2] at f1; cases f1
                have rv := (r1.ext x2).ext x3
                have x : Ext H3 μ3 (upd H3 _ (.dK (putK ws k v))) μ3 := .write (List.mem_of_getElem? e2)
                refine ⟨_, _, rfl, .inl ⟨ws, k, g1, hk, by rw [← rr.len]; exact hz, rfl⟩, p3 σ _ μ3 x ((((re.ext x1).ext x2).ext x3).ext x) (s3.write e2 ⟨_, upd_same, (rr.set rv).ext x⟩)⟩
            · exact p3.elim
          · exact p3.elim⟩⟩⟩⟩
/-! displays -/
structure LP (X : Cx) (E : XK) (pos : Pos) (keys : List (Option Expr)) (values : List Expr) (ks : List Key) (f : SL) : Prop where
  ex : ∃ trs, PPs X pos keys values trs ∧ ∀ σ H (Q : List (V × V) → Hp → Prop), liftL X.K E f σ H (fun vs H' => vs.length = ks.length → Q ((ks.map kV).zip vs) H') → tPairs trs σ H Q
  len : keys.length = ks.length
theorem lp_nil : LP X E pos [] [] [] sNil := ⟨⟨[], pps_nil, fun σ H Q ⟨ρ, st, μ, re, rs, p⟩ => p [] H μ (.refl _ _) .nil rs rfl⟩, rfl⟩
theorem lp_cons {z : Str} {v : Expr} {keys : List (Option Expr)} {values : List Expr} {ks : List Key} {fv : SE} {g : SL} {j : Nat} {p1 : Pos} (hv : LE X E v fv) (hr : LP X E pos keys values ks g) :
    LP X E pos (some (.Constant (.str z) j p1) :: keys) (v :: values) (.inr z :: ks) (sCons fv g) := by
  obtain ⟨⟨trs, h1, h2⟩, h3⟩ := hr
  refine ⟨⟨_, pps_cons (le_str (E := E)).pe hv.pe h1, fun σ H Q ⟨ρ, st, μ, re, rs, p⟩ => ?_⟩, by simp [h3]⟩
  refine ⟨ρ, st, μ, re, rs, fun x H1 μ1 e1 r1 s1 => ?_⟩
  cases r1
  have p1 := Post.bindL (f := fun d st => (g ρ st).bind fun ds st => .ok (d :: ds) st) (p.ext e1)
  refine ⟨ρ, st, μ1, re.ext e1, s1, p1.mono fun y H2 ⟨d, st2, μ2, x2, r2, s2, p2⟩ => ?_⟩
  refine h2 σ H2 _ ⟨ρ, st2, μ2, (re.ext e1).ext x2, s2, (PostL.bindL (f := fun ds st => .ok (d :: ds) st) p2).mono fun vs H3 ⟨ds, st3, μ3, x3, r3, s3, p3⟩ => fun hl => ?_⟩
  exact p3 (y :: vs) H3 μ3 (.refl _ _) (.cons (r2.ext x3) r3) s3 (by simp [hl])
def dictOf (ks : List Key) (ds : List D) : List (Key × D) := (ks.zip ds).foldl (fun acc p => setD acc p.1 p.2) []
theorem RepF.merge {K : PySem.W.Frag} {H : Hp} {μ : List Addr} : ∀ {ks : List Key} {ds : List D} {vs : List V} {ad : List (Key × D)} {av : List (Key × V)}, RepF K H μ ad av → Reps K H μ ds vs →
    RepF K H μ ((ks.zip ds).foldl (fun acc p => setD acc p.1 p.2) ad) (mergeK av (ks.zip vs))
  | [], _, _, _, _, a, _ => by simpa [mergeK] using a
  | _ :: _, _, _, _, _, a, .nil => by simpa [mergeK] using a
  | k :: ks, _, _, _, _, a, .cons r t => by
    have := RepF.merge (ks := ks) (a.set (k := k) r) t
    simpa [mergeK] using this
noncomputable def sDisp (ks : List Key) (f : SL) : SE := fun ρ st => (f ρ (st ++ [.dK []])).bind fun ds st' => match st'[st.length]? with
  | some (.dK []) => if ds.length = ks.length then .ok (.ref st.length) (st'.set st.length (.dK (dictOf ks ds))) else .stuck
  | _ => .stuck
theorem zip_kV : ∀ {ks : List Key} {vs : List V}, (ks.map kV).zip vs = (ks.zip vs).map fun p => (kV p.1, p.2)
  | [], _ => rfl
  | _ :: _, [] => rfl
  | k :: ks, v :: vs => by simp [zip_kV (ks := ks) (vs := vs)]
theorem le_disp {keys : List (Option Expr)} {values : List Expr} {ks : List Key} {f : SL} (h : LP X E pos keys values ks f) (hall : keys.all (·.isSome) = true := by rfl) (hl : keys.length = values.length := by rfl) (h0 : keys ≠ [] := by intro h; cases h) (h15 : keys.length ≤ 15 := by decide) :
    LE X E (.Dict keys values pos) (sDisp ks f) := by
  obtain ⟨⟨trs, h1, h2⟩, h3⟩ := h
  refine ⟨peMono (pe_disp h1 hall hl h0 h15) fun σ H Q ⟨ρ, st, μ, re, rs, p⟩ a ha => h2 σ _ _ ?_⟩
  have x0 : Ext H μ (upd H a (.dK [])) (μ ++ [a]) := .newS ha
  have s0 : RepS X.K (upd H a (.dK [])) (μ ++ [a]) (st ++ [.dK []]) := rs.push ha ⟨[], upd_same, .nil⟩
  have p0 := p.ext x0
  refine ⟨ρ, _, _, re.ext x0, s0, (PostL.bind (f := fun ds st' => match st'[st.length]? with
    | some (.dK []) => if ds.length = ks.length then .ok (.ref st.length) (st'.set st.length (.dK (dictOf ks ds))) else .stuck
    | _ => .stuck) p0).mono fun vs H1 ⟨ds, st1, μ1, x1, r1, s1, q1⟩ hvl => ?_⟩
  have ea : (μ ++ [a])[st.length]? = some a := by rw [← rs.len, List.getElem?_append_right (Nat.le_refl _)]; simp
  have ea1 := x1.get ea
  dsimp only at q1
  split at q1
  · rename_i e1
    split at q1
    · obtain ⟨a', f1, ws, g1, rr⟩ := s1.at e1
      rw [ea1] at f1; cases f1
      cases rr
      refine ⟨g1, (ks.zip vs), zip_kV, ?_, ?_⟩
      · rw [List.length_zip, hvl, Nat.min_self, ← h3]; exact h15
      · have x : Ext H1 μ1 (upd H1 a (.dK (mergeK [] (ks.zip vs)))) μ1 := .write (List.mem_of_getElem? ea1)
        exact q1 (.ref a) _ μ1 x (.ref ea1) (s1.write ea1 ⟨_, upd_same, RepF.merge .nil (r1.ext x)⟩)
    · exact q1.elim
  · exact q1.elim
/-! list.index, whole numbers -/
def mIndex : FM := fun n ds st => match ds, st[n]? with
  | [.int i], some (.lst xs) => match intsOf xs with
    | some ns => match ns.findIdx? fun z => decide (z = i) with
      | some j => .ok (.int (j : Nat)) st
      | none => .stuck
    | none => .stuck
  | _, _ => .stuck
theorem ml_index : MtR X "list.index" (liftM X.K E mIndex) := by
  intro pins s σ H x vs v us Q I rx rvs ⟨n, a, ds, st, μ, hx, e, r, hs, p⟩
  subst hx
  unfold mIndex at p
  split at p
  · rename_i i xs q1
    split at p
    · rename_i ns q2
      split at p
      · rename_i j q3
        obtain ⟨v1, rfl, ri⟩ := reps1 r
        cases ri
        obtain ⟨a', f1, ws, g1, r1⟩ := hs.at q1
        rw [e] at f1; cases f1
        have hx := intsOf_eq q2
        subst hx
        have hw := r1.ints
        subst hw
        obtain ⟨hj, h1, h2⟩ := List.findIdx?_eq_some_iff_getElem.mp q3
        refine mt_index pins s σ H _ _ v us Q I rx rvs ⟨a, ns.map V.int, .int i, j, .int ns[j], rfl, rfl, .of g1, rfl, by simp [flatV], by simp [hj], ?_, fun m z hm hz => ?_, p _ H μ (.refl _ _) (.int _) hs⟩
        · have : ns[j] = i := by simpa using h1
          simp [eqV, this]
        · have hml : m < ns.length := by omega
          have := h2 m hm
          have e3 : z = .int ns[m] := by simpa [hml] using hz.symm
          subst e3
          simpa [eqV] using this
      · exact p.elim
    · exact p.elim
  · exact p.elim
end
end L3

/-! L3i: a tuple turned about. -/
namespace L3
open PySem PySem.Spec PyProof.Rows L2
section
variable {prog : Program} {w : World} {A : Around} {E : Value → Shared → Prop} {s : Shared}
theorem adjust_back (n : Nat) : Builtin.Slice.sliceAdjust none none (-1) (n : Int) = ((n : Int) - 1, -1) := by
  unfold Builtin.Slice.sliceAdjust
  simp
theorem places_back (n : Nat) : Builtin.Slice.slicePlaces ((n : Int) - 1) (-1) (-1) = n := by
  unfold Builtin.Slice.slicePlaces
  have h1 : ¬ ((-1 : Int) > 0) := by omega
  simp only [h1, if_false]
  rw [show (-(-1 : Int)) = 1 from rfl, Int.ediv_one]
  split <;> omega
theorem applied_back {sl : Addr} {vl vu vs : Value} {n : Nat} {Q : Int × Int × Nat → Shared → Prop} (hs : s.heap.IsSliceOf sl vl vu vs) (pl : IsPart vl none) (pu : IsPart vu none) (ps : IsPart vs (some (-1)))
    (h : Q ((n : Int) - 1, -1, n) s) : wpAny (model prog w) A (Builtin.Slice.sliceApplied (.ref sl) (pure (n : Int))) Q E s := by
  obtain ⟨os, hos, hcs, hds⟩ := id hs
  unfold Builtin.Slice.sliceApplied Builtin.Slice.sliceFields
  refine wpAny_bind (wpAny_bind (wpAny_field hos hds (x := vl) rfl (wpAny_bind (wpAny_field hos hds (x := vu) rfl (wpAny_bind (wpAny_field hos hds (x := vs) rfl (wpAny_pure ?_)))))))
  refine wpAny_bind (HT.slicePart_ ps ?_)
  show wpAny _ _ (if ((-1 : Int) == 0) = true then _ else _) _ _ s
  rw [if_neg (by decide)]
  refine wpAny_bind (HT.slicePart_ pl (wpAny_bind (HT.slicePart_ pu (wpAny_bind (wpAny_pure ?_)))))
  show wpAny _ _ (match Builtin.Slice.sliceAdjust none none (-1) (n : Int) with | (lo, hi) => pure (lo, (-1 : Int), Builtin.Slice.slicePlaces lo hi (-1))) _ _ s
  rw [adjust_back n]
  show wpAny _ _ (pure ((n : Int) - 1, (-1 : Int), Builtin.Slice.slicePlaces ((n : Int) - 1) (-1) (-1))) _ _ s
  rw [places_back]
  exact wpAny_pure h
theorem fmap_congr {α β : Type} {f g : α → Option β} : ∀ {xs : List α}, (∀ x ∈ xs, f x = g x) → xs.filterMap f = xs.filterMap g
  | [], _ => rfl
  | x :: xs, h => by simp only [List.filterMap_cons]; rw [h x (by simp), fmap_congr fun y hy => h y (by simp [hy])]
theorem pick_back (its : List Value) : ((List.range its.length).filterMap fun (k : Nat) => its.toArray[((its.length : Int) - 1 + (k : Int) * (-1)).toNat]?).toArray = its.reverse.toArray := by
  have h1 : (List.range its.length).filterMap (fun (k : Nat) => its.toArray[((its.length : Int) - 1 + (k : Int) * (-1)).toNat]?) = (List.range its.length).filterMap (fun (m : Nat) => its.reverse.toArray[(((0 : Nat) : Int) + (m : Int) * 1).toNat]?) := by
    refine fmap_congr fun k hk => ?_
    have hk' : k < its.length := by simpa using hk
    have e1 : ((its.length : Int) - 1 + (k : Int) * (-1)).toNat = its.length - 1 - k := by omega
    have e2 : (((0 : Nat) : Int) + (k : Int) * 1).toNat = k := by omega
    rw [e1, e2, List.getElem?_toArray, List.getElem?_toArray, List.getElem?_reverse hk']
  rw [h1, HT.pick_gen]
  simp [List.take_of_length_le]
theorem getItem_tuple_back {t sl : Addr} {its : List Value} {vl vu vs : Value} {Q : Value → Shared → Prop} (ht : IsTup s.heap t its.toArray) (hs : s.heap.IsSliceOf sl vl vu vs) (pl : IsPart vl none) (pu : IsPart vu none) (ps : IsPart vs (some (-1)))
    (h : Q (.ref s.heap.objs.size) { s with heap := s.heap.push { cls := .type "tuple", data := .seq its.reverse.toArray } }) (hsz : its.length ≤ sizeLine) : wpAny (model prog w) A (getItem (.ref t) (.ref sl)) Q E s := by
  have htake : sizeOk (.seq its.reverse.toArray) := by
    show its.reverse.toArray.size ≤ sizeLine
    rw [List.size_toArray, List.length_reverse]
    exact hsz
  obtain ⟨os, hos, hcs, hds⟩ := id hs
  have hTs : s.TypeIs (.ref sl) "slice" := ⟨os, hos, hcs⟩
  unfold getItem
  try with_reducible refine wpAny_holding ?_
  first | refine wpAny_bind (wpAny_pure ?_) | skip
  refine wpAny_bind (wpAny_sequenceKey ht.typeIs (by decide) ?_)
  refine wpAny_bind (wpAny_callSpecial?_slot (name := Str.ofString "__getitem__") ht.typeIs PyProof.Rows.slot_tuple_getitem
    (wpAny_call_entry PyProof.Rows.slot_tuple_getitem ht.typeIs entry_tuple_getitem ?_ (args_tuple_getitem _ _)))
  show wpAny _ _ (Builtin.Tuple.tupleItemsOf (.ref t) >>= _) _ _ s
  refine wpAny_bind (tupleItemsOf_ ht ?_)
  refine wpAny_bind (wpAny_typeOf hTs ?_)
  rw [if_pos (by decide)]
  refine wpAny_bind (applied_back (n := its.toArray.size) hs pl pu ps ?_)
  have hno : ¬ ((((its.toArray.size : Nat) : Int) - 1 == 0 && (-1 : Int) == 1 && its.toArray.size == its.toArray.size) = true) := by
    intro q
    rw [Bool.and_eq_true, Bool.and_eq_true] at q
    exact absurd q.1.2 (by decide)
  show wpAny _ _ (if (((its.toArray.size : Nat) : Int) - 1 == 0 && (-1 : Int) == 1 && its.toArray.size == its.toArray.size) = true then _ else _) _ _ s
  rw [if_neg hno, List.size_toArray, pick_back]
  first
    | exact wpAny_bind (m := Builtin.Tuple.tupleExact _) (wpAny_newObj_type (wpAny_pure ⟨_, rfl, wpAny_pure h⟩) htake)
    | exact wpAny_bind (m := Builtin.Tuple.tupleExact _) (wpAny_newObj_type (wpAny_bind (wpAny_pure (wpAny_pure ⟨_, rfl, wpAny_pure h⟩))) htake)
    | exact wpAny_bind (wpAny_bind (m := Builtin.Tuple.tupleExact _) (wpAny_newObj_type (wpAny_pure (wpAny_pure ⟨_, rfl, wpAny_pure h⟩)) htake))
    | exact wpAny_bind (wpAny_bind (m := Builtin.Tuple.tupleExact _) (wpAny_newObj_type (wpAny_pure ⟨_, rfl, wpAny_pure h⟩) htake))
end
end L3
namespace L3
open PySem PySem.Spec PyProof.Rows L2
section
variable {X : Cx} {E : XK} {pos : Pos}
/-- x[::-1], a list or a tuple -/
def revS (z : Str) : Str := ⟨z.cps.toList.reverse.toArray⟩
def tBack (K : PySem.W.Frag) (te : TE) : TE := fun σ H Q => te σ H fun x H1 => (∃ a xs, x = .ref a ∧ ((SqL K H1 a xs ∧ ∀ p, H1 p = none → Q (.ref p) (upd H1 p (.lst xs.reverse))) ∨ (SqT K H1 a xs ∧ ∀ p, H1 p = none → Q (.ref p) (upd H1 p (.tup xs.reverse))))) ∨
  ∃ z, x = .str z ∧ z.length ≤ sizeLine ∧ Q (.str (revS z)) H1
theorem indices_back (n : Nat) : Builtin.Str.strSliceIndices none none (-1) n = (List.range n).map fun k => n - 1 - k := by
  unfold Builtin.Str.strSliceIndices
  exact PySem.W.krv_sliceRange n
theorem picked_back (z : Str) : ((Builtin.Str.strSliceIndices none none (-1) z.length).filterMap (z.cps[·]?)).toArray = (revS z).cps := by
  rw [indices_back, PySem.W.krv_range, List.filterMap_reverse]
  have := PySem.W.krv_all z.cps
  unfold Str.length
  rw [this]
  rfl
theorem pe_back {e : Expr} {te : TE} {k : Nat} {p1 p2 p3 : Pos} (he : PE X e te) : PE X (.Subscript e (.Slice none none (some (.UnaryOp .USub (.Constant (.int 1) k p1) p2)) p3) pos) (tBack X.K te) := by
  refine ⟨fun pins s σ H Q I hyp => ?_⟩
  refine Subscript_ (thn (he.run pins s σ H _ I hyp) fun v s1 ⟨x, H1, I1, r1, got⟩ => ?_)
  have hst : PO X (some (.UnaryOp .USub (.Constant (.int 1) k p1) p2)) (tPart (tUn (rU fun i => .int (-i)) (tC (.int 1)))) := po_some (pe_un un_neg pe_int)
  refine wpAny_Slice (thn (po_none.run pins s1 σ H1 (fun o H2 => o = none ∧ H2 = H1) I1 ⟨rfl, rfl⟩) fun vl s2 ⟨l, H2, I2, pl, el, e2⟩ => ?_)
  subst el e2
  refine thn (po_none.run pins s2 σ H2 (fun o H3 => o = none ∧ H3 = H2) I2 ⟨rfl, rfl⟩) fun vu s3 ⟨u, H3, I3, pu, eu, e3⟩ => ?_
  subst eu e3
  refine thn (hst.run pins s3 σ H3 (fun o H4 => o = some (-1) ∧ H4 = H3) I3 ⟨1, rfl, -1, rfl, rfl, rfl⟩) fun vs s4 ⟨o, H4, I4, ps, eo, e4⟩ => ?_
  subst eo e4
  have I5 : Inv X pins σ H4 { s4 with heap := s4.heap.push { cls := .type "slice", data := .fields #[vl, vu, vs] } } := I4.kept (t' := s4.toks) fun b ob q => Heap.get?_push_of_some _ q
  rcases got with ⟨a, xs, ex, hq⟩ | ⟨z, ex, hz, q⟩
  case inr =>
    subst ex
    obtain ⟨t, rfl⟩ := r1
    obtain ⟨l, rfl, hl⟩ := IsPart.raw pl
    obtain ⟨u, rfl, hu⟩ := IsPart.raw pu
    obtain ⟨c, rfl, hc⟩ := IsPart.raw ps
    have hl' : l = none := by cases l <;> simp at hl ⊢
    have hu' : u = none := by cases u <;> simp at hu ⊢
    obtain ⟨tk, hc'⟩ : ∃ tk, c = some (-1, tk) := by
      cases c with
      | none => simp at hc
      | some x => obtain ⟨i, tk⟩ := x; simp at hc; exact ⟨tk, by rw [hc]⟩
    subst hl' hu' hc'
    refine tail_any (typeIs_str _ z t) PyProof.Rows.slot_str_getitem.lookup ?_ (by with_unfolding_all rfl)
    refine wpAny_getItem_str_slice (l := none) (u := none) (st := some (-1, tk)) ⟨_, Heap.get?_push_size _ rfl, rfl, rfl⟩ rfl ?_
    have hlen : (revS z).length ≤ sizeLine := by simp [revS, Str.length] at hz ⊢; exact hz
    show Made.post (if ((-1 : Int) == 1 && (Builtin.Str.strSliceIndices none none (-1) z.length).length == z.length) = true then Made.val (.str z t)
      else Made.str ⟨((Builtin.Str.strSliceIndices none none (-1) z.length).filterMap (z.cps[·]?)).toArray⟩) (EP X pins σ Q) _
    rw [if_neg (by simp), picked_back]
    exact ⟨hlen, .str _, _, I5.tok _, ⟨_, rfl⟩, q⟩
  subst ex
  cases r1
  show wpAny (model X.prog X.w) X.A (subscriptTail e (.Slice none none (some (.UnaryOp .USub (.Constant (.int 1) k p1) p2)) p3) (.ref a) (.ref s4.heap.objs.size)) (EP X pins σ Q) X.xe { s4 with heap := s4.heap.push { cls := .type "slice", data := .fields #[vl, vu, vs] } }
  rcases hq with ⟨hx, q⟩ | ⟨hx, q⟩
  · obtain ⟨its, r, ht, hz⟩ := I5.list hx
    have hlen := r.length
    refine tail_any (ops := [.ref a, .ref s4.heap.objs.size]) ht.isList.typeIs (PySem.slot_list_getitem.lookup) ?_ (by with_unfolding_all rfl)
    refine wpAny_getItem_list_slice ht.isList (Heap.IsSliceOf.new _ vl vu vs) pl pu ps (by decide) ?_ (by rw [List.size_toArray]; omega)
    rw [PySem.W.krv_pick]
    refine ⟨.ref _, _, I5.laid (t' := s4.toks) (o := .lst xs.reverse) (fun b ob q => Heap.get?_push_of_some _ q) (Nat.le_refl _) ?_, rfl, q _ (I5.hok.fresh (Nat.le_refl _))⟩
    exact ⟨by rw [List.length_reverse]; exact hz, _, 0, r.reverse, Heap.get?_push_size _ rfl⟩
  · obtain ⟨its, r, ht, hz⟩ := I5.tuple hx
    have hlen := r.length
    refine tail_any (ops := [.ref a, .ref s4.heap.objs.size]) ht.typeIs (PyProof.Rows.slot_tuple_getitem.lookup) ?_ (by with_unfolding_all rfl)
    refine getItem_tuple_back ht (Heap.IsSliceOf.new _ vl vu vs) pl pu ps ?_ (by omega)
    refine ⟨.ref _, _, I5.laid (t' := s4.toks) (o := .tup xs.reverse) (fun b ob q => Heap.get?_push_of_some _ q) (Nat.le_refl _) ?_, rfl, q _ (I5.hok.fresh (Nat.le_refl _))⟩
    exact ⟨by rw [List.length_reverse]; exact hz, _, r.reverse, IsTup.new _ _⟩
def vBack : F1 := fun d st => match d with
  | .ref n => match st[n]? with
    | some (.lst xs) => .ok (.ref st.length) (st ++ [.lst xs.reverse])
    | _ => .stuck
  | .tup xs => .ok (.tup xs.reverse) st
  | .str z => if z.length ≤ sizeLine then .ok (.str (revS z)) st else .stuck
  | _ => .stuck
theorem le_back {e : Expr} {f : SE} {k : Nat} {p1 p2 p3 : Pos} (he : LE X E e f) : LE X E (.Subscript e (.Slice none none (some (.UnaryOp .USub (.Constant (.int 1) k p1) p2)) p3) pos) (s1 vBack f) :=
  ⟨peMono (pe_back he.pe) fun σ H Q h => by
    obtain ⟨ρ, st, μ, re, rs, p⟩ := lift_s1 h
    refine ⟨ρ, st, μ, re, rs, p.mono fun v H1 ⟨d, st1, μ1, r1, s1, p1⟩ => ?_⟩
    cases d with
    | ref n =>
      simp only [vBack] at p1
      split at p1
      · rename_i xs q1
        obtain ⟨a, f1, ws, g1, r⟩ := s1.at q1
        cases r1 with
        | ref e1 =>
          rw [e1] at f1; cases f1
          exact .inl ⟨_, ws, rfl, .inl ⟨.of g1, fun b hb => post_lst p1 r.reverse s1 hb⟩⟩
      · exact p1.elim
    | tup xs =>
      cases r1 with
      | tup t1 rr => exact .inl ⟨_, _, rfl, .inr ⟨t1.sq, fun b hb => post_tup p1 rr.reverse s1 hb⟩⟩
    | str z =>
      cases r1
      simp only [vBack] at p1
      split at p1
      · exact .inr ⟨z, rfl, by assumption, p1 _ H1 μ1 (.refl _ _) (.str _) s1⟩
      · exact p1.elim
    | _ => exact (show False from p1).elim⟩
end
end L3

/-! L3k: sorted(set(list of ints)), any number of them. -/
namespace L3
open PySem PySem.Spec PyProof.Rows L2
section
variable {P : Program} {w : World} {A : Around} {E : Value → Shared → Prop} {s : Shared}
set_option maxRecDepth 100000 in
set_option maxHeartbeats 3200000 in
theorem call_setL {l : Addr} {items : Array Value} (ns : List Int) {Q : Value → Shared → Prop} (hh : A.handled = none) (hl : s.heap.IsList l items) (hit : IntsAre items.toList ns) (hb : ns.length + 1 < scanBound)
    (h : ∀ (h' : Heap) (tk c : Nat), SetR w h' s.heap.objs.size (fun j => decide (j ∈ ns)) c → c ≤ ns.length → (∀ b o, s.heap.get? b = some o → h'.get? b = some o) → Q (.ref s.heap.objs.size) { s with heap := h', toks := tk }) :
    wpAny (model P w) A (call (.type "set") [.ref l]) Q E s := by
  have gisz : items.size = ns.length := by
    have q := IntsAre.length hit
    rw [Array.length_toList] at q
    exact q
  obtain ⟨c, tl, gmro⟩ := F.called_set.mro
  have gmade := F.called_set.made
  have gsub := F.called_set.sub
  refine wpAny_call (codeAny_of_tree ?_)
  show wpAny _ _ (callAny (.type "set") _) _ _ _
  refine wpAny_pure ⟨Code.quiet_builtin _ (by decide +kernel), codeAny_builtin F.entry_type_call ?_⟩
  rw [Around.under_plain (weight_type_call_type "set" [.ref l] []) rfl]
  have h1 := F.called_set.notType
  have h2 := F.called_set.canCreate
  have gct := F.typeCall_set_1 (.ref l)
  repeat (any_goals (first | assumption | wp_step))

  refine codeAny_mono (code_set_led1 (.ref l) (E := E) (Q₁ := fun obj s1 => obj = .ref s.heap.objs.size ∧ s1 = { s with heap := s.heap.push { cls := .type "set", dict := none, data := .set #[] 0 (.fresh 0 0 (!w.params.followText "set-order")) } }) ⟨rfl, rfl⟩) fun r s1 hr => ?_
  cases r with
  | error e => exact hr
  | ok fl =>
    cases fl with
    | ret obj =>
      obtain ⟨rfl, rfl⟩ := hr
      have gS : (s.heap.push { cls := .type "set", dict := none, data := .set #[] 0 (.fresh 0 0 (!w.params.followText "set-order")) }).get? s.heap.objs.size = some { cls := .type "set", dict := none, data := .set #[] 0 (.fresh 0 0 (!w.params.followText "set-order")) } := Heap.get?_push_size _ rfl
      have gT : Shared.TypeIs { s with heap := s.heap.push { cls := .type "set", dict := none, data := .set #[] 0 (.fresh 0 0 (!w.params.followText "set-order")) } } (.ref s.heap.objs.size) "set" := ⟨_, gS, rfl⟩
      have gli := F.called_set.init.lookup
      have gbi := F.called_set.init.bind (.ref s.heap.objs.size)
      repeat (any_goals (first | assumption | wp_step))

      refine codeAny_mono (codeAny_call_builtin (R := wants (fun r s2 => r = .none ∧ ∃ h' tk c, s2 = { s with heap := h', toks := tk } ∧ SetR w h' s.heap.objs.size (fun j => decide (j ∈ ns)) c ∧ c ≤ ns.length ∧
          (∀ b o, s.heap.get? b = some o → h'.get? b = some o)) E) F.called_set.init.plain F.entry_set_init (check_set_init_1 gT ?_)) fun r2 s2 hr2 => ?_
      · obtain ⟨ol, gol, gcl, nl, gdl⟩ := hl
        obtain ⟨ocl, od, odt, osl⟩ := ol
        simp only at gcl gdl
        subst gcl; subst gdl
        have gol' : (s.heap.push { cls := .type "set", dict := none, data := .set #[] 0 (.fresh 0 0 (!w.params.followText "set-order")) }).get? l = some { cls := .type "list", dict := od, data := .seq items nl, slots := osl } := Heap.get?_push_of_some _ gol
        have gsls := F.sub_list_set
        have gslf := F.sub_list_frozenset
        have hne : (Value.type "list" == Value.type "dict") = false := by decide
        have gl1 : (s.heap.push { cls := .type "set", dict := none, data := .set #[] 0 (.fresh 0 0 (!w.params.followText "set-order")) }).IsList l items := ⟨_, gol', rfl, nl, rfl⟩
        unfold Builtin.«set.__init__» noKeywords Builtin.Frozenset.updateFrom
        generalize hPI : pyIter = Pit
        wp_walk
        subst hPI

        refine wpAny_pyIter_list gl1 ?_
        refine wpAny_bind (wpAny_runValue ?_)
        have glS : l < s.heap.objs.size := Heap.lt_size gol
        have gh3 : A.in1.in1.in1.handled = none := by simp [hh]
        have gz1 : (s.heap.push { cls := .type "set", dict := none, data := .set #[] 0 (.fresh 0 0 (!w.params.followText "set-order")) }).objs.size = s.heap.objs.size + 1 := Heap.size_push ..
        have gneI : l ≠ (s.heap.push { cls := .type "set", dict := none, data := .set #[] 0 (.fresh 0 0 (!w.params.followText "set-order")) }).objs.size := by
          rw [Heap.size_push]; exact Nat.ne_of_lt (Nat.lt_succ_of_lt glS)
        have gf : s.heap.objs.size ∉ [(s.heap.push { cls := .type "set", dict := none, data := .set #[] 0 (.fresh 0 0 (!w.params.followText "set-order")) }).objs.size, l] := by
          rw [Heap.size_push]; simp only [List.mem_cons, List.mem_singleton, List.not_mem_nil, or_false, not_or]
          exact ⟨Nat.ne_of_lt (Nat.lt_succ_self _), Nat.ne_of_gt glS⟩
        have gval : ∀ (i : Nat) (v : Value), items[i]? = some v → ∃ k t, ns[i]? = some k ∧ v = .int k t := fun i v hv => by
          have hi : i < ns.length := by rw [← gisz]; exact (Array.getElem?_eq_some_iff.mp hv).1
          obtain ⟨t, e⟩ := PyProof.Rows.IntsAre.int_at hit i v (by rw [Array.getElem?_toList]; exact hv)
          refine ⟨ns[i], t, List.getElem?_eq_getElem hi, ?_⟩
          rw [e, List.getD_eq_getElem?_getD, List.getElem?_eq_getElem hi] <;> rfl
        refine set_update_ints ((Walks.list gh3 _ l gneI items).toS) s.heap.objs.size
          gf ns gisz hb gval (items.size - 0) 0 _ (by omega) (Nat.zero_le _)
          ⟨⟨_, Heap.get?_push_size _ rfl, rfl, rfl⟩, (gl1.push _)⟩ ?gS0 ?hR
        case gS0 =>
          have hget : ((s.heap.push { cls := .type "set", dict := none, data := .set #[] 0 (.fresh 0 0 (!w.params.followText "set-order")) }).push { cls := .type "list_iterator", data := .fields #[.ref l, .int 0 0] }).get? s.heap.objs.size
              = some { cls := .type "set", dict := none, data := .set #[] 0 (.fresh 0 0 (!w.params.followText "set-order")) } := Heap.get?_push_of_some _ gS
          exact ⟨0, Nat.le_refl 0, setR_new_at hget⟩
        case hR =>
          intro s' c' hm gc' gq'
          obtain ⟨h', g2, d', tk1, os'⟩ := s'
          have eg : g2 = s.gens := hm.gens
          have ed : d' = s.drawn := hm.drawn
          have eo : os' = s.os := hm.os
          subst eg; subst ed; subst eo
          show wpAny _ _ _ _ _ _
          refine wpAny_pure ?_
          show wpAny _ _ (ret Value.none) _ _ _
          rw [gisz] at gc'
          refine wpAny_pure ⟨rfl, h', tk1, c', rfl, gq', gc', fun b o e => ?_⟩
          have gb0 : b < s.heap.objs.size := Heap.lt_size e
          have gb1 : b ≠ s.heap.objs.size := Nat.ne_of_lt gb0
          have gb2 : b ≠ (s.heap.push { cls := .type "set", dict := none, data := .set #[] 0 (.fresh 0 0 (!w.params.followText "set-order")) }).objs.size := by
            rw [Heap.size_push]; exact Nat.ne_of_lt (Nat.lt_succ_of_lt gb0)
          exact hm.heap b o (by simp only [List.mem_cons, List.mem_singleton, List.not_mem_nil, or_false, not_or]; exact ⟨gb1, gb2⟩) (Heap.get?_push_of_some _ (Heap.get?_push_of_some _ e))

      · cases r2 with
        | error e => exact hr2
        | ok fl2 =>
          cases fl2 with
          | ret r =>
            obtain ⟨rfl, h', tk, c', rfl, gq', gc', gk'⟩ := hr2
            repeat (any_goals (first | assumption | wp_step))
            exact h _ _ _ gq' gc' gk'
          | _ => exact hr2.elim
    | _ => exact hr.elim

/-- the sort of a set's members, gathered -/
theorem sorted_setI {a : Addr} {S : Int → Bool} {n : Nat} {Q : Value → Shared → Prop} (R : SetR w s.heap a S n) (hh : A.handled = none) (hn0 : n ≤ sizeLine)
    (hQ : ∀ s' p (out : Array Value) (c : Nat) (ns : List Int), (∀ b o, s.heap.get? b = some o → s'.heap.get? b = some o) → s'.gens = s.gens → s'.os = s.os → s.heap.objs.size ≤ p →
      s'.heap.get? p = some (seqObj "list" out c) → IntsAre out.toList ns → ns.Pairwise (· < ·) → (∀ k, k ∈ ns ↔ S k = true) → ns.length = n → Q (.ref p) s') :
    wpAny (model P w) A (call (.builtin "sorted") [.ref a]) Q E s := by
  obtain ⟨o, es, ep, t, ho, hex, hd, g, nd, hm, hb, hf, hn, hr, hl⟩ := R
  refine Calls.call_function_entry kind_sorted plain_sorted entry_sorted (args_sorted1 _) ?_
  unfold Builtin.«sorted»
  refine wpAny_bind (m := checkCount "sorted" 1 1 _) (wpAny_pure ?_)
  refine wpAny_bind (collect_set (A := A.in1) hh ⟨o, ho, hex.1, hd⟩ hf hb hr hl fun s1 vs k1 hz g1 o1 pm => ?_)
  have hvl : vs.length = n := by
    rw [pm.length_eq, List.length_map, Array.length_toList]; exact hn
  have hI : IntsAre vs (vs.map Builtin.Re.reRawOf) := by
    refine ints_of vs fun v hv => ?_
    obtain ⟨e, he, q⟩ := List.mem_map.mp (pm.mem_iff.mp hv)
    obtain ⟨k, tk, h1, _⟩ := g e he
    exact ⟨k, tk, by rw [← q]; exact h1⟩
  have pk : (vs.map Builtin.Re.reRawOf).Perm (es.toList.map L2.keyOf) := by
    have := pm.map Builtin.Re.reRawOf
    rwa [List.map_map] at this
  refine wpAny_bind (wpAny_newList ?_ (by rw [hvl]; exact hn0))
  have hoL : (s1.heap.push (seqObj "list" vs.toArray 0)).get? s1.heap.objs.size = some (seqObj "list" vs.toArray 0) := Heap.get?_push_size _ rfl
  refine wpAny_bind (wpAny_holding (wpAny_call_entry slot_list_sort ⟨_, hoL, rfl⟩ entry_list_sort
    (SrtO.list_sort_ord SrtO.swo_int hoL (by rw [hvl]; exact hn0) (fun h2 => SrtO.ints_sortable hI h2) fun out h1 h2 => ⟨_, rfl, ?_⟩) (args_list_sort _)))
  obtain ⟨k2, k3, k4⟩ := SrtO.ints_out hI h1 h2
  obtain ⟨c, hc⟩ := sortedHeap_at (vs := vs) (out := out.toArray) hoL
  have pn : (out.map SrtO.iv).Perm (es.toList.map L2.keyOf) := k3.trans pk
  have nd2 : (out.map SrtO.iv).Nodup := pn.nodup_iff.mpr nd
  refine wpAny_pure ⟨_, rfl, hQ _ s1.heap.objs.size out.toArray c (out.map SrtO.iv) (fun b u e => ?_) g1 o1 hz hc (by simpa using k2) ?_ (fun k => by rw [pn.mem_iff, ← hm k]) ?_⟩
  · have q := k1 b u e
    have hlt := Heap.lt_size q
    show (sortedHeap (s1.heap.push (seqObj "list" vs.toArray 0)) s1.heap.objs.size vs out.toArray).get? b = some u
    rw [sortedHeap_old (Nat.ne_of_lt hlt) (by rw [size_push']; exact Nat.lt_succ_of_lt hlt)]
    exact Heap.get?_push_of_some _ q
  · rw [List.pairwise_iff_getElem] at k4 ⊢
    intro i j hi hj hij
    have h3 := k4 i j hi hj hij
    have h4 := (List.pairwise_iff_getElem.mp nd2) i j hi hj hij
    omega
  · rw [pn.length_eq, List.length_map, Array.length_toList]; exact hn
end
/-! the layer's rule -/
section
variable {X : Cx} {E : XK} {pos : Pos}
def tSrtS (K : PySem.W.Frag) (ta : TE) : TE := fun σ H Q => ta σ H fun x H1 => ∃ (l : Addr) (ns : List Int), x = .ref l ∧ SqL K H1 l (ns.map V.int) ∧ ns.length ≤ 4000 ∧
  ∀ (zs : List Int) (p : Addr), zs.Pairwise (· < ·) → (∀ k, k ∈ zs ↔ k ∈ ns) → H1 p = none → Q (.ref p) (upd H1 p (.lst (zs.map V.int)))
theorem pe_srtS {a : Expr} {ta : TE} {p p2 q pos : Pos} (hg : Gl X "sorted") (hm : X.mg "sorted" = none) (hg2 : Gl X "set") (hm2 : X.mg "set" = none) (ha : PE X a ta) (hc : X.calm = true := by rfl)
    (na : starEach [a] X.env = (false, eval a X.env) :: starEach [] X.env := by rfl) : PE X (.Call (.Name "sorted" p) [.Call (.Name "set" p2) [a] [] q] [] pos) (tSrtS X.K ta) := by
  refine ⟨fun pins s σ H Q I h => ?_⟩
  refine Call_ (ld_blt I hg hm boot_sorted ?_)
  refine PyProof.Rows.callWith_builtin1 (PyProof.Rows.args_cons ?_ rfl) rfl rfl
  refine Call_ (ld_blt I hg2 hm2 boot_set ?_)
  refine PyProof.Rows.callWith_type1 (PyProof.Rows.args_cons (thn (ha.run pins s σ H _ I h) fun v s1 ⟨x, H1, I1, r1, q1⟩ => PyProof.Rows.args_nil ?_) na) na rfl
  obtain ⟨l, ns, rfl, hq, hl, q1⟩ := q1
  cases r1
  obtain ⟨its, r, pl, hz⟩ := I1.list hq
  refine call_setL ns (I1.ok.hd hc) pl.isList (by simpa using r.ints) (by unfold scanBound; omega) fun h1 tk c hS hcn hk => ?_
  have I2 : Inv X pins σ H1 { s1 with heap := h1, toks := tk } := I1.kept hk
  refine PyProof.Rows.args_nil ?_
  have hsz := sizeLine_eq
  refine sorted_setI hS (I2.ok.hd hc) (by omega) fun s2 p out ep zs k g o hp hg hi hs hm2 hl2 => ?_
  have hlen : (zs.map V.int).length ≤ sizeLine := by rw [List.length_map, hl2]; omega
  have hn : H1 p = none := I2.hok.fresh hp
  exact ⟨.ref p, upd H1 p (.lst (zs.map V.int)), I2.call' (ch := []) o (Un.laid k hp hn) (I2.hok.laid k hp ⟨hlen, out.toList, ep, vals_of_ints hi, hg⟩) (by rw [g]; exact I2.bare) (fun _ z => nomatch z), rfl, q1 zs p hs (fun k => by rw [hm2 k]; simp) hn⟩
end
/-- put into an ascending list, once -/
def insU (k : Int) : List Int → List Int
  | [] => [k]
  | x :: xs => if k < x then k :: x :: xs else if k = x then x :: xs else x :: insU k xs
def sortU (ns : List Int) : List Int := ns.foldr insU []
theorem insU_mem {k j : Int} : ∀ {xs : List Int}, j ∈ insU k xs ↔ j = k ∨ j ∈ xs
  | [] => by simp [insU]
  | x :: xs => by
    unfold insU
    split
    · simp
    · split
      · rename_i h; subst h; simp
      · simp only [List.mem_cons, insU_mem (xs := xs)]
        constructor <;> (rintro (h | h | h) <;> simp [h])
theorem insU_asc {k : Int} : ∀ {xs : List Int}, xs.Pairwise (· < ·) → (insU k xs).Pairwise (· < ·)
  | [], _ => by simp [insU]
  | x :: xs, h => by
    have h1 := List.pairwise_cons.mp h
    unfold insU
    split
    · rename_i hk
      refine List.pairwise_cons.mpr ⟨fun y hy => ?_, h⟩
      rcases List.mem_cons.mp hy with rfl | hy
      · exact hk
      · have := h1.1 y hy; omega
    · split
      · exact h
      · refine List.pairwise_cons.mpr ⟨fun y hy => ?_, insU_asc h1.2⟩
        rcases insU_mem.mp hy with rfl | hy
        · omega
        · exact h1.1 y hy
theorem sortU_mem {ns : List Int} {k : Int} : k ∈ sortU ns ↔ k ∈ ns := by
  induction ns with
  | nil => simp [sortU]
  | cons n ns ih =>
    show k ∈ insU n (sortU ns) ↔ _
    rw [insU_mem, ih]; simp
theorem sortU_asc (ns : List Int) : (sortU ns).Pairwise (· < ·) := by
  induction ns with
  | nil => exact .nil
  | cons n ns ih => exact insU_asc ih
theorem asc_unique : ∀ {xs ys : List Int}, xs.Pairwise (· < ·) → ys.Pairwise (· < ·) → (∀ k, k ∈ xs ↔ k ∈ ys) → xs = ys
  | [], [], _, _, _ => rfl
  | [], y :: ys, _, _, h => by have := (h y).mpr (by simp); simp at this
  | x :: xs, [], _, _, h => by have := (h x).mp (by simp); simp at this
  | x :: xs, y :: ys, hx, hy, h => by
    have h1 := List.pairwise_cons.mp hx
    have h2 := List.pairwise_cons.mp hy
    have e : x = y := by
      rcases List.mem_cons.mp ((h x).mp (by simp)) with e | e
      · exact e
      · rcases List.mem_cons.mp ((h y).mpr (by simp)) with e2 | e2
        · exact e2.symm
        · have := h2.1 x e
          have := h1.1 y e2
          omega
    subst e
    rw [asc_unique h1.2 h2.2 fun k => ⟨fun hk => ?_, fun hk => ?_⟩]
    · rcases List.mem_cons.mp ((h k).mp (by simp [hk])) with e | e
      · have := h1.1 k hk; omega
      · exact e
    · rcases List.mem_cons.mp ((h k).mpr (by simp [hk])) with e | e
      · have := h2.1 k hk; omega
      · exact e
def lstOf (d : D) (st : Store) : Option (List D) := match d with
  | .rl xs => some xs
  | .ref n => match st[n]? with
    | some (.lst xs) => some xs
    | _ => none
  | _ => none
def vSrtS : F1 := fun d st => match (lstOf d st).bind intsOf with
  | some ns => if ns.length ≤ 4000 then .ok (.ref st.length) (st ++ [.lst ((sortU ns).map D.int)]) else .stuck
  | none => .stuck
section
variable {X : Cx} {E : XK} {pos : Pos}
theorem le_srtS {a : Expr} {f : SE} {p p2 q pos : Pos} (hg : Gl X "sorted") (hm : X.mg "sorted" = none) (hg2 : Gl X "set") (hm2 : X.mg "set" = none) (ha : LE X E a f) (hc : X.calm = true := by rfl)
    (na : starEach [a] X.env = (false, eval a X.env) :: starEach [] X.env := by rfl) : LE X E (.Call (.Name "sorted" p) [.Call (.Name "set" p2) [a] [] q] [] pos) (s1 vSrtS f) :=
  ⟨peMono (pe_srtS hg hm hg2 hm2 ha.pe hc na) fun σ H Q h => by
    obtain ⟨ρ, st, μ, re, rs, p⟩ := lift_s1 h
    refine ⟨ρ, st, μ, re, rs, p.mono fun v H1 ⟨d, st1, μ1, r1, s1, p1⟩ => ?_⟩
    unfold vSrtS at p1
    cases e : (lstOf d st1).bind intsOf with
    | none => rw [e] at p1; exact p1.elim
    | some ns =>
      rw [e] at p1
      simp only at p1
      split at p1
      · rename_i hl
        obtain ⟨xs, e1, e2⟩ : ∃ xs, lstOf d st1 = some xs ∧ intsOf xs = some ns := by
          cases h : lstOf d st1 with
          | none => rw [h] at e; cases e
          | some xs => rw [h] at e; exact ⟨xs, rfl, e⟩
        have e3 := intsOf_eq e2
        subst e3
        obtain ⟨l, rfl, hq⟩ : ∃ l, v = .ref l ∧ SqL X.K H1 l (ns.map V.int) := by
          cases d with
          | rl ys =>
            cases e1
            cases r1 with
            | rl t r => have := r.ints; subst this; exact ⟨_, rfl, t.sq⟩
          | ref n =>
            simp only [lstOf] at e1
            split at e1
            · rename_i ys q1
              cases e1
              cases r1 with
              | ref q2 =>
                obtain ⟨b, f1, vs, g1, r⟩ := s1.at q1
                rw [q2] at f1; cases f1
                have := r.ints; subst this
                exact ⟨_, rfl, .of g1⟩
            · cases e1
          | _ => cases e1
        refine ⟨l, ns, rfl, hq, hl, fun zs b hz hm hb => ?_⟩
        rw [asc_unique hz (sortU_asc ns) fun k => (hm k).trans sortU_mem.symm]
        exact post_lst p1 (reps_ints _) s1 hb
      · exact p1.elim⟩
end
end L3

/-! L3l: range(a, b, -1), xs[:0:-1]. -/
namespace L3
open PySem PySem.Spec PyProof.Rows L2
def downD (hi : Int) (n : Nat) : List D := (List.range n).map fun k => .int (hi - (k : Nat))
theorem src_down {K : PySem.W.Frag} {H : Hp} {μ : List Addr} (hi : Int) (n : Nat) : SrcOk K (.its (downD hi n)) (Itc hi (-1) n) H μ := fun H1 μ1 st1 x1 s1 _ i => by
  have hl : (downD hi n).length = n := by simp [downD]
  refine ⟨fun h => ?_, fun h => ?_⟩
  · have h1 : i < n := by rw [← hl]; exact h
    refine ⟨h1, fun y H' ⟨e1, e2⟩ => ?_⟩
    subst e1 e2
    refine ⟨.int (hi - i), ?_, .refl _ _, s1, ?_⟩
    · show (downD hi n)[i]? = _
      unfold downD
      rw [List.getElem?_map, List.getElem?_range h1]
      rfl
    · rw [show hi + (i : Int) * -1 = hi - i by omega]; exact .int _
  · have : i = (downD hi n).length := h
    show n ≤ i
    omega
def iDown (f : SL) : SI := fun ρ st => (f ρ st).bind fun ds st => match ds with
  | [.int i, .int j, .int c] => if -(2 ^ 62) ≤ i ∧ i < 2 ^ 62 ∧ -(2 ^ 62) ≤ j ∧ j < 2 ^ 62 ∧ c = -1 then .ok (.its (downD i (i - j).toNat)) st else .stuck
  | _ => .stuck
section
variable {X : Cx} {E : XK} {pos : Pos} {tg : Expr}
theorem li_down {a b c : Expr} {f : SL} {p : Pos} (hg : Gl X "range") (hm : X.mg "range" = none) (ha : LL X E [a, b, c] f) (hs : starEach [a, b, c] X.env = (false, eval a X.env) :: starEach [b, c] X.env := by rfl)
    (hpl : (backTo pos (starEach [b, c] X.env)).any (·.1) = false := by rfl) : LI X E tg (.Call (.Name "range" p) [a, b, c] [] pos) (iDown f) :=
  ⟨piMono (pi_range3 hg hm ha.pa hs hpl) fun σ H R ⟨ρ, st, μ, re, rs, p⟩ => by
    refine ⟨ρ, st, μ, re, rs, (PostL.bindI p).mono fun vs H1 ⟨ds, st1, μ1, x1, r1, s1, p1⟩ => ?_⟩
    dsimp only at p1
    split at p1
    · split at p1
      · rename_i hz
        obtain ⟨u, v, w, rfl, r, r', r''⟩ := reps3 r1
        cases r; cases r'; cases r''
        obtain ⟨h1, h2, h3, h4, rfl⟩ := hz
        exact ⟨_, _, _, _, rfl, RgC.neg h1 h2 h3 h4, p1 _ H1 μ1 (.refl _ _) s1 (src_down _ _)⟩
      · exact p1.elim
    · exact p1.elim⟩
/-! xs[:0:-1] -/
theorem bounds_0 (n : Nat) : sliceBounds none (some 0) (some (-1)) n = ((n : Int) - 1, if n = 0 then -1 else 0, -1) := by
  simp [sliceBounds]
  split <;> omega
theorem range_0 (n : Nat) : sliceRange ((n : Int) - 1) (if n = 0 then -1 else 0) (-1) = (List.range (n - 1)).map fun k => n - 1 - k := by
  unfold sliceRange
  have h1 : ¬ ((-1 : Int) > 0) := by decide
  simp only [h1, if_false]
  by_cases hn : n = 0
  · subst hn; simp
  · rw [if_neg hn]
    by_cases h2 : (n : Int) - 1 > 0
    · have e : ((n : Int) - 1 - 0 - -1 - 1) / (- -1) = ((n - 1 : Nat) : Int) := by
        rw [show (- -1 : Int) = 1 by decide, Int.ediv_one]
        omega
      simp only [h2, if_true, e, Int.toNat_natCast]
      apply List.map_congr_left
      intro k hk
      have := List.mem_range.mp hk
      omega
    · have : n = 1 := by omega
      subst this; simp
theorem pick_0 (its : List Value) : slicePick its.toArray none (some 0) (some (-1)) = (its.drop 1).reverse.toArray := by
  unfold slicePick
  rw [bounds_0]
  simp only [range_0]
  congr 1
  apply List.ext_getElem?
  intro i
  rw [List.size_toArray]
  cases its with
  | nil => simp
  | cons v t =>
    have key : ((List.range ((v :: t).length - 1)).map fun k => (v :: t).length - 1 - k).filterMap (fun x => (v :: t).toArray[x]?) = t.reverse := by
      have : ∀ k ∈ List.range t.length, ((fun x => (v :: t).toArray[x]?) ∘ fun k => t.length - k) k = ((fun x => t.toArray[x]?) ∘ fun k => t.length - 1 - k) k := by
        intro k hk
        have := List.mem_range.mp hk
        simp only [Function.comp, List.getElem?_toArray]
        rw [show t.length - k = (t.length - 1 - k) + 1 by omega, List.getElem?_cons_succ]
      have h2 := PySem.W.krv_all t.toArray
      rw [List.filterMap_map]
      rw [show (v :: t).length - 1 = t.length by simp]
      rw [fmap_congr (g := (fun x => t.toArray[x]?) ∘ fun k => t.length - 1 - k) this]
      rw [← List.filterMap_map, PySem.W.krv_range, List.filterMap_reverse]
      rw [List.size_toArray] at h2
      rw [h2]
    rw [key]; simp
def tBack0 (K : PySem.W.Frag) (te : TE) : TE := fun σ H Q => te σ H fun x H1 => ∃ a xs, x = .ref a ∧ SqL K H1 a xs ∧ ∀ p, H1 p = none → Q (.ref p) (upd H1 p (.lst (xs.drop 1).reverse))
theorem pe_back0 {e : Expr} {te : TE} {k k2 : Nat} {p1 p2 p3 p4 : Pos} (he : PE X e te) : PE X (.Subscript e (.Slice none (some (.Constant (.int 0) k2 p4)) (some (.UnaryOp .USub (.Constant (.int 1) k p1) p2)) p3) pos) (tBack0 X.K te) := by
  refine ⟨fun pins s σ H Q I hyp => ?_⟩
  refine Subscript_ (thn (he.run pins s σ H _ I hyp) fun v s1 ⟨x, H1, I1, r1, got⟩ => ?_)
  obtain ⟨a, xs, ex, hx, q⟩ := got
  subst ex
  cases r1
  have hst : PO X (some (.UnaryOp .USub (.Constant (.int 1) k p1) p2)) (tPart (tUn (rU fun i => .int (-i)) (tC (.int 1)))) := po_some (pe_un un_neg pe_int)
  have hup : PO X (some (.Constant (.int 0) k2 p4)) (tPart (tC (.int 0))) := po_some pe_int
  refine wpAny_Slice (thn (po_none.run pins s1 σ H1 (fun o H2 => o = none ∧ H2 = H1) I1 ⟨rfl, rfl⟩) fun vl s2 ⟨l, H2, I2, pl, el, e2⟩ => ?_)
  subst el e2
  refine thn (hup.run pins s2 σ H2 (fun o H3 => o = some 0 ∧ H3 = H2) I2 ⟨0, rfl, rfl, rfl⟩) fun vu s3 ⟨u, H3, I3, pu, eu, e3⟩ => ?_
  subst eu e3
  refine thn (hst.run pins s3 σ H3 (fun o H4 => o = some (-1) ∧ H4 = H3) I3 ⟨1, rfl, -1, rfl, rfl, rfl⟩) fun vs s4 ⟨o, H4, I4, ps, eo, e4⟩ => ?_
  subst eo e4
  have I5 : Inv X pins σ H4 { s4 with heap := s4.heap.push { cls := .type "slice", data := .fields #[vl, vu, vs] } } := I4.kept (t' := s4.toks) fun b ob q => Heap.get?_push_of_some _ q
  show wpAny (model X.prog X.w) X.A (subscriptTail e (.Slice none (some (.Constant (.int 0) k2 p4)) (some (.UnaryOp .USub (.Constant (.int 1) k p1) p2)) p3) (.ref a) (.ref s4.heap.objs.size)) (EP X pins σ Q) X.xe { s4 with heap := s4.heap.push { cls := .type "slice", data := .fields #[vl, vu, vs] } }
  obtain ⟨its, r, ht, hz⟩ := I5.list hx
  have hlen := r.length
  refine tail_any (ops := [.ref a, .ref s4.heap.objs.size]) ht.isList.typeIs (PySem.slot_list_getitem.lookup) ?_ (by with_unfolding_all rfl)
  refine wpAny_getItem_list_slice ht.isList (Heap.IsSliceOf.new _ vl vu vs) pl pu ps (by decide) ?_ (by rw [List.size_toArray]; omega)
  rw [pick_0]
  refine ⟨.ref _, _, I5.laid (t' := s4.toks) (o := .lst (xs.drop 1).reverse) (fun b ob q => Heap.get?_push_of_some _ q) (Nat.le_refl _) ?_, rfl, q _ (I5.hok.fresh (Nat.le_refl _))⟩
  exact ⟨by rw [List.length_reverse, List.length_drop]; omega, _, 0, (r.drop 1).reverse, Heap.get?_push_size _ rfl⟩
def vBack0 : F1 := fun d st => match d with
  | .ref n => match st[n]? with
    | some (.lst xs) => .ok (.ref st.length) (st ++ [.lst (xs.drop 1).reverse])
    | _ => .stuck
  | _ => .stuck
theorem le_back0 {e : Expr} {f : SE} {k k2 : Nat} {p1 p2 p3 p4 : Pos} (he : LE X E e f) : LE X E (.Subscript e (.Slice none (some (.Constant (.int 0) k2 p4)) (some (.UnaryOp .USub (.Constant (.int 1) k p1) p2)) p3) pos) (s1 vBack0 f) :=
  ⟨peMono (pe_back0 he.pe) fun σ H Q h => by
    obtain ⟨ρ, st, μ, re, rs, p⟩ := lift_s1 h
    refine ⟨ρ, st, μ, re, rs, p.mono fun v H1 ⟨d, st1, μ1, r1, s1, p1⟩ => ?_⟩
    cases d with
    | ref n =>
      simp only [vBack0] at p1
      split at p1
      · rename_i xs q1
        obtain ⟨a, f1, ws, g1, r⟩ := s1.at q1
        cases r1 with
        | ref e1 =>
          rw [e1] at f1; cases f1
          exact ⟨_, ws, rfl, .of g1, fun b hb => post_lst p1 (r.drop 1).reverse s1 hb⟩
      · exact p1.elim
    | _ => exact (show False from p1).elim⟩
end
end L3

/-! L4: reckoning with the layer's functions. -/
namespace L3
open PySem L2
/-! ### low -/
mutual
theorem D.low_mono {m n : Nat} (h : m ≤ n) : ∀ d : D, d.low m = true → d.low n = true
  | .non, _ => rfl
  | .bl _, _ => rfl
  | .int _, _ => rfl
  | .str _, _ => rfl
  | .tup xs, q => D.lows_mono h xs q
  | .rl xs, q => D.lows_mono h xs q
  | .ref k, q => decide_eq_true (Nat.lt_of_lt_of_le (of_decide_eq_true q) h)
theorem D.lows_mono {m n : Nat} (h : m ≤ n) : ∀ ds : List D, D.lows m ds = true → D.lows n ds = true
  | [], _ => rfl
  | d :: ds, q => Bool.and_eq_true_iff.mpr ⟨D.low_mono h d (Bool.and_eq_true_iff.mp q).1, D.lows_mono h ds (Bool.and_eq_true_iff.mp q).2⟩
end
theorem lows_iff {n : Nat} : ∀ {ds : List D}, D.lows n ds = true ↔ ∀ d ∈ ds, d.low n = true
  | [] => by simp [D.lows]
  | d :: ds => by simp [D.lows, lows_iff (ds := ds)]
@[simp] theorem low_non {n : Nat} : D.low n .non = true := by first | rw [D.low] | rw [D.lows]
@[simp] theorem low_bl {n : Nat} {b : Bool} : D.low n (.bl b) = true := by first | rw [D.low] | rw [D.lows]
@[simp] theorem low_int {n : Nat} {b : Int} : D.low n (.int b) = true := by first | rw [D.low] | rw [D.lows]
@[simp] theorem low_str {n : Nat} {b : Str} : D.low n (.str b) = true := by first | rw [D.low] | rw [D.lows]
@[simp] theorem low_tup {n : Nat} {b : List D} : D.low n (.tup b) = D.lows n b := by first | rw [D.low] | rw [D.lows]
@[simp] theorem low_rl {n : Nat} {b : List D} : D.low n (.rl b) = D.lows n b := by first | rw [D.low] | rw [D.lows]
@[simp] theorem low_ref {n k : Nat} : D.low n (.ref k) = decide (k < n) := by first | rw [D.low] | rw [D.lows]
@[simp] theorem lows_nil {n : Nat} : D.lows n [] = true := by first | rw [D.low] | rw [D.lows]
@[simp] theorem lows_cons {n : Nat} {d : D} {ds : List D} : D.lows n (d :: ds) = (D.low n d && D.lows n ds) := by first | rw [D.low] | rw [D.lows]
@[simp] theorem lows_append {n : Nat} {d ds : List D} : D.lows n (d ++ ds) = (D.lows n d && D.lows n ds) := by
  induction d with
  | nil => simp
  | cons x xs ih => simp [ih, Bool.and_assoc]
@[simp] theorem lows_map {α : Type} {n : Nat} {f : α → D} (h : ∀ a, (f a).low n = true) (xs : List α) : D.lows n (xs.map f) = true := lows_iff.mpr fun d hd => by
  obtain ⟨a, _, rfl⟩ := List.mem_map.mp hd
  exact h a
@[simp] theorem lows_ints {n : Nat} (xs : List Int) : D.lows n (xs.map D.int) = true := lows_map (fun _ => rfl) xs

/-! ### swept -/
@[simp] theorem swept_stuck {st : Store} : swept st .stuck = .stuck := (rfl)
theorem swept_len {st st' : Store} {d : D} (h : st'.length = st.length) : swept st (.ok d st') = .ok d st' := by
  unfold swept
  simp only
  split
  · rw [← h, List.take_length]
  · rfl
@[simp] theorem swept_same {st : Store} {d : D} : swept st (.ok d st) = .ok d st := swept_len rfl
theorem swept_more {st st1 more : Store} {d : D} (hl : st1.length = st.length) (hd : d.low 0 = true) (ho : ∀ (i : Nat) (o : SO), st1[i]? = some o → st[i]? = some o ∨ o.low st.length = true) : swept st (.ok d (st1 ++ more)) = .ok d st1 := by
  unfold swept
  simp only
  rw [if_pos]
  · rw [← hl]; simp
  · refine ⟨by simp [hl], D.low_mono (Nat.zero_le _) d hd, fun i o hi e => ?_⟩
    rw [List.getElem?_append_left (by omega)] at e
    exact ho i o e
@[simp] theorem swept_push {st more : Store} {d : D} (hd : d.low 0 = true) : swept st (.ok d (st ++ more)) = .ok d st := swept_more rfl hd fun i o e => .inl e
/-! ### plain steps -/
@[simp] theorem sVar_ev {i : Nat} {ρ : Envr} {st : Store} : sVar i ρ st = match ρ[i]? with
  | some (some d) => .ok d st
  | _ => .stuck := (rfl)
@[simp] theorem sC_ev {d : D} {ρ : Envr} {st : Store} : sC d ρ st = .ok d st := (rfl)
@[simp] theorem sNil_ev {ρ : Envr} {st : Store} : sNil ρ st = .ok [] st := (rfl)
@[simp] theorem sCons_ev {f : SE} {g : SL} {ρ : Envr} {st : Store} : sCons f g ρ st = (f ρ st).bind fun d st => (g ρ st).bind fun ds st => .ok (d :: ds) st := (rfl)
@[simp] theorem sTup_ev {f : SL} {ρ : Envr} {st : Store} : sTup f ρ st = (f ρ st).bind fun ds st => .ok (.tup ds) st := (rfl)
@[simp] theorem sLst_ev {f : SL} {ρ : Envr} {st : Store} : sLst f ρ st = (f ρ st).bind fun ds st => .ok (.ref st.length) (st ++ [.lst ds]) := (rfl)
@[simp] theorem s2_ev {F : F2} {f g : SE} {ρ : Envr} {st : Store} : s2 F f g ρ st = (f ρ st).bind fun x st => (g ρ st).bind fun y st => F x y st := (rfl)
@[simp] theorem s1_ev {F : F1} {f : SE} {ρ : Envr} {st : Store} : s1 F f ρ st = (f ρ st).bind fun x st => F x st := (rfl)
@[simp] theorem sCB_ev {F : FL} {g : SL} {ρ : Envr} {st : Store} : sCB F g ρ st = (g ρ st).bind F := (rfl)
@[simp] theorem sCBk_ev {F : FL} {pm : List Nat} {f g : SL} {ρ : Envr} {st : Store} : sCBk F pm f g ρ st = (f ρ st).bind fun ds st => (g ρ st).bind fun es st => F (permL pm (ds ++ es)) st := (rfl)
@[simp] theorem sBool_bl {f : SE} {ρ : Envr} {st st' : Store} {b : Bool} (h : f ρ st = .ok (.bl b) st') : sBool f ρ st = .ok b st' := by unfold sBool; rw [h]; rfl
@[simp] theorem sBool_ev {f : SE} {ρ : Envr} {st : Store} : sBool f ρ st = (f ρ st).bind fun x st => match x with
  | .bl b => .ok b st
  | _ => .stuck := (rfl)
@[simp] theorem sTruth_ev {f : SE} {ρ : Envr} {st : Store} : sTruth f ρ st = (f ρ st).bind fun x st => match truth x st with
  | some b => .ok b st
  | none => .stuck := (rfl)
@[simp] theorem sNot_ev {t : SB} {ρ : Envr} {st : Store} : sNot t ρ st = (t ρ st).bind fun b st => .ok (!b) st := (rfl)
@[simp] theorem sNotV_ev {t : SB} {ρ : Envr} {st : Store} : sNotV t ρ st = (t ρ st).bind fun b st => .ok (.bl (!b)) st := (rfl)
@[simp] theorem sAnd_ev {t u : SB} {ρ : Envr} {st : Store} : sAnd t u ρ st = (t ρ st).bind fun b st => if b = true then u ρ st else .ok false st := (rfl)
@[simp] theorem sOr_ev {t u : SB} {ρ : Envr} {st : Store} : sOr t u ρ st = (t ρ st).bind fun b st => if b = true then .ok true st else u ρ st := (rfl)
@[simp] theorem sIte_ev {t : SB} {f g : SE} {ρ : Envr} {st : Store} : sIte t f g ρ st = (t ρ st).bind fun b st => if b = true then f ρ st else g ρ st := (rfl)
@[simp] theorem sAndV_ev {f g : SE} {ρ : Envr} {st : Store} : sAndV f g ρ st = (f ρ st).bind fun x st => match truth x st with
  | some true => g ρ st
  | some false => .ok x st
  | none => .stuck := (rfl)
@[simp] theorem sOrV_ev {f g : SE} {ρ : Envr} {st : Store} : sOrV f g ρ st = (f ρ st).bind fun x st => match truth x st with
  | some true => .ok x st
  | some false => g ρ st
  | none => .stuck := (rfl)
@[simp] theorem sChain_ev {F G : F2} {f g h : SE} {ρ : Envr} {st : Store} : sChain F G f g h ρ st = (f ρ st).bind fun x st => (g ρ st).bind fun y st => (F x y st).bind fun z st => match z with
  | .bl true => (h ρ st).bind fun w st => G y w st
  | .bl false => .ok (.bl false) st
  | _ => .stuck := (rfl)
@[simp] theorem sSwp_ev {f : SE} {ρ : Envr} {st : Store} : sSwp f ρ st = swept st (f ρ st) := (rfl)
@[simp] theorem sSwpB_ev {f : SB} {ρ : Envr} {st : Store} : sSwpB f ρ st = sweptB st (f ρ st) := (rfl)
@[simp] theorem sweptB_same {st : Store} {d : Bool} : sweptB st (.ok d st) = .ok d st := by
  unfold sweptB; simp only; split
  · rw [List.take_length]
  · rfl
@[simp] theorem sweptB_push {st more : Store} {d : Bool} : sweptB st (.ok d (st ++ more)) = .ok d st := by
  unfold sweptB; simp only; rw [if_pos]
  · simp
  · refine ⟨by simp, fun i o hi e => ?_⟩
    rw [List.getElem?_append_left hi] at e
    exact .inl e
@[simp] theorem sSlice_ev {F : FS} {f : SE} {g h : SO'} {ρ : Envr} {st : Store} : sSlice F f g h ρ st = (f ρ st).bind fun d st => (g ρ st).bind fun lo st => (h ρ st).bind fun hi st => F d lo hi st := (rfl)
@[simp] theorem sNoPart_ev {ρ : Envr} {st : Store} : sNoPart ρ st = .ok none st := (rfl)
@[simp] theorem sPart_ev {f : SE} {ρ : Envr} {st : Store} : sPart f ρ st = (f ρ st).bind fun d st => match d with
  | .int i => .ok (some i) st
  | _ => .stuck := (rfl)
@[simp] theorem sIsi_ev {T : String} {f : SE} {ρ : Envr} {st : Store} : sIsi T f ρ st = (f ρ st).bind fun d st => match tyName d st with
  | some n => match kitB n T with
    | some b => .ok (.bl b) st
    | none => .stuck
  | none => .stuck := (rfl)
@[simp] theorem sML_ev {F : FM} {f : SE} {g : SL} {ρ : Envr} {st : Store} : sML F f g ρ st = (f ρ st).bind fun d st => match d with
  | .ref n => if isLst st n = true then (g ρ st).bind fun ds st => F n ds st else .stuck
  | _ => .stuck := (rfl)
@[simp] theorem sMT_ev {F : FT} {f : SE} {g : SL} {ρ : Envr} {st : Store} : sMT F f g ρ st = (f ρ st).bind fun d st => match d with
  | .str z => (g ρ st).bind fun ds st => F z ds st
  | _ => .stuck := (rfl)
@[simp] theorem sYes_ev {ρ : Envr} {st : Store} : sYes ρ st = .ok true st := (rfl)
@[simp] theorem bind_ok' {α β : Type} {a : α} {st : Store} {f : α → Store → Res β} : (Res.ok a st).bind f = f a st := (rfl)
@[simp] theorem bind_stuck' {α β : Type} {f : α → Store → Res β} : (Res.stuck : Res α).bind f = .stuck := (rfl)
@[simp] theorem thn_ok' {α : Type} {a : α} {st : Store} {f : α → Store → SRes} : (Res.ok a st).thn f = f a st := (rfl)
@[simp] theorem thn_stuck' {α : Type} {f : α → Store → SRes} : (Res.stuck : Res α).thn f = .stuck := (rfl)
@[simp] theorem calm_ok' {α : Type} {a : α} {st : Store} : (Res.ok a st).calm = .ok a st := (rfl)
@[simp] theorem bind_ite {α β : Type} {c : Prop} [Decidable c] {a b : Res α} {f : α → Store → Res β} : (if c then a else b).bind f = if c then a.bind f else b.bind f := by split <;> rfl
@[simp] theorem thn_ite {α : Type} {c : Prop} [Decidable c] {a b : Res α} {f : α → Store → SRes} : (if c then a else b).thn f = if c then a.thn f else b.thn f := by split <;> rfl
/-! statements -/
@[simp] theorem xNil_ev {ρ : Envr} {st : Store} : xNil ρ st = .nx ρ st := (rfl)
@[simp] theorem xSeq_ev {f g : SS} {ρ : Envr} {st : Store} : xSeq f g ρ st = (f ρ st).thn g := (rfl)
@[simp] theorem nx_thn {g : SS} {ρ : Envr} {st : Store} : (SRes.nx ρ st).thn g = g ρ st := (rfl)
@[simp] theorem rt_thn {g : SS} {d : D} {st : Store} : (SRes.rt d st).thn g = .rt d st := (rfl)
@[simp] theorem bk_thn {g : SS} {ρ : Envr} {st : Store} : (SRes.bk ρ st).thn g = .bk ρ st := (rfl)
@[simp] theorem ct_thn {g : SS} {ρ : Envr} {st : Store} : (SRes.ct ρ st).thn g = .ct ρ st := (rfl)
@[simp] theorem stuck_thn {g : SS} : SRes.stuck.thn g = .stuck := (rfl)
@[simp] theorem sthn_ite {c : Prop} [Decidable c] {a b : SRes} {g : SS} : (if c then a else b).thn g = if c then a.thn g else b.thn g := by split <;> rfl
@[simp] theorem xRet_ev {f : SE} {ρ : Envr} {st : Store} : xRet f ρ st = (f ρ st).thn fun d st => .rt d st := (rfl)
@[simp] theorem xRetN_ev {ρ : Envr} {st : Store} : xRetN ρ st = .rt .non st := (rfl)
@[simp] theorem xBreak_ev {ρ : Envr} {st : Store} : xBreak ρ st = .bk ρ st := (rfl)
@[simp] theorem xCont_ev {ρ : Envr} {st : Store} : xCont ρ st = .ct ρ st := (rfl)
@[simp] theorem xExpr_ev {f : SE} {ρ : Envr} {st : Store} : xExpr f ρ st = (f ρ st).thn fun _ st => .nx ρ st := (rfl)
@[simp] theorem xIf_ev {t : SB} {f g : SS} {ρ : Envr} {st : Store} : xIf t f g ρ st = (t ρ st).thn fun b st => if b = true then f ρ st else g ρ st := (rfl)
@[simp] theorem xAsg_ev {t : Tgt} {f : SE} {ρ : Envr} {st : Store} : xAsg t f ρ st = (f ρ st).thn fun d st => match t.ev d ρ with
  | some ρ' => .nx ρ' st
  | none => .stuck := (rfl)
@[simp] theorem ev_nm {i : Nat} {d : D} {ρ : Envr} : (Tgt.nm i).ev d ρ = some (ρ.set i (some d)) := by simp only [Tgt.ev]
@[simp] theorem ev_tp {ts : List Tgt} {ds : List D} {ρ : Envr} : (Tgt.tp ts).ev (.tup ds) ρ = Tgt.evs ts ds ρ := by simp only [Tgt.ev]
@[simp] theorem evs_nil {ρ : Envr} : Tgt.evs [] [] ρ = some ρ := by simp only [Tgt.evs]
@[simp] theorem evs_cons {t : Tgt} {ts : List Tgt} {d : D} {ds : List D} {ρ : Envr} : Tgt.evs (t :: ts) (d :: ds) ρ = match Tgt.ev t d ρ with
    | some ρ1 => Tgt.evs ts ds ρ1
    | none => none := by first | (rw [Tgt.evs]; done) | (rw [Tgt.evs]; cases t.ev d ρ <;> rfl)
@[simp] theorem xPar_ev {i j : Nat} {f : SL} {ρ : Envr} {st : Store} : xPar i j f ρ st = (f ρ st).thn fun ds st => match ds with
  | [d, d'] => .nx ((ρ.set i (some d)).set j (some d')) st
  | _ => .stuck := (rfl)
@[simp] theorem xPar3_ev {i j l : Nat} {f : SL} {ρ : Envr} {st : Store} : xPar3 i j l f ρ st = (f ρ st).thn fun ds st => match ds with
  | [d, d', d2] => .nx (((ρ.set i (some d)).set j (some d')).set l (some d2)) st
  | _ => .stuck := (rfl)
@[simp] theorem xAug_ev {i : Nat} {F : F2} {f : SE} {ρ : Envr} {st : Store} : xAug i F f ρ st = match ρ[i]? with
  | some (some d) => (f ρ st).thn fun d' st => (F d d' st).thn fun z st => .nx (ρ.set i (some z)) st
  | _ => .stuck := (rfl)
@[simp] theorem xSetL_ev {fv fo fi : SE} {ρ : Envr} {st : Store} : xSetL fv fo fi ρ st = (fv ρ st).thn fun v st => (fo ρ st).thn fun o st => (fi ρ st).thn fun i st => match o, i with
  | .ref n, .int k => match st[n]? with
    | some (.lst xs) => match ixN xs.length k with
      | some j => .nx ρ (st.set n (.lst (xs.set j v)))
      | none => .stuck
    | _ => .stuck
  | _, _ => .stuck := (rfl)
@[simp] theorem xFor_ev {f : SI} {t : Tgt} {body : SS} {ρ : Envr} {st : Store} : xFor f t body ρ st = (f ρ st).thn fun src st => forL src t body src.all ρ st := (rfl)
@[simp] theorem iSeq_ev {f : SE} {ρ : Envr} {st : Store} : iSeq f ρ st = (f ρ st).bind fun d st => match srcOf d st with
  | some src => .ok src st
  | none => .stuck := (rfl)
@[simp] theorem srcOf_tup {xs : List D} {st : Store} : srcOf (.tup xs) st = some (.its xs) := (rfl)
@[simp] theorem srcOf_rl {xs : List D} {st : Store} : srcOf (.rl xs) st = some (.its xs) := (rfl)
@[simp] theorem srcOf_str {z : Str} {st : Store} : srcOf (.str z) st = some (.its (chars z)) := (rfl)
@[simp] theorem src_its_ok {xs : List D} {st : Store} : (Src.its xs).ok st = True := (rfl)
@[simp] theorem src_lst_ok {n : Nat} {xs : List D} {st : Store} : (Src.lst n xs).ok st = (st[n]? = some (.lst xs)) := (rfl)
@[simp] theorem src_its_all {xs : List D} : (Src.its xs).all = xs := (rfl)
@[simp] theorem src_lst_all {n : Nat} {xs : List D} : (Src.lst n xs).all = xs := (rfl)
/-! values -/
@[simp] theorem vAdd_int {i j : Int} {st : Store} : vAdd (.int i) (.int j) st = .ok (.int (i + j)) st := (rfl)
@[simp] theorem vAddI_int {i j : Int} {st : Store} : vAddI (.int i) (.int j) st = .ok (.int (i + j)) st := (rfl)
@[simp] theorem vSub_int {i j : Int} {st : Store} : vSub (.int i) (.int j) st = .ok (.int (i - j)) st := (rfl)
@[simp] theorem vMul_int {i j : Int} {st : Store} : vMul (.int i) (.int j) st = if wid i + wid j < 1000000 then .ok (.int (i * j)) st else .stuck := (rfl)
@[simp] theorem vFdiv_int {i j : Int} {st : Store} : vFdiv (.int i) (.int j) st = if 0 < j ∧ wid j < 9000 then .ok (.int (i / j)) st else .stuck := (rfl)
@[simp] theorem vMod_int {i j : Int} {st : Store} : vMod (.int i) (.int j) st = if 0 < j then .ok (.int (i % j)) st else .stuck := (rfl)
@[simp] theorem vNeg_int {i : Int} {st : Store} : vNeg (.int i) st = .ok (.int (-i)) st := (rfl)
@[simp] theorem vCmpI_int {p : Int → Int → Bool} {i j : Int} {st : Store} : vCmpI p (.int i) (.int j) st = .ok (.bl (p i j)) st := (rfl)
@[simp] theorem vEq_int {i j : Int} {st : Store} : vEq (.int i) (.int j) st = .ok (.bl (decide (i = j))) st := (rfl)
@[simp] theorem vEq_str {i j : Str} {st : Store} : vEq (.str i) (.str j) st = .ok (.bl (decide (i = j))) st := (rfl)
@[simp] theorem vNe_int {i j : Int} {st : Store} : vNe (.int i) (.int j) st = .ok (.bl (!decide (i = j))) st := (rfl)
@[simp] theorem vNe_str {i j : Str} {st : Store} : vNe (.str i) (.str j) st = .ok (.bl (!decide (i = j))) st := (rfl)
@[simp] theorem vIx_tup {xs : List D} {i : Int} {st : Store} : vIx (.tup xs) (.int i) st = match L2.atI xs i with
    | some d => .ok d st
    | none => .stuck := (rfl)
@[simp] theorem vIx_rl {xs : List D} {i : Int} {st : Store} : vIx (.rl xs) (.int i) st = match L2.atI xs i with
    | some d => .ok d st
    | none => .stuck := (rfl)
@[simp] theorem vIx_ref {n : Nat} {i : Int} {st : Store} : vIx (.ref n) (.int i) st = match st[n]? with
    | some (.lst xs) => match L2.atI xs i with
      | some d => .ok d st
      | none => .stuck
    | _ => .stuck := (rfl)
theorem atI_ofNat {α : Type} {xs : List α} {j : Nat} : L2.atI xs (j : Int) = xs[j]? := by
  cases h : xs[j]? with
  | some v => exact atI_nat h
  | none =>
    have := List.getElem?_eq_none_iff.mp h
    unfold L2.atI ixN
    rw [if_pos (by omega), if_neg (by omega)]
    rfl
@[simp] theorem atI_zero {α : Type} {xs : List α} : L2.atI xs 0 = xs[0]? := atI_ofNat (j := 0)
end L3
namespace L3
open PySem L2
@[simp] theorem atI_one {α : Type} {xs : List α} : L2.atI xs 1 = xs[1]? := atI_ofNat (j := 1)
@[simp] theorem atI_two {α : Type} {xs : List α} : L2.atI xs 2 = xs[2]? := atI_ofNat (j := 2)
@[simp] theorem atI_three {α : Type} {xs : List α} : L2.atI xs 3 = xs[3]? := atI_ofNat (j := 3)
@[simp] theorem atI_nat' {α : Type} {xs : List α} {j : Nat} : L2.atI xs (j : Int) = xs[j]? := atI_ofNat
theorem atI_of {α : Type} {xs : List α} {i : Int} (h : 0 ≤ i) : L2.atI xs i = xs[i.toNat]? := by
  obtain ⟨j, rfl⟩ := Int.eq_ofNat_of_zero_le h
  exact atI_ofNat
/-! ### comprehensions -/
theorem lcL_map {α : Type} {src : Src} {t : Tgt} {test : SB} {elt : SE} {ρ : Envr} {st : Store} {enc : α → D} {p : α → Bool} {g : α → D} (hs : src.ok st) :
    ∀ (xs : List α) (acc : List D), (∀ x ∈ xs, ∃ ρ1, t.ev (enc x) ρ = some ρ1 ∧ test ρ1 st = .ok (p x) st ∧ (p x = true → elt ρ1 st = .ok (g x) st)) → acc.length + xs.length ≤ sizeLine →
      lcL src t test elt ρ (xs.map enc) acc st = .ok (acc ++ (xs.filter p).map g) st
  | [], acc, _, _ => by simp [lcL, hs]
  | x :: xs, acc, h, hl => by
    obtain ⟨ρ1, h1, h2, h3⟩ := h x (by simp)
    have ih := fun acc' hl' => lcL_map (enc := enc) (p := p) (g := g) hs xs acc' (fun y hy => h y (by simp [hy])) hl'
    simp only [List.map_cons, lcL, if_pos hs, h1, h2, calm_ok', bind_ok']
    cases hp : p x with
    | true =>
      rw [if_pos rfl, h3 hp]
      simp only [calm_ok', bind_ok']
      rw [if_pos (by simp at hl; omega), ih _ (by simp at hl ⊢; omega), List.filter_cons_of_pos hp]
      simp
    | false =>
      rw [if_neg (by simp), ih _ (by simp at hl; omega), List.filter_cons_of_neg (by simp [hp])]
theorem sLc_map {α : Type} {f : SI} {t : Tgt} {test : SB} {elt : SE} {vs : List Nat} {ρ : Envr} {st st1 : Store} {src : Src} (enc : α → D) (p : α → Bool) (g : α → D) (xs : List α) (hf : f ρ st = .ok src st1) (ha : src.all = xs.map enc) (hs : src.ok st1)
    (h : ∀ x ∈ xs, ∃ ρ1, t.ev (enc x) (wipeE ρ vs) = some ρ1 ∧ test ρ1 st1 = .ok (p x) st1 ∧ (p x = true → elt ρ1 st1 = .ok (g x) st1)) (hl : xs.length ≤ sizeLine) :
    sLc f t test elt vs ρ st = .ok (.ref st1.length) (st1 ++ [.lst ((xs.filter p).map g)]) := by
  unfold sLc
  rw [hf, bind_ok', ha, lcL_map (enc := enc) (p := p) (g := g) hs xs [] h (by simpa using hl)]
  rfl
/-- .. without a test -/
theorem sLc_all {α : Type} {f : SI} {t : Tgt} {elt : SE} {vs : List Nat} {ρ : Envr} {st st1 : Store} {src : Src} (enc : α → D) (g : α → D) (xs : List α) (hf : f ρ st = .ok src st1) (ha : src.all = xs.map enc) (hs : src.ok st1)
    (h : ∀ x ∈ xs, ∃ ρ1, t.ev (enc x) (wipeE ρ vs) = some ρ1 ∧ elt ρ1 st1 = .ok (g x) st1) (hl : xs.length ≤ sizeLine) :
    sLc f t sYes elt vs ρ st = .ok (.ref st1.length) (st1 ++ [.lst (xs.map g)]) := by
  rw [sLc_map (test := sYes) enc (fun _ => true) g xs hf ha hs (fun x hx => let ⟨ρ1, h1, h2⟩ := h x hx; ⟨ρ1, h1, rfl, fun _ => h2⟩) hl]
  rw [List.filter_eq_self.mpr (fun _ _ => rfl)]
theorem sLc_its {α : Type} {f : SI} {t : Tgt} {test : SB} {elt : SE} {vs : List Nat} {ρ : Envr} {st : Store} (enc : α → D) (p : α → Bool) (g : α → D) (xs : List α) (hf : f ρ st = .ok (.its (xs.map enc)) st) (hl : xs.length ≤ sizeLine)
    (h : ∀ x ∈ xs, ∃ ρ1, t.ev (enc x) (wipeE ρ vs) = some ρ1 ∧ test ρ1 st = .ok (p x) st ∧ (p x = true → elt ρ1 st = .ok (g x) st)) :
    sLc f t test elt vs ρ st = .ok (.ref st.length) (st ++ [.lst ((xs.filter p).map g)]) := sLc_map enc p g xs hf rfl trivial h hl
theorem sLc_itsA {α : Type} {f : SI} {t : Tgt} {elt : SE} {vs : List Nat} {ρ : Envr} {st : Store} (enc : α → D) (g : α → D) (xs : List α) (hf : f ρ st = .ok (.its (xs.map enc)) st) (hl : xs.length ≤ sizeLine)
    (h : ∀ x ∈ xs, ∃ ρ1, t.ev (enc x) (wipeE ρ vs) = some ρ1 ∧ elt ρ1 st = .ok (g x) st) :
    sLc f t sYes elt vs ρ st = .ok (.ref st.length) (st ++ [.lst (xs.map g)]) := sLc_all enc g xs hf rfl trivial h hl
@[simp] theorem get_last {st : Store} {o : SO} : (st ++ [o])[st.length]? = some o := by simp
@[simp] theorem wipeE_nil {ρ : Envr} : wipeE ρ [] = ρ := (rfl)
@[simp] theorem wipeE_cons {ρ : Envr} {v : Nat} {vs : List Nat} : wipeE ρ (v :: vs) = (wipeE ρ vs).set v none := (rfl)
@[simp] theorem bLen_push {st : Store} {xs : List D} : bLen [.ref st.length] (st ++ [.lst xs]) = .ok (.int xs.length) (st ++ [.lst xs]) := by simp [bLen]
@[simp] theorem bLen_tup {st : Store} {xs : List D} : bLen [.tup xs] st = .ok (.int xs.length) st := (rfl)
@[simp] theorem bLen_rl {st : Store} {xs : List D} : bLen [.rl xs] st = .ok (.int xs.length) st := (rfl)
@[simp] theorem bTuple_push {st : Store} {xs : List D} : bTuple [.ref st.length] (st ++ [.lst xs]) = .ok (.tup xs) (st ++ [.lst xs]) := by simp [bTuple, seqOf]
@[simp] theorem bTuple_tup {st : Store} {xs : List D} : bTuple [.tup xs] st = .ok (.tup xs) st := (rfl)
@[simp] theorem bSum_push {st : Store} {xs : List Int} : bSum [.ref st.length] (st ++ [.lst (xs.map D.int)]) = .ok (.int xs.sum) (st ++ [.lst (xs.map D.int)]) := by
  simp only [bSum, seqOf, get_last, Option.bind_some, intsOf_map]
@[simp] theorem bSum_tup {st : Store} {xs : List Int} : bSum [.tup (xs.map D.int)] st = .ok (.int xs.sum) st := by
  simp only [bSum, seqOf, Option.bind_some, intsOf_map]
@[simp] theorem bAbs_int {st : Store} {i : Int} : bAbs [.int i] st = .ok (.int i.natAbs) st := (rfl)
@[simp] theorem bInt_int {st : Store} {i : Int} : bInt [.int i] st = .ok (.int i) st := (rfl)
@[simp] theorem bInt_bl {st : Store} {i : Bool} : bInt [.bl i] st = .ok (.int (if i then 1 else 0)) st := (rfl)
@[simp] theorem bMax_int {st : Store} {i j : Int} : bMax [.int i, .int j] st = .ok (.int (max i j)) st := (rfl)
@[simp] theorem bMin_int {st : Store} {i j : Int} : bMin [.int i, .int j] st = .ok (.int (min i j)) st := (rfl)
/-! a def's end -/
theorem fnBody_ev {n : Nat} {body : SS} {ds : List D} {st : Store} : fnBody n body ds st = swept st (match body (ds.map some ++ List.replicate (n - ds.length) none) st with
  | .rt d st' => .ok d st'
  | .nx _ st' => .ok .non st'
  | .exc x st' => .exc x st'
  | _ => .stuck) := (rfl)
theorem fn_rt {n : Nat} {body : SS} {ds : List D} {st st' : Store} {d : D} (h : body (ds.map some ++ List.replicate (n - ds.length) none) st = .rt d st') : fnBody n body ds st = swept st (.ok d st') := by
  rw [fnBody_ev, h]
theorem fn_nx {n : Nat} {body : SS} {ds : List D} {st st' : Store} {ρ : Envr} (h : body (ds.map some ++ List.replicate (n - ds.length) none) st = .nx ρ st') : fnBody n body ds st = swept st (.ok .non st') := by
  rw [fnBody_ev, h]
/-! ### loops -/
/-- a loop that goes through: the frame and the store behind each turn are known -/
theorem forL_fold {α σ : Type} {src : Src} {t : Tgt} {body : SS} {enc : α → D} (R : σ → Envr) (S : σ → Store) (f : σ → α → σ) (hs : ∀ s, src.ok (S s)) :
    ∀ (xs : List α) (s : σ), (∀ x ∈ xs, ∀ s, ∃ ρ1, t.ev (enc x) (R s) = some ρ1 ∧ (body ρ1 (S s) = .nx (R (f s x)) (S (f s x)) ∨ body ρ1 (S s) = .ct (R (f s x)) (S (f s x)))) →
      forL src t body (xs.map enc) (R s) (S s) = .nx (R (xs.foldl f s)) (S (xs.foldl f s))
  | [], s, _ => by simp [forL, hs]
  | x :: xs, s, h => by
    obtain ⟨ρ1, h1, h2⟩ := h x (by simp) s
    simp only [List.map_cons, forL, if_pos (hs s), h1, List.foldl_cons]
    rcases h2 with h2 | h2 <;> (rw [h2]; exact forL_fold R S f hs xs _ fun y hy => h y (by simp [hy]))
/-- .. with a word about each state -/
theorem forL_inv {α : Type} {src : Src} {t : Tgt} {body : SS} {enc : α → D} (I : List α → Envr → Store → Prop) (hs : ∀ p ρ st, I p ρ st → src.ok st) :
    ∀ (xs p : List α) (ρ : Envr) (st : Store), I p ρ st → (∀ p x q ρ st, p ++ x :: q = p ++ x :: q → x ∈ xs → I p ρ st → ∃ ρ1, t.ev (enc x) ρ = some ρ1 ∧ ∃ ρ2 st2, (body ρ1 st = .nx ρ2 st2 ∨ body ρ1 st = .ct ρ2 st2) ∧ I (p ++ [x]) ρ2 st2) →
      ∃ ρ2 st2, forL src t body (xs.map enc) ρ st = .nx ρ2 st2 ∧ I (p ++ xs) ρ2 st2
  | [], p, ρ, st, h0, _ => ⟨ρ, st, by simp [forL, hs p ρ st h0], by simpa using h0⟩
  | x :: xs, p, ρ, st, h0, h => by
    obtain ⟨ρ1, h1, ρ2, st2, h2, h3⟩ := h p x [] ρ st rfl (by simp) h0
    obtain ⟨ρ3, st3, h4, h5⟩ := forL_inv I hs xs (p ++ [x]) ρ2 st2 h3 fun p y q ρ st e hy => h p y q ρ st e (by simp [hy])
    refine ⟨ρ3, st3, ?_, by simpa using h5⟩
    simp only [List.map_cons, forL, if_pos (hs p ρ st h0), h1]
    rcases h2 with h2 | h2 <;> (rw [h2]; exact h4)
end L3
namespace L3
open PySem L2
/-! ### sizes of ints -/
theorem wid_lt {i : Int} (h : i.natAbs ≤ 10 ^ 30) : wid i < 1000 := by
  unfold wid
  have h2 : i.natAbs < 2 ^ 1000 := Nat.lt_of_le_of_lt h (by decide)
  by_cases h0 : i.natAbs = 0
  · rw [h0]; decide
  · exact (Nat.log2_lt h0).mpr h2
theorem mul_ok {a b : Int} (h1 : a.natAbs ≤ 10 ^ 30) (h2 : b.natAbs ≤ 10 ^ 30) : wid a + wid b < 1000000 := by
  have := wid_lt h1
  have := wid_lt h2
  omega
theorem div_ok {b : Int} (h0 : 0 < b) (h2 : b.natAbs ≤ 10 ^ 30) : 0 < b ∧ wid b < 9000 := by
  have := wid_lt h2
  omega
theorem mul_ev {a b : Int} {st : Store} (h1 : a.natAbs ≤ 10 ^ 30) (h2 : b.natAbs ≤ 10 ^ 30) : vMul (.int a) (.int b) st = .ok (.int (a * b)) st := by
  rw [vMul_int, if_pos (mul_ok h1 h2)]
theorem fdiv_ev {a b : Int} {st : Store} (h0 : 0 < b) (h2 : b.natAbs ≤ 10 ^ 30) : vFdiv (.int a) (.int b) st = .ok (.int (a / b)) st := by
  rw [vFdiv_int, if_pos (div_ok h0 h2)]
theorem mod_ev {a b : Int} {st : Store} (h0 : 0 < b) : vMod (.int a) (.int b) st = .ok (.int (a % b)) st := by
  rw [vMod_int, if_pos h0]
@[simp] theorem vPow_int {i j : Int} {st : Store} : vPow (.int i) (.int j) st = if 0 ≤ j ∧ j ≤ 1000000 ∧ i.natAbs < 2 ^ 64 then .ok (.int (i ^ j.toNat)) st else .stuck := (rfl)
@[simp] theorem vShl_int {i j : Int} {st : Store} : vShl (.int i) (.int j) st = if 0 ≤ j ∧ j ≤ 1000000 ∧ i.natAbs < 2 ^ 64 then .ok (.int (i * 2 ^ j.toNat)) st else .stuck := (rfl)
@[simp] theorem vShr_int {i j : Int} {st : Store} : vShr (.int i) (.int j) st = if 0 ≤ j then .ok (.int (i / 2 ^ j.toNat)) st else .stuck := (rfl)
@[simp] theorem truth_bl {b : Bool} {st : Store} : truth (.bl b) st = some b := (rfl)
@[simp] theorem truth_non {st : Store} : truth .non st = some false := (rfl)
@[simp] theorem truth_int {i : Int} {st : Store} : truth (.int i) st = some (i != 0) := (rfl)
@[simp] theorem truth_tup {xs : List D} {st : Store} : truth (.tup xs) st = some (!xs.isEmpty) := (rfl)
@[simp] theorem tyName_int {i : Int} {st : Store} : tyName (.int i) st = some "int" := (rfl)
@[simp] theorem tyName_bl {i : Bool} {st : Store} : tyName (.bl i) st = some "bool" := (rfl)
@[simp] theorem tyName_str {i : Str} {st : Store} : tyName (.str i) st = some "str" := (rfl)
@[simp] theorem tyName_tup {i : List D} {st : Store} : tyName (.tup i) st = some "tuple" := (rfl)
@[simp] theorem tyName_non {st : Store} : tyName .non st = some "NoneType" := (rfl)
theorem kit_1 : kitB "int" "int" = some true := by decide +kernel
theorem kit_2 : kitB "bool" "int" = some true := by decide +kernel
theorem kit_3 : kitB "str" "int" = some false := by decide +kernel
theorem kit_4 : kitB "tuple" "int" = some false := by decide +kernel
theorem kit_5 : kitB "NoneType" "int" = some false := by decide +kernel
theorem kit_6 : kitB "int" "bool" = some false := by decide +kernel
theorem kit_7 : kitB "bool" "bool" = some true := by decide +kernel
theorem kit_8 : kitB "str" "bool" = some false := by decide +kernel
theorem kit_9 : kitB "tuple" "bool" = some false := by decide +kernel
theorem kit_10 : kitB "NoneType" "bool" = some false := by decide +kernel
theorem kit_11 : kitB "int" "str" = some false := by decide +kernel
theorem kit_12 : kitB "bool" "str" = some false := by decide +kernel
theorem kit_13 : kitB "str" "str" = some true := by decide +kernel
theorem kit_14 : kitB "tuple" "str" = some false := by decide +kernel
theorem kit_15 : kitB "NoneType" "str" = some false := by decide +kernel
theorem kit_16 : kitB "int" "tuple" = some false := by decide +kernel
theorem kit_17 : kitB "bool" "tuple" = some false := by decide +kernel
theorem kit_18 : kitB "str" "tuple" = some false := by decide +kernel
theorem kit_19 : kitB "tuple" "tuple" = some true := by decide +kernel
theorem kit_20 : kitB "NoneType" "tuple" = some false := by decide +kernel
/-! ### what changes but two lists of the store -/
structure Upd (n m : Nat) (st st' : Store) : Prop where
  len : st'.length = st.length
  at_ : ∀ i : Nat, i ≠ n → i ≠ m → st'[i]? = st[i]?
theorem Upd.refl {n m : Nat} {st : Store} : Upd n m st st := ⟨rfl, fun _ _ _ => rfl⟩
theorem Upd.trans {n m : Nat} {a b c : Store} (h : Upd n m a b) (h' : Upd n m b c) : Upd n m a c := ⟨h'.len.trans h.len, fun i h1 h2 => (h'.at_ i h1 h2).trans (h.at_ i h1 h2)⟩
theorem Upd.set1 {n m : Nat} {st : Store} {o : SO} : Upd n m st (st.set n o) := ⟨by simp, fun i h1 h2 => by rw [List.getElem?_set_ne (Ne.symm h1)]⟩
theorem Upd.set2 {n m : Nat} {st : Store} {o : SO} : Upd n m st (st.set m o) := ⟨by simp, fun i h1 h2 => by rw [List.getElem?_set_ne (Ne.symm h2)]⟩
end L3

/-! L5: what holds when a piece of code goes through. -/
namespace L3
open PySem L2
def wpD {α : Type} (r : Res α) (Q : α → Store → Prop) : Prop := match r with
  | .ok a st => Q a st
  | _ => False
def wpsD (r : SRes) (N C B : Envr → Store → Prop) (R : D → Store → Prop) : Prop := match r with
  | .nx ρ st => N ρ st
  | .ct ρ st => C ρ st
  | .bk ρ st => B ρ st
  | .rt d st => R d st
  | _ => False
/-- a piece goes through, and this holds of what it gives (a structure: nothing unfolds it unasked) -/
structure wp {α : Type} (r : Res α) (Q : α → Store → Prop) : Prop where
  run : wpD r Q
structure wps (r : SRes) (N C B : Envr → Store → Prop) (R : D → Store → Prop) : Prop where
  run : wpsD r N C B R
/-- what is left to be done, unread -/
def Kn (f : SS) (N C B : Envr → Store → Prop) (R : D → Store → Prop) : Envr → Store → Prop := fun ρ st => wps (f ρ st) N C B R
theorem wp_iff {α : Type} {r : Res α} {Q : α → Store → Prop} : wp r Q = wpD r Q := propext ⟨fun h => h.run, fun h => ⟨h⟩⟩
theorem wps_iff {r : SRes} {N C B : Envr → Store → Prop} {R : D → Store → Prop} : wps r N C B R = wpsD r N C B R := propext ⟨fun h => h.run, fun h => ⟨h⟩⟩
section
variable {α β : Type} {N C B : Envr → Store → Prop} {R : D → Store → Prop} {st : Store} {ρ : Envr}
@[simp] theorem wp_ok {a : α} {Q : α → Store → Prop} : wp (.ok a st) Q = Q a st := by rw [wp_iff]; rfl
@[simp] theorem wp_stuck {Q : α → Store → Prop} : wp (.stuck : Res α) Q = False := by rw [wp_iff]; rfl
@[simp] theorem wp_exc {x : Exn} {Q : α → Store → Prop} : wp (.exc x st : Res α) Q = False := by rw [wp_iff]; rfl
@[simp] theorem wp_bind {r : Res α} {f : α → Store → Res β} {Q : β → Store → Prop} : wp (r.bind f) Q = wp r (fun a st => wp (f a st) Q) := by rw [wp_iff, wp_iff]; cases r <;> first | exact wp_iff.symm | rfl
@[simp] theorem wp_ite {c : Prop} [Decidable c] {a b : Res α} {Q : α → Store → Prop} : wp (if c then a else b) Q = if c then wp a Q else wp b Q := by split <;> rfl
@[simp] theorem wps_nx : wps (.nx ρ st) N C B R = N ρ st := by rw [wps_iff]; rfl
@[simp] theorem wps_ct : wps (.ct ρ st) N C B R = C ρ st := by rw [wps_iff]; rfl
@[simp] theorem wps_bk : wps (.bk ρ st) N C B R = B ρ st := by rw [wps_iff]; rfl
@[simp] theorem wps_rt {d : D} : wps (.rt d st) N C B R = R d st := by rw [wps_iff]; rfl
@[simp] theorem wps_stuck : wps .stuck N C B R = False := by rw [wps_iff]; rfl
@[simp] theorem wps_exc {x : Exn} : wps (.exc x st) N C B R = False := by rw [wps_iff]; rfl
@[simp] theorem wps_thn {r : Res α} {f : α → Store → SRes} : wps (r.thn f) N C B R = wp r (fun a st => wps (f a st) N C B R) := by rw [wp_iff, wps_iff]; cases r <;> first | exact wps_iff.symm | rfl
@[simp] theorem wps_seq {r : SRes} {f : SS} : wps (r.thn f) N C B R = wps r (Kn f N C B R) C B R := by rw [wps_iff, wps_iff]; cases r <;> first | exact wps_iff.symm | rfl
@[simp] theorem Kn_ev {f : SS} : Kn f N C B R ρ st = wps (f ρ st) N C B R := (rfl)
@[simp] theorem wps_ite {c : Prop} [Decidable c] {a b : SRes} : wps (if c then a else b) N C B R = if c then wps a N C B R else wps b N C B R := by split <;> rfl
@[simp] theorem wp_sw {st : Store} {r : Res α} {f : α → Store → Res D} {Q : D → Store → Prop} : wp (swept st (r.bind f)) Q = wp r (fun d s => wp (swept st (f d s)) Q) := by
  cases r with
  | ok a s => simp
  | exc x s => rw [bind_exc, wp_exc]; exact wp_exc
  | stuck => simp
theorem wp_mono {r : Res α} {Q Q' : α → Store → Prop} (h : wp r Q) (m : ∀ a st, Q a st → Q' a st) : wp r Q' := by
  cases r with
  | ok a st => rw [wp_ok] at h ⊢; exact m a st h
  | exc x st => rw [wp_exc] at h; exact h.elim
  | stuck => rw [wp_stuck] at h; exact h.elim
theorem wps_mono {r : SRes} {N' C' B' : Envr → Store → Prop} {R' : D → Store → Prop} (h : wps r N C B R) (m1 : ∀ a st, N a st → N' a st) (m2 : ∀ a st, C a st → C' a st) (m3 : ∀ a st, B a st → B' a st) (m4 : ∀ a st, R a st → R' a st) : wps r N' C' B' R' := by
  obtain ⟨h⟩ := h
  cases r with
  | nx a st => exact ⟨m1 a st h⟩
  | ct a st => exact ⟨m2 a st h⟩
  | bk a st => exact ⟨m3 a st h⟩
  | rt a st => exact ⟨m4 a st h⟩
  | exc x st => exact ⟨h⟩
  | stuck => exact ⟨h⟩
theorem wp_of_eq {r : Res α} {a : α} {Q : α → Store → Prop} (e : r = .ok a st) (h : Q a st) : wp r Q := by rw [e]; exact ⟨h⟩
theorem eq_of_wp {r : Res α} {a : α} (h : wp r (fun d st' => d = a ∧ st' = st)) : r = .ok a st := by
  obtain ⟨h⟩ := h
  cases r with
  | ok b st' => obtain ⟨rfl, rfl⟩ := h; rfl
  | exc x st => exact h.elim
  | stuck => exact h.elim
/-- a for loop, by what holds ahead of each turn for what is still to come -/
theorem wp_for {src : Src} {t : Tgt} {body : SS} {enc : α → D} (I : List α → Envr → Store → Prop) {xs : List α} (h0 : I xs ρ st) (hend : ∀ ρ st, I [] ρ st → src.ok st ∧ N ρ st)
    (step : ∀ x ys ρ st, x ∈ xs → I (x :: ys) ρ st → src.ok st ∧ ∃ ρ1, t.ev (enc x) ρ = some ρ1 ∧ wps (body ρ1 st) (I ys) (I ys) N R) : wps (forL src t body (xs.map enc) ρ st) N C B R := by
  induction xs generalizing ρ st with
  | nil =>
    have := hend ρ st h0
    simp [forL, this.1, this.2]
  | cons x xs ih =>
    obtain ⟨h1, ρ1, h2, h3⟩ := step x xs ρ st (by simp) h0
    simp only [List.map_cons, forL, if_pos h1, h2]
    have ih' := fun ρ st h => ih (ρ := ρ) (st := st) h fun y ys ρ st hy => step y ys ρ st (by simp [hy])
    cases e : body ρ1 st with
    | nx a st => rw [e] at h3; exact ih' _ _ h3.run
    | ct a st => rw [e] at h3; exact ih' _ _ h3.run
    | bk a st => rw [e] at h3; exact ⟨h3.run⟩
    | rt a st => rw [e] at h3; exact ⟨h3.run⟩
    | exc x st => rw [e] at h3; exact h3.run.elim
    | stuck => rw [e] at h3; exact h3.run.elim
theorem wp_lc {src : Src} {t : Tgt} {test : SB} {elt : SE} {enc : α → D} {Q : List D → Store → Prop} (I : List α → List D → Store → Prop) {xs : List α} {acc : List D} (h0 : I xs acc st) (hend : ∀ acc st, I [] acc st → src.ok st ∧ Q acc st)
    (step : ∀ x ys acc st, x ∈ xs → I (x :: ys) acc st → src.ok st ∧ ∃ ρ1, t.ev (enc x) ρ = some ρ1 ∧ wp (test ρ1 st) (fun b st => if b = true then wp (elt ρ1 st) (fun d st => acc.length < sizeLine ∧ I ys (acc ++ [d]) st) else I ys acc st)) :
    wp (lcL src t test elt ρ (xs.map enc) acc st) Q := by
  induction xs generalizing acc st with
  | nil =>
    have := hend acc st h0
    simp [lcL, this.1, this.2]
  | cons x xs ih =>
    obtain ⟨h1, ρ1, h2, h3⟩ := step x xs acc st (by simp) h0
    simp only [List.map_cons, lcL, if_pos h1, h2]
    have ih' := fun acc st h => ih (acc := acc) (st := st) h fun y ys acc st hy => step y ys acc st (by simp [hy])
    cases e : test ρ1 st with
    | exc x st => rw [e] at h3; exact h3.run.elim
    | stuck => rw [e] at h3; exact h3.run.elim
    | ok b st1 =>
      rw [e] at h3
      simp only [calm_ok', bind_ok']
      simp only [wp_ok] at h3
      by_cases hb : b = true
      · rw [if_pos hb] at h3 ⊢
        cases e2 : elt ρ1 st1 with
        | exc x st => rw [e2] at h3; exact h3.run.elim
        | stuck => rw [e2] at h3; exact h3.run.elim
        | ok d st2 =>
          rw [e2] at h3
          simp only [calm_ok', bind_ok']
          simp only [wp_ok] at h3
          rw [if_pos h3.1]
          exact ih' _ _ h3.2
      · rw [if_neg hb] at h3 ⊢
        exact ih' _ _ h3
theorem wp_fn {n : Nat} {body : SS} {ds : List D} {Q : D → Store → Prop} (h : wps (body (ds.map some ++ List.replicate (n - ds.length) none) st) (fun _ st' => wp (swept st (.ok .non st')) Q) (fun _ _ => False) (fun _ _ => False) (fun d st' => wp (swept st (.ok d st')) Q)) : wp (fnBody n body ds st) Q := by
  rw [fnBody_ev]
  cases e : body (ds.map some ++ List.replicate (n - ds.length) none) st with
  | nx a st => rw [e] at h; exact h.run
  | rt a st => rw [e] at h; exact h.run
  | ct a st => rw [e] at h; exact h.run.elim
  | bk a st => rw [e] at h; exact h.run.elim
  | exc x st => rw [e] at h; exact h.run.elim
  | stuck => rw [e] at h; exact h.run.elim
end
@[simp] theorem iRange1_ev {f : SL} {ρ : Envr} {st : Store} : iRange1 f ρ st = (f ρ st).bind fun ds st => match ds with
  | [.int j] => if -(2 ^ 62) ≤ j ∧ j < 2 ^ 62 then .ok (.its (rangeD 0 j.toNat)) st else .stuck
  | _ => .stuck := (rfl)
@[simp] theorem iRange2_ev {f : SL} {ρ : Envr} {st : Store} : iRange2 f ρ st = (f ρ st).bind fun ds st => match ds with
  | [.int i, .int j] => if -(2 ^ 62) ≤ i ∧ i < 2 ^ 62 ∧ -(2 ^ 62) ≤ j ∧ j < 2 ^ 62 then .ok (.its (rangeD i (j - i).toNat)) st else .stuck
  | _ => .stuck := (rfl)
@[simp] theorem sLc_ev {f : SI} {t : Tgt} {test : SB} {elt : SE} {vs : List Nat} {ρ : Envr} {st : Store} : sLc f t test elt vs ρ st = (f ρ st).bind fun src st => (lcL src t test elt (wipeE ρ vs) src.all [] st).bind fun ds st => .ok (.ref st.length) (st ++ [.lst ds]) := (rfl)
def ofN (k : Nat) : D := .int k
theorem rangeD_zero (n : Nat) : rangeD 0 n = (List.range n).map ofN := by unfold rangeD ofN; simp
/-! ### what may change: two lists, and what lies beyond -/
structure Mor (n m : Nat) (st st' : Store) : Prop where
  len : st.length ≤ st'.length
  at_ : ∀ i : Nat, i < st.length → i ≠ n → i ≠ m → st'[i]? = st[i]?
theorem Upd.mor {n m : Nat} {st st' : Store} (h : Upd n m st st') : Mor n m st st' := ⟨by rw [h.len]; exact Nat.le_refl _, fun i _ => h.at_ i⟩
theorem Mor.refl {n m : Nat} {st : Store} : Mor n m st st := ⟨Nat.le_refl _, fun _ _ _ _ => rfl⟩
theorem Mor.trans {n m : Nat} {a b c : Store} (h : Mor n m a b) (h' : Mor n m b c) : Mor n m a c := ⟨Nat.le_trans h.len h'.len, fun i h0 h1 h2 => (h'.at_ i (Nat.lt_of_lt_of_le h0 h.len) h1 h2).trans (h.at_ i h0 h1 h2)⟩
theorem Mor.push {n m : Nat} {st more : Store} : Mor n m st (st ++ more) := ⟨by simp, fun i h _ _ => List.getElem?_append_left h⟩
theorem Mor.set {n m : Nat} {st st' : Store} (h : Mor n m st st') {i : Nat} (hi : st.length ≤ i) {o : SO} : Mor n m st (st'.set i o) := ⟨by simpa using h.len, fun j h0 h1 h2 => by rw [List.getElem?_set_ne (by omega)]; exact h.at_ j h0 h1 h2⟩
theorem get_push {st more : Store} {i : Nat} {o : SO} (h : st[i]? = some o) : (st ++ more)[i]? = some o := by
  rw [List.getElem?_append_left (List.getElem?_eq_some_iff.mp h).1, h]
theorem lt_of_get {st : Store} {i : Nat} {o : SO} (h : st[i]? = some o) : i < st.length := (List.getElem?_eq_some_iff.mp h).1
theorem wp_swept {n m : Nat} {st st1 : Store} {d : D} {Q : D → Store → Prop} (M : Mor n m st st1) (hd : d.low st.length = true) (hn : ∀ o, st1[n]? = some o → o.low st.length = true) (hm : ∀ o, st1[m]? = some o → o.low st.length = true)
    (h : ∀ st', Upd n m st st' → (n < st.length → st'[n]? = st1[n]?) → (m < st.length → st'[m]? = st1[m]?) → Q d st') : wp (swept st (.ok d st1)) Q := by
  unfold swept
  simp only
  rw [if_pos]
  · refine ⟨h _ ⟨by simp [M.len], fun i h1 h2 => ?_⟩ (fun hl => by simp [List.getElem?_take, hl]) (fun hl => by simp [List.getElem?_take, hl])⟩
    rw [List.getElem?_take]
    split
    · exact M.at_ i (by assumption) h1 h2
    · rw [List.getElem?_eq_none (by omega)]
  · refine ⟨M.len, hd, fun i o hi e => ?_⟩
    by_cases h1 : i = n
    · subst h1; exact .inr (hn o e)
    · by_cases h2 : i = m
      · subst h2; exact .inr (hm o e)
      · rw [M.at_ i hi h1 h2] at e; exact .inl e
end L3
namespace L3
open PySem L2
theorem isLst_of {st : Store} {n : Nat} {xs : List D} (h : st[n]? = some (.lst xs)) : isLst st n = true := by unfold isLst; rw [h]
theorem mAppend_ev {st : Store} {n : Nat} {xs : List D} {y : D} (h : st[n]? = some (.lst xs)) (hl : xs.length < 10 ^ 6) : mAppend n [y] st = .ok .non (st.set n (.lst (xs ++ [y]))) := by
  unfold mAppend
  simp only [h]
  rw [if_pos (by have := sizeLine_eq; omega)]
theorem vAdd_lst {st : Store} {n m : Nat} {xs ys : List D} (h : st[n]? = some (.lst xs)) (h2 : st[m]? = some (.lst ys)) (hl : xs.length + ys.length < 10 ^ 6) : vAdd (.ref n) (.ref m) st = .ok (.ref st.length) (st ++ [.lst (xs ++ ys)]) := by
  unfold vAdd
  simp only [h, h2]
  rw [if_pos (by have := sizeLine_eq; omega)]
theorem vAdd_tup {st : Store} {xs ys : List D} (hl : xs.length + ys.length < 10 ^ 6) : vAdd (.tup xs) (.tup ys) st = .ok (.tup (xs ++ ys)) st := by
  unfold vAdd
  simp only
  rw [if_pos (by have := sizeLine_eq; omega)]
theorem bTuple_ref {st : Store} {n : Nat} {xs : List D} (h : st[n]? = some (.lst xs)) : bTuple [.ref n] st = .ok (.tup xs) st := by simp [bTuple, seqOf, h]
end L3
namespace L3
open PySem L2
/-- a for loop over a range -/
theorem wp_forR {N C B : Envr → Store → Prop} {R : D → Store → Prop} {st : Store} {ρ : Envr} {ds : List D} {t : Tgt} {body : SS} {n : Nat} (I : Nat → Envr → Store → Prop) (h0 : I 0 ρ st) (hend : ∀ ρ st, I n ρ st → N ρ st)
    (step : ∀ i ρ st, i < n → I i ρ st → ∃ ρ1, t.ev (.int i) ρ = some ρ1 ∧ wps (body ρ1 st) (I (i + 1)) (I (i + 1)) N R) : wps (forL (.its ds) t body ((List.range n).map ofN) ρ st) N C B R := by
  refine wp_for (fun ys ρ s => ∃ i, i ≤ n ∧ ys = List.range' i (n - i) ∧ I i ρ s) ⟨0, by omega, by rw [List.range_eq_range']; simp, h0⟩ ?_ ?_
  · rintro ρ s ⟨i, hi, e, h⟩
    have : n - i = 0 := by simpa using e.symm
    have : i = n := by omega
    subst this
    exact ⟨trivial, hend _ _ h⟩
  · rintro x ys ρ s _ ⟨i, hi, e, h⟩
    have hlt : i < n := by
      rcases Nat.lt_or_ge i n with h | h
      · exact h
      · rw [show n - i = 0 by omega] at e; simp at e
    rw [show n - i = (n - (i + 1)) + 1 by omega, List.range'_succ] at e
    obtain ⟨rfl, rfl⟩ := List.cons.inj e
    obtain ⟨ρ1, h1, h2⟩ := step x ρ s hlt h
    exact ⟨trivial, ρ1, h1, wps_mono h2 (fun _ _ q => ⟨x + 1, hlt, rfl, q⟩) (fun _ _ q => ⟨x + 1, hlt, rfl, q⟩) (fun _ _ q => q) (fun _ _ q => q)⟩
end L3
namespace L3
open PySem L2
theorem fn_eq {n : Nat} {body : SS} {ds : List D} {st st2 : Store} {a : D} (h : wps (body (ds.map some ++ List.replicate (n - ds.length) none) st) (fun _ st' => swept st (.ok .non st') = .ok a st2) (fun _ _ => False) (fun _ _ => False) (fun d st' => swept st (.ok d st') = .ok a st2)) : fnBody n body ds st = .ok a st2 := by
  rw [fnBody_ev]
  cases e : body (ds.map some ++ List.replicate (n - ds.length) none) st with
  | nx a st => rw [e] at h; exact h.run
  | rt a st => rw [e] at h; exact h.run
  | ct a st => rw [e] at h; exact h.run.elim
  | bk a st => rw [e] at h; exact h.run.elim
  | exc x st => rw [e] at h; exact h.run.elim
  | stuck => rw [e] at h; exact h.run.elim
end L3
namespace L3
open PySem L2
@[simp] theorem swept_new {st more : Store} : swept st (.ok (.ref st.length) (st ++ more)) = .ok (.ref st.length) (st ++ more) := by
  unfold swept
  simp
theorem ofN_at {n i : Nat} (h : i < n) : ((List.range n).map ofN)[i]? = some (.int i) := by simp [ofN, h]
end L3
namespace L3
open PySem L2
/-- the store has only grown -/
def Grow (st s : Store) : Prop := ∃ more, s = st ++ more
theorem Grow.refl {st : Store} : Grow st st := ⟨[], by simp⟩
theorem Grow.push {st s more : Store} (h : Grow st s) : Grow st (s ++ more) := by
  obtain ⟨m, rfl⟩ := h
  exact ⟨m ++ more, by simp⟩
theorem Grow.swept {st s : Store} {d : D} (h : Grow st s) (hd : d.low 0 = true) : L3.swept st (.ok d s) = .ok d st := by
  obtain ⟨m, rfl⟩ := h
  exact swept_push hd
end L3
namespace L3
open PySem L2
theorem atI_mem {α : Type} {xs : List α} {i : Int} (h : 0 ≤ i ∧ i < xs.length) : ∃ d ∈ xs, L2.atI xs i = some d := by
  obtain ⟨j, rfl⟩ := Int.eq_ofNat_of_zero_le h.1
  have hj : j < xs.length := by omega
  exact ⟨xs[j], by simp, by rw [atI_ofNat]; simp [hj]⟩
theorem atI_all {α : Type} {P : α → Prop} {xs : List α} {i : Int} (h : 0 ≤ i ∧ i < xs.length) (hp : ∀ d ∈ xs, P d) : ∃ d, L2.atI xs i = some d ∧ P d := by
  obtain ⟨d, hd, e⟩ := atI_mem h
  exact ⟨d, e, hp d hd⟩
end L3
namespace L3
open PySem L2
theorem wps_xswp {f : SS} {N C B : Envr → Store → Prop} {R : D → Store → Prop} {st : Store} {ρ : Envr} (h : wps (f ρ st) (fun ρ' s => N ρ' s ∧ N ρ' (s.take st.length)) C B R) : wps (xSwp f ρ st) N C B R := by
  unfold xSwp
  cases e : f ρ st with
  | nx a s =>
    rw [e, wps_nx] at h
    simp only
    split
    · rw [wps_nx]; exact h.2
    · rw [wps_nx]; exact h.1
  | ct a s => rw [e] at h; exact ⟨h.run⟩
  | bk a s => rw [e] at h; exact ⟨h.run⟩
  | rt a s => rw [e] at h; exact ⟨h.run⟩
  | exc x s => rw [e] at h; exact ⟨h.run⟩
  | stuck => rw [e] at h; exact ⟨h.run⟩
theorem wp_swept_any {st s : Store} {d : D} {P : D → Prop} (h : P d) : wp (swept st (.ok d s)) (fun d _ => P d) := by
  unfold swept
  simp only
  split <;> exact ⟨h⟩
theorem wp_swept_up {st s : Store} {d : D} {Q : D → Store → Prop} (hd : d.low st.length = false) (h : Q d s) : wp (swept st (.ok d s)) Q := by
  unfold swept
  simp only
  rw [if_neg (fun q => by rw [hd] at q; exact absurd q.2.1 (by decide)), wp_ok]
  exact h
theorem ok_of_wp {r : Res D} {d : D} (h : wp r (fun a _ => a = d)) : ∃ st, r = .ok d st := by
  cases r with
  | ok a s => rw [wp_ok] at h; exact ⟨s, by rw [h]⟩
  | exc x s => rw [wp_exc] at h; exact h.elim
  | stuck => rw [wp_stuck] at h; exact h.elim
end L3

/-! L6: reckoning with dicts and more. -/
namespace L3
open PySem L2
@[simp] theorem keyOf_str {z : Str} : keyOf (.str z) = some (.inr z) := (rfl)
@[simp] theorem keyOf_int {z : Int} : keyOf (.int z) = some (.inl z) := (rfl)
theorem vDix_ev {n : Nat} {z : Str} {st : Store} {kvs : List (Key × D)} {d : D} (h : st[n]? = some (.dK kvs)) (hd : lookD kvs (.inr z) = some d) : vDix (.ref n) (.str z) st = .ok d st := by
  unfold vDix
  simp [h, hd]
/-- a dict's item put -/
noncomputable def putD (o i v : D) (ρ : Envr) (st : Store) : SRes := match o, keyOf i with
  | .ref n, some k => match st[n]? with
    | some (.dK kvs) => if kvs.length < sizeLine then .nx ρ (st.set n (.dK (setD kvs k v))) else .stuck
    | _ => .stuck
  | _, _ => .stuck
@[simp] theorem xSetD_ev {fv fo fi : SE} {ρ : Envr} {st : Store} : xSetD fv fo fi ρ st = (fv ρ st).thn fun v st => (fo ρ st).thn fun o st => (fi ρ st).thn fun i st => putD o i v ρ st := (rfl)
theorem putD_ev {n : Nat} {z : Str} {v : D} {ρ : Envr} {st : Store} {kvs : List (Key × D)} (h : st[n]? = some (.dK kvs)) (hl : kvs.length < 1000) : putD (.ref n) (.str z) v ρ st = .nx ρ (st.set n (.dK (setD kvs (.inr z) v))) := by
  unfold putD
  simp only [keyOf_str, h]
  rw [if_pos (by have := sizeLine_eq; omega)]
@[simp] theorem sDisp_ev {ks : List Key} {f : SL} {ρ : Envr} {st : Store} : sDisp ks f ρ st = (f ρ (st ++ [.dK []])).bind fun ds st' => match st'[st.length]? with
  | some (.dK []) => if ds.length = ks.length then .ok (.ref st.length) (st'.set st.length (.dK (dictOf ks ds))) else .stuck
  | _ => .stuck := (rfl)
theorem mIndex_ev {n : Nat} {st : Store} {ns : List Int} {i : Int} {j : Nat} (h : st[n]? = some (.lst (ns.map .int))) (hj : ns.findIdx? (fun z => decide (z = i)) = some j) : mIndex n [.int i] st = .ok (.int j) st := by
  unfold mIndex
  simp only [h, intsOf_map, hj]
theorem vMul_tup {a : List D} {k : Int} {st : Store} (h1 : -1000 ≤ k ∧ k ≤ 1000) (h2 : a.length ≤ 1000) : vMul (.tup a) (.int k) st = .ok (.tup (List.replicate k.toNat a).flatten) st := by
  unfold vMul
  simp only
  rw [if_pos ⟨h1.1, h1.2, h2⟩]
theorem vMul_lst {a : List D} {k : Int} {n : Nat} {st : Store} (h : st[n]? = some (.lst a)) (h1 : -1000 ≤ k ∧ k ≤ 1000) (h2 : a.length ≤ 1000) : vMul (.ref n) (.int k) st = .ok (.ref st.length) (st ++ [.lst (List.replicate k.toNat a).flatten]) := by
  unfold vMul
  simp only [h]
  have h3 : a.length * k.toNat ≤ 1000 * 1000 := Nat.mul_le_mul h2 (by omega)
  rw [if_pos ⟨by omega, by omega, by have := sizeLine_eq; omega⟩]
theorem srcOf_ref {n : Nat} {st : Store} : srcOf (.ref n) st = match st[n]? with
  | some (.lst xs) => some (.lst n xs)
  | _ => none := (rfl)
@[simp] theorem bList_tup {xs : List D} {st : Store} : bList [.tup xs] st = .ok (.ref st.length) (st ++ [.lst xs]) := by simp [bList, seqOf]
end L3
namespace L3
open PySem L2
theorem ixN_last {n : Nat} : ixN (n + 1) (-1) = some n := by
  unfold ixN
  rw [if_neg (by omega), if_pos (by omega)]
  congr 1
  omega
@[simp] theorem atI_last {xs : List D} {x : D} : L2.atI (xs ++ [x]) (-1) = some x := by
  unfold L2.atI
  rw [List.length_append, List.length_singleton, ixN_last]
  simp
end L3
namespace L3
open PySem L2
theorem set_a {st : Store} {a x : SO} : (st ++ [a]).set st.length x = st ++ [x] := by simp
theorem set_a0 {st : Store} {a b x : SO} : (st ++ [a, b]).set st.length x = st ++ [x, b] := by simp
theorem set_a1 {st : Store} {a b x : SO} : (st ++ [a, b]).set (st.length + 1) x = st ++ [a, x] := by
  rw [show st.length + 1 = (st ++ [a]).length by simp, show st ++ [a, b] = (st ++ [a]) ++ [b] by simp, set_a]; simp
theorem get_a0 {st more : Store} {a : SO} : (st ++ a :: more)[st.length]? = some a := by simp
theorem get_a1 {st more : Store} {a b : SO} : (st ++ a :: b :: more)[st.length + 1]? = some b := by
  rw [show st ++ a :: b :: more = (st ++ [a]) ++ b :: more by simp, show st.length + 1 = (st ++ [a]).length by simp, get_a0]
theorem get_a2 {st more : Store} {a b c : SO} : (st ++ a :: b :: c :: more)[st.length + 2]? = some c := by
  rw [show st ++ a :: b :: c :: more = (st ++ [a, b]) ++ c :: more by simp, show st.length + 2 = (st ++ [a, b]).length by simp, get_a0]
theorem swept_ref {st s : Store} {n : Nat} (h : st.length ≤ n) : swept st (.ok (.ref n) s) = .ok (.ref n) s := by
  unfold swept
  simp only
  rw [if_neg (fun q => by have := q.2.1; simp at this; omega)]
theorem ixN_nat {n j : Nat} (h : j < n) : ixN n (j : Int) = some j := by
  unfold ixN
  rw [if_pos (by omega), if_pos (by omega)]
  simp
@[simp] theorem xAugL_ev {F : F2} {fo fi fe : SE} {ρ : Envr} {st : Store} : xAugL F fo fi fe ρ st = (fo ρ st).thn fun o st => (fi ρ st).thn fun i st => match o, i with
  | .ref n, .int k => match st[n]? with
    | some (.lst xs) => match L2.atI xs k with
      | some x => (fe ρ st).thn fun y st => (F x y st).thn fun z st => match st[n]? with
        | some (.lst ys) => match ixN ys.length k with
          | some j => .nx ρ (st.set n (.lst (ys.set j z)))
          | none => .stuck
        | _ => .stuck
      | none => .stuck
    | _ => .stuck
  | _, _ => .stuck := (rfl)
end L3
namespace L3
open PySem L2
/-- what was there stays -/
structure Keep (st s : Store) : Prop where
  len : st.length ≤ s.length
  at_ : ∀ i : Nat, i < st.length → s[i]? = st[i]?
theorem Keep.refl {st : Store} : Keep st st := ⟨Nat.le_refl _, fun _ _ => rfl⟩
theorem Keep.trans {a b c : Store} (h : Keep a b) (h' : Keep b c) : Keep a c := ⟨Nat.le_trans h.len h'.len, fun i hi => (h'.at_ i (Nat.lt_of_lt_of_le hi h.len)).trans (h.at_ i hi)⟩
theorem Keep.push {st s more : Store} (h : Keep st s) : Keep st (s ++ more) := h.trans ⟨by simp, fun i hi => List.getElem?_append_left hi⟩
theorem Keep.set {st s : Store} (h : Keep st s) {i : Nat} {o : SO} (hi : st.length ≤ i) : Keep st (s.set i o) := ⟨by simpa using h.len, fun j hj => by rw [List.getElem?_set_ne (by omega)]; exact h.at_ j hj⟩
theorem Keep.take {st s : Store} (h : Keep st s) : s.take st.length = st := by
  apply List.ext_getElem?
  intro i
  rw [List.getElem?_take]
  split
  · exact h.at_ i (by assumption)
  · rw [List.getElem?_eq_none (by omega)]
theorem Keep.swept {st s : Store} {d : D} (h : Keep st s) (hd : d.low 0 = true) : L3.swept st (.ok d s) = .ok d st := by
  unfold L3.swept
  simp only
  rw [if_pos ⟨h.len, D.low_mono (Nat.zero_le _) d hd, fun i o hi e => .inl (by rw [← h.at_ i hi]; exact e)⟩, h.take]
theorem Keep.get {st s : Store} (h : Keep st s) {i : Nat} {o : SO} (e : st[i]? = some o) : s[i]? = some o := by rw [h.at_ i (lt_of_get e)]; exact e
end L3
namespace L3
open PySem L2
theorem srcOf_of {n : Nat} {st : Store} {xs : List D} (h : st[n]? = some (.lst xs)) : srcOf (.ref n) st = some (.lst n xs) := by rw [srcOf_ref, h]
theorem take_push {st more : Store} : (st ++ more).take st.length = st := by simp
theorem take_push1 {st more : Store} {a : SO} : (st ++ a :: more).take (st.length + 1) = st ++ [a] := by
  rw [show st ++ a :: more = (st ++ [a]) ++ more by simp, show st.length + 1 = (st ++ [a]).length by simp, take_push]
end L3
namespace L3
open PySem L2
theorem wp_sw1 {st : Store} {r : Res D} {Q : D → Store → Prop} : wp (swept st r) Q = wp r (fun d s => wp (swept st (.ok d s)) Q) := by
  cases r with
  | ok a s => simp
  | exc x s => rw [wp_exc]; exact wp_exc
  | stuck => simp
end L3
namespace L3
open PySem L2
@[simp] theorem vBack_tup {xs : List D} {st : Store} : vBack (.tup xs) st = .ok (.tup xs.reverse) st := (rfl)
end L3

/-! L7: the drawer's objects stand first in the store, what a def makes behind them. -/
namespace L3
open PySem L2
def W (p L : Store) : Store := p ++ L
theorem W_len {p L : Store} : (W p L).length = p.length + L.length := by simp [W]
theorem W_push {p L M : Store} : W p L ++ M = W p (L ++ M) := by simp [W]
theorem W_get {p L : Store} {n i : Nat} (h : n = p.length + i) : (W p L)[n]? = L[i]? := by
  subst h
  unfold W
  rw [List.getElem?_append_right (by omega)]
  simp
theorem W_set {p L : Store} {n i : Nat} {o : SO} (h : n = p.length + i) : (W p L).set n o = W p (L.set i o) := by
  subst h
  unfold W
  rw [List.set_append_right _ _ (by omega)]
  simp
/-- a drawer: c objects, good for k draws -/
structure Pool (c : Nat) (G : Nat → Store → Prop) : Prop where
  len : ∀ {k p}, G k p → p.length = c
  low : ∀ {k p}, G k p → ∀ o ∈ p, o.low c = true
  mono : ∀ {k k' p}, k ≤ k' → G k p → G k' p
theorem soLow_mono {m n : Nat} {o : SO} (hn : m ≤ n) (h : o.low m = true) : o.low n = true := by
  cases o with
  | lst ds => exact D.lows_mono hn ds h
  | dK kvs =>
    have : ∀ l : List (Key × D), fpure m l = true → fpure n l = true := by
      intro l
      induction l with
      | nil => intro _; rfl
      | cons a r ih => intro q; simp only [fpure, Bool.and_eq_true] at q ⊢; exact ⟨D.low_mono hn _ q.1, ih q.2⟩
    exact this kvs h
  | ins C fs =>
    have : ∀ l : List (Str × D), fpure m l = true → fpure n l = true := by
      intro l
      induction l with
      | nil => intro _; rfl
      | cons a r ih => intro q; simp only [fpure, Bool.and_eq_true] at q ⊢; exact ⟨D.low_mono hn _ q.1, ih q.2⟩
    exact this fs h
theorem swept_W {p p' L L' : Store} {d : D} (hl : p'.length = p.length) (ho : ∀ o ∈ p', o.low p.length = true) (hd : d.low 0 = true) (K : Keep L L') : swept (W p L) (.ok d (W p' L')) = .ok d (W p' L) := by
  have hw : ∀ {n : Nat} {o : SO}, o.low p.length = true → p.length ≤ n → o.low n = true := by
    intro n o h hn
    cases o with
    | lst ds => exact D.lows_mono hn ds h
    | dK kvs =>
      have : ∀ l : List (Key × D), fpure p.length l = true → fpure n l = true := by
        intro l
        induction l with
        | nil => intro _; rfl
        | cons a r ih => intro q; simp only [fpure, Bool.and_eq_true] at q ⊢; exact ⟨D.low_mono hn _ q.1, ih q.2⟩
      exact this kvs h
    | ins C fs =>
      have : ∀ l : List (Str × D), fpure p.length l = true → fpure n l = true := by
        intro l
        induction l with
        | nil => intro _; rfl
        | cons a r ih => intro q; simp only [fpure, Bool.and_eq_true] at q ⊢; exact ⟨D.low_mono hn _ q.1, ih q.2⟩
      exact this fs h
  have hK := K.len
  unfold swept
  simp only
  rw [if_pos]
  · congr 1
    unfold W
    rw [List.take_append, List.length_append, List.take_of_length_le (by omega), show p.length + L.length - p'.length = L.length by omega, K.take]
  · refine ⟨by rw [W_len, W_len]; omega, D.low_mono (Nat.zero_le _) d hd, fun i o hi e => ?_⟩
    rw [W_len] at hi
    by_cases h : i < p'.length
    · right
      unfold W at e
      rw [List.getElem?_append_left h] at e
      exact hw (ho o (List.mem_of_getElem? e)) (by rw [W_len]; omega)
    · left
      rw [W_get (i := i - p.length) (by omega)] at e ⊢
      rw [← K.at_ _ (by omega)]
      exact e
@[simp] theorem Keep.app {L M : Store} : Keep L (L ++ M) := Keep.refl.push
section
variable {c : Nat} {G : Nat → Store → Prop} (PL : Pool c G) {k k' : Nat} {p p' L L' : Store}
theorem Pool.swp (PL : Pool c G) (h : G k p) (h' : G k' p') {d : D} (hd : d.low 0 = true) (K : Keep L L') : swept (W p L) (.ok d (W p' L')) = .ok d (W p' L) :=
  swept_W (by rw [PL.len h, PL.len h']) (by rw [PL.len h]; exact PL.low h') hd K
theorem Pool.swp1 (PL : Pool c G) (h : G k p) (h' : G k' p') {d : D} {M : Store} (hd : d.low 0 = true) : swept (W p L) (.ok d (W p' (L ++ M))) = .ok d (W p' L) := PL.swp h h' hd .app
theorem Pool.swp0 (PL : Pool c G) (h : G k p) (h' : G k' p') {d : D} : swept (W p L) (.ok d (W p' L)) = .ok d (W p' L) := swept_len (by rw [W_len, W_len, PL.len h, PL.len h'])
end
theorem refW {c : Nat} {p L : Store} (h : p.length = c) : (W p L).length = c + L.length := by rw [W_len, h]
/-! the objects behind: by their places -/
theorem at_0 {L M : Store} {a : SO} {n : Nat} (h : n = L.length) : (L ++ a :: M)[n]? = some a := by subst h; simp
theorem at_1 {L M : Store} {a b : SO} {n : Nat} (h : n = L.length + 1) : (L ++ a :: b :: M)[n]? = some b := by subst h; exact get_a1
theorem at_2 {L M : Store} {a b d : SO} {n : Nat} (h : n = L.length + 2) : (L ++ a :: b :: d :: M)[n]? = some d := by subst h; exact get_a2
theorem at_3 {L M : Store} {a b d e : SO} {n : Nat} (h : n = L.length + 3) : (L ++ a :: b :: d :: e :: M)[n]? = some e := by
  rw [show L ++ a :: b :: d :: e :: M = (L ++ [a]) ++ b :: d :: e :: M by simp]; exact at_2 (by simp; omega)
theorem st_0 {L M : Store} {a x : SO} {n : Nat} (h : n = L.length) : (L ++ a :: M).set n x = L ++ x :: M := by subst h; simp
theorem st_1 {L M : Store} {a b x : SO} {n : Nat} (h : n = L.length + 1) : (L ++ a :: b :: M).set n x = L ++ a :: x :: M := by
  rw [show L ++ a :: b :: M = (L ++ [a]) ++ b :: M by simp, st_0 (by simp; omega)]; simp
theorem st_2 {L M : Store} {a b d x : SO} {n : Nat} (h : n = L.length + 2) : (L ++ a :: b :: d :: M).set n x = L ++ a :: b :: x :: M := by
  rw [show L ++ a :: b :: d :: M = (L ++ [a]) ++ b :: d :: M by simp, st_1 (by simp; omega)]; simp
theorem st_3 {L M : Store} {a b d e x : SO} {n : Nat} (h : n = L.length + 3) : (L ++ a :: b :: d :: e :: M).set n x = L ++ a :: b :: d :: x :: M := by
  rw [show L ++ a :: b :: d :: e :: M = (L ++ [a]) ++ b :: d :: e :: M by simp, st_2 (by simp; omega)]; simp
/-- append to the list at a place -/
theorem app_ev {st : Store} {n : Nat} {xs : List D} {y : D} (h : st[n]? = some (.lst xs)) (hl : xs.length < 10 ^ 6) {s : Store} (hs : s = st.set n (.lst (xs ++ [y]))) : mAppend n [y] st = .ok .non s := by rw [mAppend_ev h hl, hs]
end L3
namespace L3
open PySem L2
theorem wp_ex {α : Type} {r : Res α} {Q : α → Store → Prop} (h : wp r Q) : ∃ a s, r = .ok a s ∧ Q a s := by
  cases r with
  | ok a s => rw [wp_ok] at h; exact ⟨a, s, rfl, h⟩
  | exc x s => rw [wp_exc] at h; exact h.elim
  | stuck => rw [wp_stuck] at h; exact h.elim
theorem Keep.sweptB {st s : Store} {b : Bool} (h : Keep st s) : L3.sweptB st (.ok b s) = .ok b st := by
  unfold L3.sweptB
  simp only
  rw [if_pos ⟨h.len, fun i o hi e => .inl (by rw [← h.at_ i hi]; exact e)⟩, h.take]
end L3
namespace L3
open PySem L2
@[simp] theorem vIx_tup_bl {xs : List D} {b : Bool} {st : Store} : vIx (.tup xs) (.bl b) st = match xs[b.toNat]? with
    | some d => .ok d st
    | none => .stuck := (rfl)
@[simp] theorem vIx_ref_bl {n : Nat} {b : Bool} {st : Store} : vIx (.ref n) (.bl b) st = match st[n]? with
    | some (.lst xs) => match xs[b.toNat]? with
      | some d => .ok d st
      | none => .stuck
    | _ => .stuck := (rfl)
end L3
namespace L3
open PySem L2
theorem Keep.of {st L M : Store} (h : ∃ N, M = L ++ N) : Keep (st ++ L) (st ++ M) := by
  obtain ⟨N, rfl⟩ := h
  rw [← List.append_assoc]
  exact Keep.app
@[simp] theorem swept_1 {st M : Store} {a : SO} {d : D} (hd : d.low 0 = true) : swept (st ++ [a]) (.ok d (st ++ a :: M)) = .ok d (st ++ [a]) := (Keep.of ⟨M, rfl⟩).swept hd
@[simp] theorem swept_2 {st M : Store} {a b : SO} {d : D} (hd : d.low 0 = true) : swept (st ++ [a, b]) (.ok d (st ++ a :: b :: M)) = .ok d (st ++ [a, b]) := (Keep.of ⟨M, rfl⟩).swept hd
@[simp] theorem swept_3 {st M : Store} {a b c : SO} {d : D} (hd : d.low 0 = true) : swept (st ++ [a, b, c]) (.ok d (st ++ a :: b :: c :: M)) = .ok d (st ++ [a, b, c]) := (Keep.of ⟨M, rfl⟩).swept hd
@[simp] theorem swept_4 {st M : Store} {a b c e : SO} {d : D} (hd : d.low 0 = true) : swept (st ++ [a, b, c, e]) (.ok d (st ++ a :: b :: c :: e :: M)) = .ok d (st ++ [a, b, c, e]) := (Keep.of ⟨M, rfl⟩).swept hd
@[simp] theorem swept_0 {st M : Store} {a : SO} {d : D} (hd : d.low 0 = true) : swept st (.ok d (st ++ a :: M)) = .ok d st := swept_push hd
end L3
namespace L3
@[simp] theorem Keep.rfl' {L : Store} : Keep L L := .refl
end L3
namespace L3
open PySem L2
theorem wps_forN {src : Src} {t : Tgt} {body : SS} {ρ : Envr} {st : Store} {N C B : Envr → Store → Prop} {R : D → Store → Prop} (h1 : src.ok st) (h2 : N ρ st) : wps (forL src t body [] ρ st) N C B R := by
  simp [forL, h1, h2]
theorem wps_forC {src : Src} {t : Tgt} {body : SS} {d : D} {ds : List D} {ρ ρ1 : Envr} {st : Store} {N C B : Envr → Store → Prop} {R : D → Store → Prop} (h1 : src.ok st) (h2 : t.ev d ρ = some ρ1)
    (h3 : wps (body ρ1 st) (fun ρ st => wps (forL src t body ds ρ st) N C B R) (fun ρ st => wps (forL src t body ds ρ st) N C B R) N R) : wps (forL src t body (d :: ds) ρ st) N C B R := by
  simp only [forL, if_pos h1, h2]
  cases e : body ρ1 st with
  | nx a st => rw [e] at h3; exact h3.run
  | ct a st => rw [e] at h3; exact h3.run
  | bk a st => rw [e] at h3; exact ⟨h3.run⟩
  | rt a st => rw [e] at h3; exact ⟨h3.run⟩
  | exc x st => rw [e] at h3; exact h3.run.elim
  | stuck => rw [e] at h3; exact h3.run.elim
end L3
namespace L3
open PySem L2
@[simp] theorem ix_pair_int {x y : Int} {b : Bool} : ([D.int x, D.int y])[b.toNat]? = some (D.int (if b = true then y else x)) := by cases b <;> rfl
theorem ix_any {P : D → Prop} {n : Nat} {st : Store} {xs : List D} {r : Int} (h : st[n]? = some (.lst xs)) (hr : 0 ≤ r ∧ r < xs.length) (hp : ∀ d ∈ xs, P d) : ∃ d, vIx (.ref n) (.int r) st = .ok d st ∧ P d := by
  obtain ⟨d, ed, hd⟩ := atI_all (P := P) (xs := xs) (i := r) hr hp
  exact ⟨d, by rw [vIx_ref, h]; simp only [ed], hd⟩
end L3
namespace L3
open PySem L2
/-- a while loop by a measure -/
theorem wps_while {t : SB} {body : SS} {N C B : Envr → Store → Prop} {R : D → Store → Prop} (I : Nat → Envr → Store → Prop)
    (step : ∀ m ρ st, I m ρ st → wp (t ρ st) (fun b st => if b = true then wps (body ρ st) (fun ρ st => ∃ k, k < m ∧ I k ρ st) (fun ρ st => ∃ k, k < m ∧ I k ρ st) N R else N ρ st)) :
    ∀ (fuel m : Nat) (ρ : Envr) (st : Store), m < fuel → I m ρ st → wps (whileL t body fuel ρ st) N C B R
  | 0, m, _, _, h, _ => by omega
  | fuel + 1, m, ρ, st, h, hi => by
    have h1 := step m ρ st hi
    unfold whileL
    obtain ⟨b, st1, e, h2⟩ := wp_ex h1
    rw [e, thn_ok']
    by_cases hb : b = true
    · rw [if_pos hb] at h2 ⊢
      have ih := fun ρ' st' (q : ∃ k, k < m ∧ I k ρ' st') => let ⟨k, hk, hI⟩ := q; wps_while (C := C) (B := B) I step fuel k ρ' st' (by omega) hI
      cases e2 : body ρ st1 with
      | nx a s => rw [e2] at h2; exact ih _ _ h2.run
      | ct a s => rw [e2] at h2; exact ih _ _ h2.run
      | bk a s => rw [e2] at h2; exact ⟨h2.run⟩
      | rt a s => rw [e2] at h2; exact ⟨h2.run⟩
      | exc x s => rw [e2] at h2; exact h2.run.elim
      | stuck => rw [e2] at h2; exact h2.run.elim
    · rw [if_neg hb] at h2 ⊢
      exact ⟨h2⟩
end L3
namespace L3
open PySem L2
/-- .. where what is swept is known to go -/
theorem wps_xswpT {f : SS} {N C B : Envr → Store → Prop} {R : D → Store → Prop} {st : Store} {ρ : Envr}
    (h : wps (f ρ st) (fun ρ' s => (st.length ≤ s.length ∧ (∀ d, some d ∈ ρ' → d.low st.length = true) ∧ ∀ (i : Nat) (o : SO), i < st.length → s[i]? = some o → st[i]? = some o ∨ o.low st.length = true) ∧ N ρ' (s.take st.length)) C B R) : wps (xSwp f ρ st) N C B R := by
  unfold xSwp
  cases e : f ρ st with
  | nx a s =>
    rw [e, wps_nx] at h
    simp only
    rw [if_pos h.1, wps_nx]
    exact h.2
  | ct a s => rw [e] at h; exact ⟨h.run⟩
  | bk a s => rw [e] at h; exact ⟨h.run⟩
  | rt a s => rw [e] at h; exact ⟨h.run⟩
  | exc x s => rw [e] at h; exact ⟨h.run⟩
  | stuck => rw [e] at h; exact ⟨h.run⟩
/-- objects below that stay or hold nothing above -/
theorem below_1 {st M : Store} {a b : SO} (hb : b.low (st.length + 1) = true) : ∀ (i : Nat) (o : SO), i < st.length + 1 → (st ++ b :: M)[i]? = some o → (st ++ [a])[i]? = some o ∨ o.low (st.length + 1) = true := by
  intro i o hi e
  by_cases h : i < st.length
  · left
    rw [List.getElem?_append_left h] at e ⊢
    exact e
  · right
    have : i = st.length := by omega
    subst this
    simp at e
    subst e
    exact hb
end L3
namespace L3
open PySem L2
@[simp] theorem kt_int_int : kitB "int" "int" = some true := by decide +kernel
@[simp] theorem kt_int_bool : kitB "int" "bool" = some false := by decide +kernel
@[simp] theorem kt_int_str : kitB "int" "str" = some false := by decide +kernel
@[simp] theorem kt_int_tuple : kitB "int" "tuple" = some false := by decide +kernel
@[simp] theorem kt_int_list : kitB "int" "list" = some false := by decide +kernel
@[simp] theorem kt_int_dict : kitB "int" "dict" = some false := by decide +kernel
@[simp] theorem kt_bool_int : kitB "bool" "int" = some true := by decide +kernel
@[simp] theorem kt_bool_bool : kitB "bool" "bool" = some true := by decide +kernel
@[simp] theorem kt_bool_str : kitB "bool" "str" = some false := by decide +kernel
@[simp] theorem kt_bool_tuple : kitB "bool" "tuple" = some false := by decide +kernel
@[simp] theorem kt_bool_list : kitB "bool" "list" = some false := by decide +kernel
@[simp] theorem kt_bool_dict : kitB "bool" "dict" = some false := by decide +kernel
@[simp] theorem kt_str_int : kitB "str" "int" = some false := by decide +kernel
@[simp] theorem kt_str_bool : kitB "str" "bool" = some false := by decide +kernel
@[simp] theorem kt_str_str : kitB "str" "str" = some true := by decide +kernel
@[simp] theorem kt_str_tuple : kitB "str" "tuple" = some false := by decide +kernel
@[simp] theorem kt_str_list : kitB "str" "list" = some false := by decide +kernel
@[simp] theorem kt_str_dict : kitB "str" "dict" = some false := by decide +kernel
@[simp] theorem kt_tuple_int : kitB "tuple" "int" = some false := by decide +kernel
@[simp] theorem kt_tuple_bool : kitB "tuple" "bool" = some false := by decide +kernel
@[simp] theorem kt_tuple_str : kitB "tuple" "str" = some false := by decide +kernel
@[simp] theorem kt_tuple_tuple : kitB "tuple" "tuple" = some true := by decide +kernel
@[simp] theorem kt_tuple_list : kitB "tuple" "list" = some false := by decide +kernel
@[simp] theorem kt_tuple_dict : kitB "tuple" "dict" = some false := by decide +kernel
@[simp] theorem kt_NoneType_int : kitB "NoneType" "int" = some false := by decide +kernel
@[simp] theorem kt_NoneType_bool : kitB "NoneType" "bool" = some false := by decide +kernel
@[simp] theorem kt_NoneType_str : kitB "NoneType" "str" = some false := by decide +kernel
@[simp] theorem kt_NoneType_tuple : kitB "NoneType" "tuple" = some false := by decide +kernel
@[simp] theorem kt_NoneType_list : kitB "NoneType" "list" = some false := by decide +kernel
@[simp] theorem kt_NoneType_dict : kitB "NoneType" "dict" = some false := by decide +kernel
@[simp] theorem kt_list_int : kitB "list" "int" = some false := by decide +kernel
@[simp] theorem kt_list_bool : kitB "list" "bool" = some false := by decide +kernel
@[simp] theorem kt_list_str : kitB "list" "str" = some false := by decide +kernel
@[simp] theorem kt_list_tuple : kitB "list" "tuple" = some false := by decide +kernel
@[simp] theorem kt_list_list : kitB "list" "list" = some true := by decide +kernel
@[simp] theorem kt_list_dict : kitB "list" "dict" = some false := by decide +kernel
@[simp] theorem kt_dict_int : kitB "dict" "int" = some false := by decide +kernel
@[simp] theorem kt_dict_bool : kitB "dict" "bool" = some false := by decide +kernel
@[simp] theorem kt_dict_str : kitB "dict" "str" = some false := by decide +kernel
@[simp] theorem kt_dict_tuple : kitB "dict" "tuple" = some false := by decide +kernel
@[simp] theorem kt_dict_list : kitB "dict" "list" = some false := by decide +kernel
@[simp] theorem kt_dict_dict : kitB "dict" "dict" = some true := by decide +kernel
@[simp] theorem tyName_rl {xs : List D} {st : Store} : tyName (.rl xs) st = some "list" := (rfl)
theorem tyName_ref {n : Nat} {xs : List D} {st : Store} (h : st[n]? = some (.lst xs)) : tyName (.ref n) st = some "list" := by simp only [tyName, h]
end L3

namespace Ap
open PySem L2 L3
def topS (i : Nat) : Stmt := PySem.Challenge.pw_anyplay_k13_ways_judged.main.body.getD i (.Pass ⟨0, 0, 0, 0⟩)
abbrev s_is_whole : Stmt := topS 1
abbrev N_is_whole : List Str := ["thing"]
theorem sc_is_whole : FnScope N_is_whole ["thing"] (defScope s_is_whole) := ⟨rfl, rfl, rfl, by decide +kernel, rfl, by decide +kernel, by decide +kernel⟩
noncomputable def b_is_whole : SS :=
    (xRet (sAndV (sIsi "int" (sVar 0)) (sNotV (sTruth (sIsi "bool" (sVar 0))))))
noncomputable def F_is_whole : FL := fnBody 1 b_is_whole
abbrev s_runs_of : Stmt := topS 3
abbrev N_runs_of : List Str := ["word", "at"]
theorem sc_runs_of : FnScope N_runs_of ["word"] (defScope s_runs_of) := ⟨rfl, rfl, rfl, by decide +kernel, rfl, by decide +kernel, by decide +kernel⟩
noncomputable def b_runs_of : SS :=
    (xRet (sLc (iRange1 (sCons (sCB bLen (sCons (s2 vIx (sVar 0) (sC (.int 1))) sNil)) sNil)) (.nm 1) sYes (sTup (sCons (s2 vMod (s2 vAdd (s2 vIx (sVar 0) (sC (.int 0))) (sVar 1)) (sC (.int 2))) (sCons (s2 vIx (s2 vIx (sVar 0) (sC (.int 1))) (sVar 1)) sNil))) [1]))
noncomputable def F_runs_of : FL := fnBody 2 b_runs_of
abbrev s_word_of_runs : Stmt := topS 4
abbrev N_word_of_runs : List Str := ["runs", "told", "letter", "length"]
theorem sc_word_of_runs : FnScope N_word_of_runs ["runs"] (defScope s_word_of_runs) := ⟨rfl, rfl, rfl, by decide +kernel, rfl, by decide +kernel, by decide +kernel⟩
noncomputable def b_word_of_runs : SS :=
    (xSeq (xAsg (.nm 1) (sLst sNil))
    (xSeq (xFor (iSeq (sVar 0)) (.tp [(.nm 2), (.nm 3)]) (xSeq (xIf (sBool (s2 vEq (sVar 3) (sC (.int 0)))) xCont xNil)
    (xIf (sAnd (sTruth (sVar 1)) (sBool (s2 vEq (s2 vIx (s2 vIx (sVar 1) (s1 vNeg (sC (.int 1)))) (sC (.int 0))) (sVar 2)))) (xSetL (sTup (sCons (sVar 2) (sCons (s2 vAdd (s2 vIx (s2 vIx (sVar 1) (s1 vNeg (sC (.int 1)))) (sC (.int 1))) (sVar 3)) sNil))) (sVar 1) (s1 vNeg (sC (.int 1)))) (xExpr (sML mAppend (sVar 1) (sCons (sTup (sCons (sVar 2) (sCons (sVar 3) sNil))) sNil))))))
    (xRet (sTup (sCons (sIte (sTruth (sVar 1)) (s2 vIx (s2 vIx (sVar 1) (sC (.int 0))) (sC (.int 0))) (sC (.int 0))) (sCons (sSwp (sCB bTuple (sCons (sLc (iSeq (sVar 1)) (.tp [(.nm 2), (.nm 3)]) sYes (sVar 3) [2, 3]) sNil))) sNil))))))
noncomputable def F_word_of_runs : FL := fnBody 4 b_word_of_runs
abbrev s_word_length : Stmt := topS 5
abbrev N_word_length : List Str := ["word"]
theorem sc_word_length : FnScope N_word_length ["word"] (defScope s_word_length) := ⟨rfl, rfl, rfl, by decide +kernel, rfl, by decide +kernel, by decide +kernel⟩
noncomputable def b_word_length : SS :=
    (xRet (sCB bSum (sCons (s2 vIx (sVar 0) (sC (.int 1))) sNil)))
noncomputable def F_word_length : FL := fnBody 1 b_word_length
abbrev s_cut_runs : Stmt := topS 6
abbrev N_cut_runs : List Str := ["word", "many", "told", "left", "letter", "length", "part"]
theorem sc_cut_runs : FnScope N_cut_runs ["word", "many"] (defScope s_cut_runs) := ⟨rfl, rfl, rfl, by decide +kernel, rfl, by decide +kernel, by decide +kernel⟩
noncomputable def b_cut_runs : SS :=
    (xSeq (xAsg (.nm 2) (sLst sNil))
    (xSeq (xAsg (.nm 3) (sVar 1))
    (xSeq (xSwp (xFor (iSeq (sCB F_runs_of (sCons (sVar 0) sNil))) (.tp [(.nm 4), (.nm 5)]) (xSeq (xAsg (.nm 6) (sCB bMin (sCons (sVar 5) (sCons (sVar 3) sNil))))
    (xSeq (xIf (sBool (s2 vGt (sVar 6) (sC (.int 0)))) (xExpr (sML mAppend (sVar 2) (sCons (sTup (sCons (sVar 4) (sCons (sVar 6) sNil))) sNil))) xNil)
    (xAug 3 vSub (sVar 6))))))
    (xRet (sVar 2)))))
noncomputable def F_cut_runs : FL := fnBody 7 b_cut_runs
abbrev s_many_of : Stmt := topS 7
abbrev N_many_of : List Str := ["runs", "letter", "one", "length"]
theorem sc_many_of : FnScope N_many_of ["runs", "letter"] (defScope s_many_of) := ⟨rfl, rfl, rfl, by decide +kernel, rfl, by decide +kernel, by decide +kernel⟩
noncomputable def b_many_of : SS :=
    (xRet (sSwp (sCB bSum (sCons (sLc (iSeq (sVar 0)) (.tp [(.nm 2), (.nm 3)]) (sBool (s2 vEq (sVar 2) (sVar 1))) (sVar 3) [2, 3]) sNil))))
noncomputable def F_many_of : FL := fnBody 4 b_many_of
abbrev s_ends_of : Stmt := topS 8
abbrev N_ends_of : List Str := ["word", "told", "end", "length"]
theorem sc_ends_of : FnScope N_ends_of ["word"] (defScope s_ends_of) := ⟨rfl, rfl, rfl, by decide +kernel, rfl, by decide +kernel, by decide +kernel⟩
noncomputable def b_ends_of : SS :=
    (xSeq (xAsg (.nm 1) (sLst sNil))
    (xSeq (xAsg (.nm 2) (sC (.int 0)))
    (xSeq (xFor (iSeq (s2 vIx (sVar 0) (sC (.int 1)))) (.nm 3) (xSeq (xAug 2 vAddI (sVar 3))
    (xExpr (sML mAppend (sVar 1) (sCons (sVar 2) sNil)))))
    (xRet (sVar 1)))))
noncomputable def F_ends_of : FL := fnBody 4 b_ends_of
abbrev s_letter_at : Stmt := topS 9
abbrev N_letter_at : List Str := ["word", "number"]
theorem sc_letter_at : FnScope N_letter_at ["word", "number"] (defScope s_letter_at) := ⟨rfl, rfl, rfl, by decide +kernel, rfl, by decide +kernel, by decide +kernel⟩
noncomputable def b_letter_at : SS :=
    (xRet (sSwp (s2 vIx (sSwp (s2 vIx (sCB F_cut_runs (sCons (sVar 0) (sCons (sVar 1) sNil))) (s1 vNeg (sC (.int 1))))) (sC (.int 0)))))
noncomputable def F_letter_at : FL := fnBody 2 b_letter_at
abbrev s_both_ends : Stmt := topS 10
abbrev N_both_ends : List Str := ["one", "other"]
theorem sc_both_ends : FnScope N_both_ends ["one", "other"] (defScope s_both_ends) := ⟨rfl, rfl, rfl, by decide +kernel, rfl, by decide +kernel, by decide +kernel⟩
noncomputable def b_both_ends : SS :=
    (xRet (s1 vSrtS (s2 vAdd (sCB F_ends_of (sCons (sVar 0) sNil)) (sCB F_ends_of (sCons (sVar 1) sNil)))))
noncomputable def F_both_ends : FL := fnBody 2 b_both_ends
abbrev s_letters_by_ends : Stmt := topS 11
abbrev N_letters_by_ends : List Str := ["word", "ends", "told", "runs", "at", "past", "end"]
theorem sc_letters_by_ends : FnScope N_letters_by_ends ["word", "ends"] (defScope s_letters_by_ends) := ⟨rfl, rfl, rfl, by decide +kernel, rfl, by decide +kernel, by decide +kernel⟩
noncomputable def b_letters_by_ends : SS :=
    (xSeq (xAsg (.nm 2) (sLst sNil))
    (xSeq (xAsg (.nm 3) (sCB F_runs_of (sCons (sVar 0) sNil)))
    (xSeq (xAsg (.tp [(.nm 4), (.nm 5)]) (sTup (sCons (sC (.int 0)) (sCons (sC (.int 0)) sNil))))
    (xSeq (xFor (iSeq (sVar 1)) (.nm 6) (xSeq (whileL (sBool (s2 vLt (s2 vAdd (sVar 5) (s2 vIx (s2 vIx (sVar 3) (sVar 4)) (sC (.int 1)))) (sVar 6))) (xSeq (xAug 5 vAddI (s2 vIx (s2 vIx (sVar 3) (sVar 4)) (sC (.int 1))))
    (xAug 4 vAddI (sC (.int 1)))) 1000000000)
    (xExpr (sML mAppend (sVar 2) (sCons (s2 vIx (s2 vIx (sVar 3) (sVar 4)) (sC (.int 0))) sNil)))))
    (xRet (sVar 2))))))
noncomputable def F_letters_by_ends : FL := fnBody 7 b_letters_by_ends
abbrev s_unlike_stretches : Stmt := topS 12
abbrev N_unlike_stretches : List Str := ["one", "other", "ends", "letters", "others", "told", "at"]
theorem sc_unlike_stretches : FnScope N_unlike_stretches ["one", "other"] (defScope s_unlike_stretches) := ⟨rfl, rfl, rfl, by decide +kernel, rfl, by decide +kernel, by decide +kernel⟩
noncomputable def b_unlike_stretches : SS :=
    (xSeq (xAsg (.nm 2) (sCB F_both_ends (sCons (sVar 0) (sCons (sVar 1) sNil))))
    (xSeq (xPar 3 4 (sCons (sCB F_letters_by_ends (sCons (sVar 0) (sCons (sVar 2) sNil))) (sCons (sCB F_letters_by_ends (sCons (sVar 1) (sCons (sVar 2) sNil))) sNil)))
    (xSeq (xAsg (.nm 5) (sLst sNil))
    (xSeq (xFor (iRange1 (sCons (sCB bLen (sCons (sVar 2) sNil)) sNil)) (.nm 6) (xIf (sBool (s2 vNe (s2 vIx (sVar 3) (sVar 6)) (s2 vIx (sVar 4) (sVar 6)))) (xExpr (sML mAppend (sVar 5) (sCons (sTup (sCons (sIte (sBool (s2 vGt (sVar 6) (sC (.int 0)))) (s2 vAdd (s2 vIx (sVar 2) (s2 vSub (sVar 6) (sC (.int 1)))) (sC (.int 1))) (sC (.int 1))) (sCons (s2 vIx (sVar 2) (sVar 6)) sNil))) sNil))) xNil))
    (xRet (sVar 5))))))
noncomputable def F_unlike_stretches : FL := fnBody 7 b_unlike_stretches
abbrev s_last_unlike : Stmt := topS 13
abbrev N_last_unlike : List Str := ["one", "other"]
theorem sc_last_unlike : FnScope N_last_unlike ["one", "other"] (defScope s_last_unlike) := ⟨rfl, rfl, rfl, by decide +kernel, rfl, by decide +kernel, by decide +kernel⟩
noncomputable def b_last_unlike : SS :=
    (xSeq (xIf (sBool (s2 vEq (sVar 0) (sVar 1))) (xRet (sC (.int 0))) xNil)
    (xRet (sSwp (s2 vIx (sSwp (s2 vIx (sCB F_unlike_stretches (sCons (sVar 0) (sCons (sVar 1) sNil))) (s1 vNeg (sC (.int 1))))) (sC (.int 1))))))
noncomputable def F_last_unlike : FL := fnBody 2 b_last_unlike
abbrev s_plain_word : Stmt := topS 14
abbrev N_plain_word : List Str := ["letter", "many"]
theorem sc_plain_word : FnScope N_plain_word ["letter", "many"] (defScope s_plain_word) := ⟨rfl, rfl, rfl, by decide +kernel, rfl, by decide +kernel, by decide +kernel⟩
noncomputable def b_plain_word : SS :=
    (xRet (sSwp (sCB F_word_of_runs (sCons (sLst (sCons (sTup (sCons (sVar 0) (sCons (sVar 1) sNil))) sNil)) sNil))))
noncomputable def F_plain_word : FL := fnBody 2 b_plain_word
abbrev s_moved : Stmt := topS 16
abbrev N_moved : List Str := ["word", "way", "wanted", "left", "taken", "rest", "letter", "length", "part"]
theorem sc_moved : FnScope N_moved ["word", "way"] (defScope s_moved) := ⟨rfl, rfl, rfl, by decide +kernel, rfl, by decide +kernel, by decide +kernel⟩
noncomputable def b_moved : SS :=
    (xSeq (xIf (sBool (s2 vEq (sVar 1) (sC (.int 0)))) (xRet (sVar 0)) xNil)
    (xSeq (xAsg (.nm 2) (sIte (sBool (s2 vGt (sVar 1) (sC (.int 0)))) (sC (.int 1)) (sC (.int 0))))
    (xSeq (xPar 3 4 (sCons (sCB bAbs (sCons (sVar 1) sNil)) (sCons (sC (.int 0)) sNil)))
    (xSeq (xAsg (.nm 5) (sLst sNil))
    (xSeq (xSwp (xFor (iSeq (sCB F_runs_of (sCons (sVar 0) sNil))) (.tp [(.nm 6), (.nm 7)]) (xIf (sBool (s2 vEq (sVar 3) (sC (.int 0)))) (xExpr (sML mAppend (sVar 5) (sCons (sTup (sCons (sVar 6) (sCons (sVar 7) sNil))) sNil))) (xIf (sBool (s2 vEq (sVar 6) (sVar 2))) (xAug 4 vAddI (sVar 7)) (xSeq (xAsg (.nm 8) (sCB bMin (sCons (sVar 7) (sCons (sVar 3) sNil))))
    (xSeq (xAug 3 vSub (sVar 8))
    (xSeq (xAug 4 vAddI (sVar 8))
    (xExpr (sML mAppend (sVar 5) (sCons (sTup (sCons (sVar 6) (sCons (s2 vSub (sVar 7) (sVar 8)) sNil))) sNil))))))))))
    (xRet (sSwp (sCB F_word_of_runs (sCons (s2 vAdd (sLst (sCons (sTup (sCons (sVar 2) (sCons (sVar 4) sNil))) sNil)) (sVar 5)) sNil)))))))))
noncomputable def F_moved : FL := fnBody 9 b_moved
abbrev s_plain_ways : Stmt := topS 18
abbrev N_plain_ways : List Str := ["word", "other", "last", "letter", "told", "left", "one", "length"]
theorem sc_plain_ways : FnScope N_plain_ways ["word", "other"] (defScope s_plain_ways) := ⟨rfl, rfl, rfl, by decide +kernel, rfl, by decide +kernel, by decide +kernel⟩
noncomputable def b_plain_ways : SS :=
    (xSeq (xAsg (.nm 2) (sCB F_last_unlike (sCons (sVar 0) (sCons (sVar 1) sNil))))
    (xSeq (xIf (sBool (s2 vEq (sVar 2) (sC (.int 0)))) (xRet (sLst sNil)) xNil)
    (xSeq (xAsg (.nm 3) (sCB F_letter_at (sCons (sVar 1) (sCons (sVar 2) sNil))))
    (xSeq (xAsg (.nm 4) (sLst (sCons (s2 vMul (sSwp (sCB F_many_of (sCons (sCB F_cut_runs (sCons (sVar 0) (sCons (sVar 2) sNil))) (sCons (s2 vSub (sC (.int 1)) (sVar 3)) sNil)))) (sIte (sBool (s2 vEq (sVar 3) (sC (.int 1)))) (sC (.int 1)) (s1 vNeg (sC (.int 1))))) sNil)))
    (xSeq (xAsg (.nm 5) (sVar 2))
    (xSeq (xSwp (xFor (iSeq (s1 vBack0 (sCB F_cut_runs (sCons (sVar 1) (sCons (sVar 2) sNil))))) (.tp [(.nm 6), (.nm 7)]) (xSeq (xAug 5 vSub (sVar 7))
    (xExpr (sML mAppend (sVar 4) (sCons (sIte (sBool (s2 vEq (sVar 6) (sC (.int 0)))) (sVar 5) (s1 vNeg (sVar 5))) sNil))))))
    (xRet (sVar 4))))))))
noncomputable def F_plain_ways : FL := fnBody 8 b_plain_ways
abbrev s_ones_of : Stmt := topS 19
abbrev N_ones_of : List Str := ["word"]
theorem sc_ones_of : FnScope N_ones_of ["word"] (defScope s_ones_of) := ⟨rfl, rfl, rfl, by decide +kernel, rfl, by decide +kernel, by decide +kernel⟩
noncomputable def b_ones_of : SS :=
    (xRet (sSwp (sCB F_many_of (sCons (sCB F_runs_of (sCons (sVar 0) sNil)) (sCons (sC (.int 1)) sNil)))))
noncomputable def F_ones_of : FL := fnBody 1 b_ones_of
abbrev s_ways_of : Stmt := topS 20
abbrev N_ways_of : List Str := ["word", "other", "distance", "more", "many"]
theorem sc_ways_of : FnScope N_ways_of ["word", "other", "distance"] (defScope s_ways_of) := ⟨rfl, rfl, rfl, by decide +kernel, rfl, by decide +kernel, by decide +kernel⟩
noncomputable def b_ways_of : SS :=
    (xSeq (xAsg (.nm 3) (s2 vSub (sVar 2) (s2 vSub (sCB F_ones_of (sCons (sVar 1) sNil)) (sCB F_ones_of (sCons (sVar 0) sNil)))))
    (xSeq (xAsg (.nm 4) (sCB F_word_length (sCons (sVar 0) sNil)))
    (xSeq (xIf (sBool (s2 vGt (sVar 3) (sC (.int 0)))) (xRet (s2 vAdd (sLst (sCons (s2 vAdd (s2 vSub (sVar 4) (sCB F_ones_of (sCons (sVar 0) sNil))) (sVar 3)) sNil)) (sCB F_plain_ways (sCons (sCB F_plain_word (sCons (sC (.int 1)) (sCons (sVar 4) sNil))) (sCons (sVar 1) sNil))))) xNil)
    (xSeq (xIf (sBool (s2 vLt (sVar 3) (sC (.int 0)))) (xRet (s2 vAdd (sLst (sCons (s2 vSub (sVar 3) (sCB F_ones_of (sCons (sVar 0) sNil))) sNil)) (sCB F_plain_ways (sCons (sCB F_plain_word (sCons (sC (.int 0)) (sCons (sVar 4) sNil))) (sCons (sVar 1) sNil))))) xNil)
    (xRet (sCB F_plain_ways (sCons (sVar 0) (sCons (sVar 1) sNil))))))))
noncomputable def F_ways_of : FL := fnBody 5 b_ways_of
abbrev s_way_between : Stmt := topS 21
abbrev N_way_between : List Str := ["word", "other", "distance"]
theorem sc_way_between : FnScope N_way_between ["word", "other", "distance"] (defScope s_way_between) := ⟨rfl, rfl, rfl, by decide +kernel, rfl, by decide +kernel, by decide +kernel⟩
noncomputable def b_way_between : SS :=
    (xRet (sSwp (sCB bTuple (sCons (sCB F_ways_of (sCons (sVar 0) (sCons (sVar 1) (sCons (sVar 2) sNil)))) sNil))))
noncomputable def F_way_between : FL := fnBody 3 b_way_between
abbrev s_least_way : Stmt := topS 22
abbrev N_least_way : List Str := ["word", "other", "distance", "way"]
theorem sc_least_way : FnScope N_least_way ["word", "other", "distance"] (defScope s_least_way) := ⟨rfl, rfl, rfl, by decide +kernel, rfl, by decide +kernel, by decide +kernel⟩
noncomputable def b_least_way : SS :=
    (xRet (sSwp (sCB bSum (sCons (sLc (iSeq (sCB F_ways_of (sCons (sVar 0) (sCons (sVar 1) (sCons (sVar 2) sNil))))) (.nm 3) sYes (sCB bAbs (sCons (sVar 3) sNil)) [3]) sNil))))
noncomputable def F_least_way : FL := fnBody 4 b_least_way
abbrev s_is_way : Stmt := topS 23
abbrev N_is_way : List Str := ["word", "other", "distance", "way", "thing", "now", "one"]
theorem sc_is_way : FnScope N_is_way ["word", "other", "distance", "way", "thing"] (defScope s_is_way) := ⟨rfl, rfl, rfl, by decide +kernel, rfl, by decide +kernel, by decide +kernel⟩
noncomputable def b_is_way : SS :=
    (xSeq (xIf (sOr (sNot (sTruth (sIsi "tuple" (sVar 4)))) (sSwpB (sTruth (sLc (iSeq (sVar 4)) (.nm 6) (sNot (sTruth (sCB F_is_whole (sCons (sVar 6) sNil)))) (sVar 6) [6])))) (xRet (sC (.bl false))) xNil)
    (xSeq (xAsg (.nm 5) (sVar 0))
    (xSeq (xFor (iSeq (sVar 4)) (.nm 6) (xAsg (.nm 5) (sCB F_moved (sCons (sVar 5) (sCons (sVar 6) sNil)))))
    (xRet (sAndV (s2 vEq (sVar 5) (sVar 1)) (sAndV (s2 vEq (sCB bSum (sCons (sVar 4) sNil)) (sVar 2)) (sSwp (s2 vLe (sSwp (sCB bSum (sCons (sLc (iSeq (sVar 4)) (.nm 6) sYes (sCB bAbs (sCons (sVar 6) sNil)) [6]) sNil))) (sVar 3)))))))))
noncomputable def F_is_way : FL := fnBody 7 b_is_way
abbrev s_law_pool : Stmt := topS 25
abbrev N_law_pool : List Str := ["script", "most", "pool", "cell"]
theorem sc_law_pool : FnScope N_law_pool ["script"] (defScope s_law_pool) := ⟨rfl, rfl, rfl, by decide +kernel, rfl, by decide +kernel, by decide +kernel⟩
noncomputable def b_law_pool : SS :=
    (xSeq (xAsg (.nm 1) (s2 vMul (s2 vMul (s2 vMul (s2 vMul (s2 vPow (sC (.int 10)) (sC (.int 13))) (s2 vPow (sC (.int 10)) (sC (.int 60)))) (s2 vPow (sC (.int 10)) (sC (.int 60)))) (s2 vPow (sC (.int 10)) (sC (.int 60)))) (s2 vPow (sC (.int 10)) (sC (.int 60)))))
    (xSeq (xAsg (.nm 2) (sLst (sCons (sC (.int 0)) sNil)))
    (xSeq (xSwp (xFor (iSeq (sSlice vSlice (sVar 0) sNoPart (sPart (sC (.int 63))))) (.nm 3) (xExpr (sML mAppend (sVar 2) (sCons (s2 vMod (sCB bAbs (sCons (sCB bInt (sCons (sVar 3) sNil)) sNil)) (sVar 1)) sNil)))))
    (xSeq (xIf (sBool (s2 vEq (sCB bLen (sCons (sVar 2) sNil)) (sC (.int 1)))) (xExpr (sML mAppend (sVar 2) (sCons (sC (.int 13)) sNil))) xNil)
    (xRet (sVar 2))))))
noncomputable def F_law_pool : FL := fnBody 4 b_law_pool
abbrev s_law_draw : Stmt := topS 26
abbrev N_law_draw : List Str := ["pool", "many", "turn", "place", "cell", "mixed"]
theorem sc_law_draw : FnScope N_law_draw ["pool", "many"] (defScope s_law_draw) := ⟨rfl, rfl, rfl, by decide +kernel, rfl, by decide +kernel, by decide +kernel⟩
noncomputable def b_law_draw : SS :=
    (xSeq (xSetL (s2 vAdd (s2 vIx (sVar 0) (sC (.int 0))) (sC (.int 1))) (sVar 0) (sC (.int 0)))
    (xSeq (xAsg (.nm 2) (sCB bInt (sCons (s2 vIx (sVar 0) (sC (.int 0))) sNil)))
    (xSeq (xAsg (.nm 3) (s2 vAdd (sC (.int 1)) (s2 vMod (sVar 2) (s2 vSub (sCB bLen (sCons (sVar 0) sNil)) (sC (.int 1))))))
    (xSeq (xAsg (.nm 4) (sCB bInt (sCons (s2 vIx (sVar 0) (sVar 3)) sNil)))
    (xSeq (xIf (sBool (s2 vGe (sVar 4) (s2 vPow (sC (.int 10)) (sC (.int 18))))) (xSeq (xSetL (s2 vFdiv (sVar 4) (sVar 1)) (sVar 0) (sVar 3))
    (xRet (s2 vMod (sVar 4) (sVar 1)))) xNil)
    (xSeq (xAsg (.nm 5) (s2 vMod (s2 vMul (s2 vAdd (s2 vMod (sVar 4) (sC (.int 2147482819))) (s2 vMul (sC (.int 275604541)) (sVar 2))) (sC (.int 39373))) (sC (.int 2147482819))))
    (xSeq (xAsg (.nm 5) (s2 vMod (s2 vMul (s2 vAdd (sVar 5) (s2 vMul (s2 vMul (sVar 2) (sVar 2)) (sC (.int 20123)))) (sC (.int 69621))) (sC (.int 2147482819))))
    (xRet (s2 vMod (s2 vFdiv (sVar 5) (sC (.int 191))) (sVar 1))))))))))
noncomputable def F_law_draw : FL := fnBody 6 b_law_draw
abbrev s_law_same : Stmt := topS 27
abbrev N_law_same : List Str := ["told", "due", "k"]
theorem sc_law_same : FnScope N_law_same ["told", "due"] (defScope s_law_same) := ⟨rfl, rfl, rfl, by decide +kernel, rfl, by decide +kernel, by decide +kernel⟩
noncomputable def b_law_same (G : FL) : SS :=
    (xSeq (xIf (sBool (s2 vIs (sVar 1) (sC .non))) (xRet (s2 vIs (sVar 0) (sC .non))) xNil)
    (xSeq (xIf (sTruth (sIsi "bool" (sVar 1))) (xRet (sSwp (s2 vIx (sLst (sCons (s2 vIs (sVar 0) (sC (.bl false))) (sCons (s2 vIs (sVar 0) (sC (.bl true))) sNil))) (sVar 1)))) xNil)
    (xSeq (xIf (sTruth (sIsi "tuple" (sVar 1))) (xSeq (xIf (sOr (sNot (sTruth (sIsi "tuple" (sVar 0)))) (sBool (s2 vNe (sCB bLen (sCons (sVar 0) sNil)) (sCB bLen (sCons (sVar 1) sNil))))) (xRet (sC (.bl false))) xNil)
    (xSeq (xFor (iRange1 (sCons (sCB bLen (sCons (sVar 1) sNil)) sNil)) (.nm 2) (xIf (sNot (sTruth (sCB G (sCons (s2 vIx (sVar 0) (sVar 2)) (sCons (s2 vIx (sVar 1) (sVar 2)) sNil))))) (xRet (sC (.bl false))) xNil))
    (xRet (sC (.bl true))))) xNil)
    (xSeq (xIf (sTruth (sIsi "str" (sVar 1))) (xRet (sAndV (sIsi "str" (sVar 0)) (s2 vEq (sVar 0) (sVar 1)))) xNil)
    (xRet (sAndV (sIsi "int" (sVar 0)) (sAndV (sNotV (sTruth (sIsi "bool" (sVar 0)))) (s2 vEq (sVar 0) (sVar 1)))))))))
noncomputable def F_law_same : Nat → FL
  | 0 => fun _ _ => .stuck
  | n + 1 => fnBody 3 (b_law_same (F_law_same n))
abbrev s_law_word : Stmt := topS 28
abbrev N_law_word : List Str := ["letters", "lengths", "last", "letter"]
theorem sc_law_word : FnScope N_law_word ["letters"] (defScope s_law_word) := ⟨rfl, rfl, rfl, by decide +kernel, rfl, by decide +kernel, by decide +kernel⟩
noncomputable def b_law_word : SS :=
    (xSeq (xAsg (.nm 1) (sLst sNil))
    (xSeq (xAsg (.nm 2) (sC (.str "")))
    (xSeq (xFor (iSeq (sVar 0)) (.nm 3) (xSeq (xIf (sBool (s2 vEq (sVar 3) (sVar 2))) (xSetL (s2 vAdd (s2 vIx (sVar 1) (s2 vSub (sCB bLen (sCons (sVar 1) sNil)) (sC (.int 1)))) (sC (.int 1))) (sVar 1) (s2 vSub (sCB bLen (sCons (sVar 1) sNil)) (sC (.int 1)))) (xExpr (sML mAppend (sVar 1) (sCons (sC (.int 1)) sNil))))
    (xAsg (.nm 2) (sVar 3))))
    (xRet (sTup (sCons (sSwp (sCB bInt (sCons (sSwp (s2 vEq (sSlice vSlice (sVar 0) sNoPart (sPart (sC (.int 1)))) (sC (.str "1")))) sNil))) (sCons (sCB bTuple (sCons (sVar 1) sNil)) sNil)))))))
noncomputable def F_law_word : FL := fnBody 4 b_law_word
abbrev s_law_moved : Stmt := topS 29
abbrev N_law_moved : List Str := ["letters", "way", "left", "out", "letter"]
theorem sc_law_moved : FnScope N_law_moved ["letters", "way"] (defScope s_law_moved) := ⟨rfl, rfl, rfl, by decide +kernel, rfl, by decide +kernel, by decide +kernel⟩
noncomputable def b_law_moved : SS :=
    (xSeq (xAsg (.nm 2) (sCB bAbs (sCons (sVar 1) sNil)))
    (xSeq (xAsg (.nm 3) (sC (.str "")))
    (xSeq (xFor (iSeq (sVar 0)) (.nm 4) (xIf (sAnd (sBool (s2 vGt (sVar 2) (sC (.int 0)))) (sBool (s2 vEq (sVar 4) (s2 vIx (sC (.str "01")) (s2 vLt (sVar 1) (sC (.int 0))))))) (xSeq (xAsg (.nm 2) (s2 vSub (sVar 2) (sC (.int 1))))
    (xAsg (.nm 3) (s2 vAdd (sVar 3) (s2 vIx (sC (.str "10")) (s2 vLt (sVar 1) (sC (.int 0))))))) (xAsg (.nm 3) (s2 vAdd (sVar 3) (sVar 4)))))
    (xRet (sVar 3)))))
noncomputable def F_law_moved : FL := fnBody 5 b_law_moved
abbrev s_law_leads : Stmt := topS 30
abbrev N_law_leads : List Str := ["letters", "other", "distance", "most", "thing", "size", "place", "way"]
theorem sc_law_leads : FnScope N_law_leads ["letters", "other", "distance", "most", "thing"] (defScope s_law_leads) := ⟨rfl, rfl, rfl, by decide +kernel, rfl, by decide +kernel, by decide +kernel⟩
noncomputable def b_law_leads : SS :=
    (xSeq (xIf (sNot (sTruth (sIsi "tuple" (sVar 4)))) (xRet (sC (.bl false))) xNil)
    (xSeq (xAsg (.nm 5) (sC (.int 0)))
    (xSeq (xAsg (.nm 6) (sC (.int 0)))
    (xSeq (xFor (iSeq (sVar 4)) (.nm 7) (xSeq (xIf (sOr (sNot (sTruth (sIsi "int" (sVar 7)))) (sTruth (sIsi "bool" (sVar 7)))) (xRet (sC (.bl false))) xNil)
    (xSeq (xAsg (.nm 0) (sCB F_law_moved (sCons (sVar 0) (sCons (sVar 7) sNil))))
    (xSeq (xAsg (.nm 5) (s2 vAdd (sVar 5) (sCB bAbs (sCons (sVar 7) sNil))))
    (xAsg (.nm 6) (s2 vAdd (sVar 6) (sVar 7)))))))
    (xRet (sAndV (s2 vEq (sVar 0) (sVar 1)) (sAndV (s2 vEq (sVar 6) (sVar 2)) (s2 vLe (sVar 5) (sVar 3)))))))))
noncomputable def F_law_leads : FL := fnBody 8 b_law_leads
abbrev s_law_road : Stmt := topS 31
abbrev N_law_road : List Str := ["letters", "other", "distance", "road", "more", "k", "lap", "sign", "place"]
theorem sc_law_road : FnScope N_law_road ["letters", "other", "distance"] (defScope s_law_road) := ⟨rfl, rfl, rfl, by decide +kernel, rfl, by decide +kernel, by decide +kernel⟩
noncomputable def b_law_road : SS :=
    (xSeq (xAsg (.nm 3) (sLst sNil))
    (xSeq (xAsg (.nm 4) (s2 vSub (s2 vAdd (sVar 2) (sMT tCount (sVar 0) (sCons (sC (.str "1")) sNil))) (sMT tCount (sVar 1) (sCons (sC (.str "1")) sNil))))
    (xSeq (xIf (sBool (s2 vGt (sVar 4) (sC (.int 0)))) (xSeq (xExpr (sML mAppend (sVar 3) (sCons (s2 vAdd (sMT tCount (sVar 0) (sCons (sC (.str "0")) sNil)) (sVar 4)) sNil)))
    (xAsg (.nm 0) (s2 vMul (sC (.str "1")) (sCB bLen (sCons (sVar 0) sNil))))) xNil)
    (xSeq (xIf (sBool (s2 vLt (sVar 4) (sC (.int 0)))) (xSeq (xExpr (sML mAppend (sVar 3) (sCons (s2 vSub (sVar 4) (sMT tCount (sVar 0) (sCons (sC (.str "1")) sNil))) sNil)))
    (xAsg (.nm 0) (s2 vMul (sC (.str "0")) (sCB bLen (sCons (sVar 0) sNil))))) xNil)
    (xSeq (xAsg (.nm 5) (sCB bLen (sCons (sVar 0) sNil)))
    (xSeq (xFor (iRange1 (sCons (sCB bLen (sCons (sVar 0) sNil)) sNil)) (.nm 6) (xSeq (xIf (sBool (s2 vNe (s2 vIx (sVar 0) (s2 vSub (sVar 5) (sC (.int 1)))) (s2 vIx (sVar 1) (s2 vSub (sVar 5) (sC (.int 1)))))) xBreak xNil)
    (xAsg (.nm 5) (s2 vSub (sVar 5) (sC (.int 1))))))
    (xSeq (xIf (sBool (s2 vEq (sVar 5) (sC (.int 0)))) (xRet (sVar 3)) xNil)
    (xSeq (xAsg (.nm 7) (sSwp (s2 vIx (sLst (sCons (sC (.int 1)) (sCons (s1 vNeg (sC (.int 1))) sNil))) (s2 vEq (s2 vIx (sVar 1) (s2 vSub (sVar 5) (sC (.int 1)))) (sC (.str "0"))))))
    (xSeq (xExpr (sML mAppend (sVar 3) (sCons (s2 vMul (sVar 7) (s2 vSub (sVar 5) (sMT tCount (sSlice vSlice (sVar 0) sNoPart (sPart (sVar 5))) (sCons (s2 vIx (sVar 1) (s2 vSub (sVar 5) (sC (.int 1)))) sNil)))) sNil)))
    (xSeq (xFor (iDown (sCons (s2 vSub (sVar 5) (sC (.int 1))) (sCons (sC (.int 0)) (sCons (s1 vNeg (sC (.int 1))) sNil)))) (.nm 8) (xIf (sBool (s2 vNe (s2 vIx (sVar 1) (s2 vSub (sVar 8) (sC (.int 1)))) (s2 vIx (sVar 1) (sVar 8)))) (xSeq (xAsg (.nm 7) (s1 vNeg (sVar 7)))
    (xExpr (sML mAppend (sVar 3) (sCons (s2 vMul (sVar 7) (sVar 8)) sNil)))) xNil))
    (xRet (sVar 3))))))))))))
noncomputable def F_law_road : FL := fnBody 9 b_law_road
abbrev s_law_parted : Stmt := topS 32
abbrev N_law_parted : List Str := ["pool", "road", "out", "way", "first", "sign"]
theorem sc_law_parted : FnScope N_law_parted ["pool", "road"] (defScope s_law_parted) := ⟨rfl, rfl, rfl, by decide +kernel, rfl, by decide +kernel, by decide +kernel⟩
noncomputable def b_law_parted : SS :=
    (xSeq (xAsg (.nm 2) (sLst sNil))
    (xSeq (xFor (iSeq (sVar 1)) (.nm 3) (xSeq (xAsg (.nm 4) (sCB F_law_draw (sCons (sVar 0) (sCons (s2 vAdd (sCB bAbs (sCons (sVar 3) sNil)) (sC (.int 1))) sNil))))
    (xSeq (xAsg (.nm 5) (sSwp (s2 vIx (sLst (sCons (sC (.int 1)) (sCons (s1 vNeg (sC (.int 1))) sNil))) (s2 vLt (sVar 3) (sC (.int 0))))))
    (xSeq (xAsg (.nm 2) (s2 vAdd (sVar 2) (sLst (sCons (s2 vMul (sVar 5) (sVar 4)) (sCons (s2 vSub (sVar 3) (s2 vMul (sVar 5) (sVar 4))) sNil)))))
    (xIf (sBool (s2 vEq (sCB F_law_draw (sCons (sVar 0) (sCons (sC (.int 3)) sNil))) (sC (.int 0)))) (xExpr (sML mAppend (sVar 2) (sCons (sC (.int 0)) sNil))) xNil)))))
    (xRet (sCB bTuple (sCons (sVar 2) sNil)))))
noncomputable def F_law_parted : FL := fnBody 6 b_law_parted
abbrev s_law_letters : Stmt := topS 33
abbrev N_law_letters : List Str := ["pool", "many", "kind", "text", "letter", "k"]
theorem sc_law_letters : FnScope N_law_letters ["pool", "many"] (defScope s_law_letters) := ⟨rfl, rfl, rfl, by decide +kernel, rfl, by decide +kernel, by decide +kernel⟩
noncomputable def b_law_letters : SS :=
    (xSeq (xAsg (.nm 2) (sCB F_law_draw (sCons (sVar 0) (sCons (sC (.int 5)) sNil))))
    (xSeq (xIf (sBool (s2 vEq (sVar 2) (sC (.int 0)))) (xRet (s2 vMul (s2 vIx (sC (.str "01")) (sCB F_law_draw (sCons (sVar 0) (sCons (sC (.int 2)) sNil)))) (sVar 1))) xNil)
    (xSeq (xAsg (.nm 3) (sC (.str "")))
    (xSeq (xAsg (.nm 4) (sCB F_law_draw (sCons (sVar 0) (sCons (sC (.int 2)) sNil))))
    (xSeq (xFor (iRange1 (sCons (sVar 1) sNil)) (.nm 5) (xIf (sBool (s2 vLt (sCB bLen (sCons (sVar 3) sNil)) (sVar 1))) (xSeq (xAsg (.nm 3) (s2 vAdd (sVar 3) (s2 vMul (s2 vIx (sC (.str "01")) (sVar 4)) (s2 vAdd (sC (.int 1)) (sSwp (sCB F_law_draw (sCons (sVar 0) (sCons (sSwp (s2 vIx (sLst (sCons (sC (.int 1)) (sCons (sC (.int 2)) (sCons (sC (.int 4)) (sCons (s2 vAdd (sVar 1) (sC (.int 1))) sNil))))) (s2 vSub (sVar 2) (sC (.int 1))))) sNil))))))))
    (xAsg (.nm 4) (s2 vSub (sC (.int 1)) (sVar 4)))) xNil))
    (xRet (sSlice vSlice (sVar 3) sNoPart (sPart (sVar 1)))))))))
noncomputable def F_law_letters : FL := fnBody 6 b_law_letters
abbrev s_law_pair : Stmt := topS 34
abbrev N_law_pair : List Str := ["pool", "letters", "other", "at", "level", "distance"]
theorem sc_law_pair : FnScope N_law_pair ["pool"] (defScope s_law_pair) := ⟨rfl, rfl, rfl, by decide +kernel, rfl, by decide +kernel, by decide +kernel⟩
noncomputable def b_law_pair : SS :=
    (xSeq (xAsg (.nm 1) (sSwp (sCB F_law_letters (sCons (sVar 0) (sCons (sSwp (s2 vIx (sLst (sCons (sC (.int 0)) (sCons (sC (.int 1)) (sCons (s2 vAdd (sC (.int 2)) (sCB F_law_draw (sCons (sVar 0) (sCons (sC (.int 4)) sNil)))) (sCons (s2 vAdd (sC (.int 1)) (sCB F_law_draw (sCons (sVar 0) (sCons (sC (.int 30)) sNil)))) sNil))))) (sCB F_law_draw (sCons (sVar 0) (sCons (sC (.int 4)) sNil))))) sNil)))))
    (xSeq (xAsg (.nm 2) (sCB F_law_letters (sCons (sVar 0) (sCons (sCB bLen (sCons (sVar 1) sNil)) sNil))))
    (xSeq (xAsg (.nm 3) (sCB F_law_draw (sCons (sVar 0) (sCons (s2 vAdd (sCB bLen (sCons (sVar 1) sNil)) (sC (.int 1))) sNil))))
    (xSeq (xAsg (.nm 2) (sSwp (s2 vIx (sLst (sCons (sVar 2) (sCons (sVar 1) (sCons (s2 vAdd (sSlice vSlice (sVar 2) sNoPart (sPart (sVar 3))) (sSlice vSlice (sVar 1) (sPart (sVar 3)) sNoPart)) (sCons (s2 vAdd (sSlice vSlice (sVar 1) sNoPart (sPart (sVar 3))) (sSlice vSlice (sVar 2) (sPart (sVar 3)) sNoPart)) sNil))))) (sCB F_law_draw (sCons (sVar 0) (sCons (sC (.int 4)) sNil))))))
    (xSeq (xAsg (.nm 4) (s2 vSub (sMT tCount (sVar 2) (sCons (sC (.str "1")) sNil)) (sMT tCount (sVar 1) (sCons (sC (.str "1")) sNil))))
    (xSeq (xAsg (.nm 5) (sSwp (s2 vIx (sLst (sCons (sVar 4) (sCons (sVar 4) (sCons (s2 vAdd (s2 vAdd (sVar 4) (sC (.int 1))) (sCB F_law_draw (sCons (sVar 0) (sCons (sC (.int 9)) sNil)))) (sCons (s2 vSub (s2 vSub (sVar 4) (sC (.int 1))) (sCB F_law_draw (sCons (sVar 0) (sCons (sC (.int 9)) sNil)))) (sCons (sC (.int 0)) sNil)))))) (sCB F_law_draw (sCons (sVar 0) (sCons (sC (.int 5)) sNil))))))
    (xRet (sLst (sCons (sVar 1) (sCons (sVar 2) (sCons (sVar 5) sNil)))))))))))
noncomputable def F_law_pair : FL := fnBody 6 b_law_pair
abbrev s_law_bent : Stmt := topS 35
abbrev N_law_bent : List Str := ["pool", "road", "out", "at", "way"]
theorem sc_law_bent : FnScope N_law_bent ["pool", "road"] (defScope s_law_bent) := ⟨rfl, rfl, rfl, by decide +kernel, rfl, by decide +kernel, by decide +kernel⟩
noncomputable def b_law_bent : SS :=
    (xSeq (xAsg (.nm 2) (sLst (sCons (sCB bList (sCons (sVar 1) sNil)) (sCons (sC .non) (sCons (sC (.int 0)) (sCons (sC (.bl true)) (sCons (sC (.str "")) (sCons (s2 vAdd (sSwp (sCB bTuple (sCons (sLc (iSeq (sVar 1)) (.nm 4) sYes (sCB bStr (sCons (sVar 4) sNil)) [4]) sNil))) (sTup (sCons (sC (.str "0")) sNil))) (sCons (s2 vAdd (sVar 1) (sTup (sCons (sC (.bl true)) sNil))) (sCons (s2 vAdd (sVar 1) (sTup (sCons (sC (.bl false)) sNil))) (sCons (sTup (sCons (sVar 1) sNil)) sNil)))))))))))
    (xSeq (xAsg (.nm 2) (s2 vAdd (sVar 2) (sLst (sCons (s2 vAdd (sVar 1) (sTup (sCons (sC .non) sNil))) (sCons (s2 vAdd (sVar 1) (sTup (sCons (sC (.int 1)) (sCons (s1 vNeg (sC (.int 1))) sNil)))) (sCons (s2 vAdd (sVar 1) (sTup (sCons (s1 vNeg (sC (.int 1))) (sCons (sC (.int 1)) sNil)))) (sCons (s2 vAdd (sTup (sCons (sC (.int 1)) (sCons (s1 vNeg (sC (.int 1))) sNil))) (sVar 1)) (sCons (s2 vAdd (sTup (sCons (s1 vNeg (sC (.int 1))) (sCons (sC (.int 1)) sNil))) (sVar 1)) (sCons (s2 vAdd (sVar 1) (sTup (sCons (sC (.int 1)) sNil))) (sCons (s2 vAdd (sVar 1) (sTup (sCons (s1 vNeg (sC (.int 1))) sNil))) (sCons (sSlice vSlice (sVar 1) (sPart (sC (.int 1))) sNoPart) sNil)))))))))))
    (xSeq (xAsg (.nm 2) (s2 vAdd (sVar 2) (sLst (sCons (s1 vBack (sVar 1)) (sCons (sSlice vSlice (sVar 1) sNoPart (sPart (s2 vSub (sCB bLen (sCons (sVar 1) sNil)) (sC (.int 1))))) (sCons (s2 vAdd (sVar 1) (sVar 1)) (sCons (sTup sNil) (sCons (sTup (sCons (sC (.int 0)) sNil)) (sCons (s2 vAdd (sVar 1) (sTup (sCons (sTup (sCons (sC (.int 0)) (sCons (sC (.int 0)) sNil))) sNil))) (sCons (s2 vAdd (sVar 1) (sTup (sCons (sLst sNil) sNil))) sNil))))))))))
    (xSeq (xIf (sBool (s2 vGt (sCB bLen (sCons (sVar 1) sNil)) (sC (.int 0)))) (xSeq (xAsg (.nm 3) (sCB F_law_draw (sCons (sVar 0) (sCons (sCB bLen (sCons (sVar 1) sNil)) sNil))))
    (xSwp (xFor (iSeq (sLst (sCons (s2 vAdd (s2 vIx (sVar 1) (sVar 3)) (sC (.int 1))) (sCons (s2 vSub (s2 vIx (sVar 1) (sVar 3)) (sC (.int 1))) (sCons (s1 vNeg (s2 vIx (sVar 1) (sVar 3))) (sCons (s2 vMul (s2 vIx (sVar 1) (sVar 3)) (sC (.int 2))) (sCons (sC (.int 0)) (sCons (s2 vPow (sC (.int 10)) (sC (.int 50))) (sCons (s1 vNeg (s2 vPow (sC (.int 10)) (sC (.int 50)))) sNil))))))))) (.nm 4) (xExpr (sML mAppend (sVar 2) (sCons (s2 vAdd (s2 vAdd (sSlice vSlice (sVar 1) sNoPart (sPart (sVar 3))) (sTup (sCons (sVar 4) sNil))) (sSlice vSlice (sVar 1) (sPart (s2 vAdd (sVar 3) (sC (.int 1)))) sNoPart)) sNil)))))) xNil)
    (xSeq (xIf (sBool (s2 vGt (sCB bLen (sCons (sVar 1) sNil)) (sC (.int 1)))) (xSeq (xAsg (.nm 3) (sCB F_law_draw (sCons (sVar 0) (sCons (s2 vSub (sCB bLen (sCons (sVar 1) sNil)) (sC (.int 1))) sNil))))
    (xSeq (xExpr (sML mAppend (sVar 2) (sCons (s2 vAdd (s2 vAdd (sSlice vSlice (sVar 1) sNoPart (sPart (sVar 3))) (sTup (sCons (s2 vIx (sVar 1) (s2 vAdd (sVar 3) (sC (.int 1)))) (sCons (s2 vIx (sVar 1) (sVar 3)) sNil)))) (sSlice vSlice (sVar 1) (sPart (s2 vAdd (sVar 3) (sC (.int 2)))) sNoPart)) sNil)))
    (xExpr (sML mAppend (sVar 2) (sCons (s2 vAdd (s2 vAdd (sSlice vSlice (sVar 1) sNoPart (sPart (sVar 3))) (sTup (sCons (s2 vAdd (s2 vIx (sVar 1) (sVar 3)) (s2 vIx (sVar 1) (s2 vAdd (sVar 3) (sC (.int 1))))) sNil))) (sSlice vSlice (sVar 1) (sPart (s2 vAdd (sVar 3) (sC (.int 2)))) sNoPart)) sNil))))) xNil)
    (xRet (sVar 2)))))))
noncomputable def F_law_bent : FL := fnBody 5 b_law_bent
abbrev s_law_yes : Stmt := topS 36
abbrev N_law_yes : List Str := ["told", "due"]
theorem sc_law_yes : FnScope N_law_yes ["told", "due"] (defScope s_law_yes) := ⟨rfl, rfl, rfl, by decide +kernel, rfl, by decide +kernel, by decide +kernel⟩
noncomputable def b_law_yes : SS :=
    (xSeq (xIf (sTruth (sVar 1)) (xRet (s2 vIs (sVar 0) (sC (.bl true)))) xNil)
    (xRet (s2 vIs (sVar 0) (sC (.bl false)))))
noncomputable def F_law_yes : FL := fnBody 2 b_law_yes
abbrev s_law_asked : Stmt := topS 37
abbrev N_law_asked : List Str := ["pool", "pair", "letters", "other", "distance", "one", "two", "road", "least", "size", "own", "most", "wipe", "sign", "long", "thing", "bar", "due", "way"]
theorem sc_law_asked : FnScope N_law_asked ["pool"] (defScope s_law_asked) := ⟨rfl, rfl, rfl, by decide +kernel, rfl, by decide +kernel, by decide +kernel⟩
noncomputable def b_law_asked : SS :=
    (xSeq (xAsg (.nm 1) (sCB F_law_pair (sCons (sVar 0) sNil)))
    (xSeq (xAsg (.nm 2) (s2 vIx (sVar 1) (sC (.int 0))))
    (xSeq (xAsg (.nm 3) (s2 vIx (sVar 1) (sC (.int 1))))
    (xSeq (xAsg (.nm 4) (s2 vIx (sVar 1) (sC (.int 2))))
    (xSeq (xAsg (.nm 5) (sCB F_law_word (sCons (sVar 2) sNil)))
    (xSeq (xAsg (.nm 6) (sCB F_law_word (sCons (sVar 3) sNil)))
    (xSeq (xAsg (.nm 7) (sSwp (sCB bTuple (sCons (sCB F_law_road (sCons (sVar 2) (sCons (sVar 3) (sCons (sVar 4) sNil)))) sNil))))
    (xSeq (xAsg (.nm 8) (sSwp (sCB bSum (sCons (sLc (iSeq (sVar 7)) (.nm 18) sYes (sCB bAbs (sCons (sVar 18) sNil)) [18]) sNil))))
    (xSeq (xIf (sNot (sTruth (sCB F_law_leads (sCons (sVar 2) (sCons (sVar 3) (sCons (sVar 4) (sCons (sVar 8) (sCons (sVar 7) sNil)))))))) (xRet (sC (.bl false))) xNil)
    (xSeq (xAsg (.nm 9) (sCB F_least_way (sCons (sVar 5) (sCons (sVar 6) (sCons (sVar 4) sNil)))))
    (xSeq (xIf (sOr (sNot (sTruth (sIsi "int" (sVar 9)))) (sOr (sTruth (sIsi "bool" (sVar 9))) (sBool (s2 vNe (sVar 9) (sVar 8))))) (xRet (sC (.bl false))) xNil)
    (xSeq (xSwp (xFor (iSeq (sLst (sCons (sVar 7) (sCons (sCB F_law_parted (sCons (sVar 0) (sCons (sVar 7) sNil))) (sCons (sCB F_law_parted (sCons (sVar 0) (sCons (sVar 7) sNil))) sNil))))) (.nm 10) (xSeq (xSwp (xFor (iSeq (sLst (sCons (sVar 8) (sCons (s2 vAdd (sVar 8) (sC (.int 1))) (sCons (s2 vPow (sC (.int 10)) (sC (.int 59))) sNil))))) (.nm 11) (xIf (sBool (s2 vIsNot (sCB F_is_way (sCons (sVar 5) (sCons (sVar 6) (sCons (sVar 4) (sCons (sVar 11) (sCons (sVar 10) sNil)))))) (sC (.bl true)))) (xRet (sC (.bl false))) xNil)))
    (xSwp (xFor (iSeq (sLst (sCons (s2 vSub (sVar 8) (sC (.int 1))) (sCons (s1 vNeg (sC (.int 1))) (sCons (s2 vSub (s1 vNeg (sVar 8)) (sC (.int 1))) sNil))))) (.nm 11) (xIf (sBool (s2 vIsNot (sCB F_is_way (sCons (sVar 5) (sCons (sVar 6) (sCons (sVar 4) (sCons (sVar 11) (sCons (sVar 10) sNil)))))) (sC (.bl false)))) (xRet (sC (.bl false))) xNil))))))
    (xSeq (xAsg (.nm 12) (s2 vAdd (s2 vAdd (sCB bLen (sCons (sVar 2) sNil)) (sC (.int 1))) (sCB F_law_draw (sCons (sVar 0) (sCons (sC (.int 5)) sNil)))))
    (xSeq (xAsg (.nm 13) (sSwp (s2 vIx (sLst (sCons (sC (.int 1)) (sCons (s1 vNeg (sC (.int 1))) sNil))) (sCB F_law_draw (sCons (sVar 0) (sCons (sC (.int 2)) sNil))))))
    (xSeq (xAsg (.nm 14) (s2 vAdd (sTup (sCons (s2 vMul (sVar 13) (sVar 12)) sNil)) (sSwp (sCB bTuple (sCons (sCB F_law_road (sCons (sCB F_law_moved (sCons (sVar 2) (sCons (s2 vMul (sVar 13) (sVar 12)) sNil))) (sCons (sVar 3) (sCons (s2 vSub (sVar 4) (s2 vMul (sVar 13) (sVar 12))) sNil)))) sNil)))))
    (xSeq (xAsg (.nm 11) (sSwp (sCB bSum (sCons (sLc (iSeq (sVar 14)) (.nm 18) sYes (sCB bAbs (sCons (sVar 18) sNil)) [18]) sNil))))
    (xSeq (xSwp (xFor (iSeq (s2 vAdd (sLst (sCons (sVar 14) sNil)) (sCB F_law_bent (sCons (sVar 0) (sCons (sVar 7) sNil))))) (.nm 15) (xSwp (xFor (iSeq (sLst (sCons (sVar 11) (sCons (sVar 8) (sCons (s2 vAdd (sVar 8) (sC (.int 2))) sNil))))) (.nm 16) (xSeq (xAsg (.nm 17) (sCB F_law_leads (sCons (sVar 2) (sCons (sVar 3) (sCons (sVar 4) (sCons (sVar 16) (sCons (sVar 15) sNil)))))))
    (xIf (sNot (sTruth (sCB F_law_yes (sCons (sCB F_is_way (sCons (sVar 5) (sCons (sVar 6) (sCons (sVar 4) (sCons (sVar 16) (sCons (sVar 15) sNil)))))) (sCons (sVar 17) sNil))))) (xRet (sC (.bl false))) xNil))))))
    (xRet (sCB (F_law_same 20) (sCons (sCB F_way_between (sCons (sVar 5) (sCons (sVar 6) (sCons (sVar 4) sNil)))) (sCons (sVar 7) sNil)))))))))))))))))))))
noncomputable def F_law_asked : FL := fnBody 19 b_law_asked
abbrev s_law : Stmt := topS 38
abbrev N_law : List Str := ["script", "pool", "lap", "word"]
theorem sc_law : FnScope N_law ["script"] (defScope s_law) := ⟨rfl, rfl, rfl, by decide +kernel, rfl, by decide +kernel, by decide +kernel⟩
noncomputable def b_law : SS :=
    (xSeq (xAsg (.nm 1) (sCB F_law_pool (sCons (sVar 0) sNil)))
    (xSeq (xFor (iRange1 (sCons (sC (.int 4)) sNil)) (.nm 2) (xIf (sNot (sTruth (sCB F_law_asked (sCons (sVar 1) sNil)))) (xRet (sC (.bl false))) xNil))
    (xSeq (xSwp (xFor (iSeq (sLst (sCons (sTup (sCons (sC (.int 0)) (sCons (sTup sNil) sNil))) (sCons (sTup (sCons (sC (.int 0)) (sCons (sTup (sCons (sC (.int 3)) sNil)) sNil))) (sCons (sTup (sCons (sC (.int 1)) (sCons (sTup (sCons (sC (.int 2)) (sCons (sC (.int 1)) sNil))) sNil))) sNil))))) (.nm 3) (xIf (sOr (sBool (s2 vIsNot (sCB F_is_way (sCons (sVar 3) (sCons (sVar 3) (sCons (sC (.int 0)) (sCons (sC (.int 0)) (sCons (sTup sNil) sNil)))))) (sC (.bl true)))) (sBool (s2 vIsNot (sCB F_is_way (sCons (sVar 3) (sCons (sVar 3) (sCons (sC (.int 0)) (sCons (s1 vNeg (sC (.int 1))) (sCons (sTup sNil) sNil)))))) (sC (.bl false))))) (xRet (sC (.bl false))) xNil)))
    (xRet (sC (.bl true))))))
noncomputable def F_law : FL := fnBody 4 b_law
structure Txt (K : PySem.W.Frag) (mg : Str → Option Value) : Prop where
  n_abs : mg "abs" = none
  n_bool : mg "bool" = none
  n_int : mg "int" = none
  n_isinstance : mg "isinstance" = none
  n_len : mg "len" = none
  n_list : mg "list" = none
  n_min : mg "min" = none
  n_range : mg "range" = none
  n_set : mg "set" = none
  n_sorted : mg "sorted" = none
  n_str : mg "str" = none
  n_sum : mg "sum" = none
  n_tuple : mg "tuple" = none
section
variable {P : Program} {w : World} {K : PySem.W.Frag} {mg : Str → Option Value} {base : Heap}
theorem ok_is_whole (T : Txt K mg) {f : Addr} {fd : FuncData} (F : Fun K "is_whole" "is_whole" s_is_whole f fd)   : FnOk P w K mg base CX0 1 f fd ["thing"] (spOf K 1 F_is_whole) :=
  fn_ok (k := 0) F sc_is_whole fun cdv A outer s H E hr => (lss_one (ls_ret (le_and (le_isi rfl T.n_isinstance rfl T.n_int (by decide +kernel) (le_var 0)) (le_one (le_not (le_isi rfl T.n_isinstance rfl T.n_bool (by decide +kernel) (le_var 0)))))))
theorem ok_runs_of (T : Txt K mg) {f : Addr} {fd : FuncData} (F : Fun K "runs_of" "runs_of" s_runs_of f fd)   : FnOk P w K mg base CX0 1 f fd ["word"] (spOf K 1 F_runs_of) :=
  fn_ok (k := 0) F sc_runs_of fun cdv A outer s H E hr => (lss_one (ls_ret (le_lc rfl sc_runs_of.nd (li_range1 rfl T.n_range (ll_cons (le_callB cl_len rfl T.n_len bt_len (ll_cons (le_ix ix_vIx (le_var 0) le_int) ll_nil)) ll_nil)) (blkOk_by (N := N_runs_of) (sc := defScope s_runs_of) (own := [("at", 1)]) (by decide +kernel)) (by decide) (fun _ _ _ _ _ => (lt_nm 1 sc_runs_of.nd)) (fun _ _ _ _ _ => lts_yes) (fun _ _ _ _ _ => (le_tup (ll_cons (le_op op_vMod (le_op op_vAdd (le_ix ix_vIx (le_var 0) le_int) (le_var 1)) le_int) (ll_cons (le_ix ix_vIx (le_ix ix_vIx (le_var 0) le_int) (le_var 1)) ll_nil)) (lenIs_cons (lenIs_cons lenIs_nil)))))))
theorem ok_word_of_runs (T : Txt K mg) {f : Addr} {fd : FuncData} (F : Fun K "word_of_runs" "word_of_runs" s_word_of_runs f fd)   : FnOk P w K mg base CX0 1 f fd ["runs"] (spOf K 1 F_word_of_runs) :=
  fn_ok (k := 0) F sc_word_of_runs fun cdv A outer s H E hr => (lss_cons (ls_set 1 sc_word_of_runs.nd (le_lst ll_nil lenIs_nil))
    (lss_cons (ls_for PassesOwn.never rfl (li_seq (le_var 0)) (lt_tp rfl (lts_cons (lt_nm 2 sc_word_of_runs.nd) (lts_cons (lt_nm 3 sc_word_of_runs.nd) lts_nil))) (lss_cons (ls_if (lb_cmp (op_vEq hr.units) (le_var 3) le_int (nomark _)) (lss_one ls_cont) lss_nil)
    (lss_one (ls_if (LW.b (lw_and (lb_truth (le_var 1)) (lw_and1 (lb_cmp (op_vEq hr.units) (le_ix ix_vIx (le_ix ix_vIx (le_var 1) (le_neg le_int)) le_int) (le_var 2) (nomark _))))) (lss_one (ls_setL (le_tup (ll_cons (le_var 2) (ll_cons (le_op op_vAdd (le_ix ix_vIx (le_ix ix_vIx (le_var 1) (le_neg le_int)) le_int) (le_var 3)) ll_nil)) (lenIs_cons (lenIs_cons lenIs_nil))) (le_var 1) (le_neg le_int))) (lss_one (ls_expr (le_ml PySem.F.slot_list_append PySem.F.type_list_append ml_append (le_var 1) (ll_cons (le_tup (ll_cons (le_var 2) (ll_cons (le_var 3) ll_nil)) (lenIs_cons (lenIs_cons lenIs_nil))) ll_nil))))))))
    (lss_one (ls_ret (le_tup (ll_cons (le_ite (lb_truth (le_var 1)) (le_ix ix_vIx (le_ix ix_vIx (le_var 1) le_int) le_int) le_int) (ll_cons (le_swp (le_callTy cl_tuple rfl T.n_tuple bt_tuple (ll_cons (le_lc rfl sc_word_of_runs.nd (li_seq (le_var 1)) (blkOk_by (N := N_word_of_runs) (sc := defScope s_word_of_runs) (own := [("letter", 2), ("length", 3)]) (by decide +kernel)) (by decide) (fun _ _ _ _ _ => (lt_tp rfl (lts_cons (lt_nm 2 sc_word_of_runs.nd) (lts_cons (lt_nm 3 sc_word_of_runs.nd) lts_nil)))) (fun _ _ _ _ _ => lts_yes) (fun _ _ _ _ _ => (le_var 3))) ll_nil))) ll_nil)) (lenIs_cons (lenIs_cons lenIs_nil)))))))
theorem ok_word_length (T : Txt K mg) {f : Addr} {fd : FuncData} (F : Fun K "word_length" "word_length" s_word_length f fd)   : FnOk P w K mg base CX0 1 f fd ["word"] (spOf K 1 F_word_length) :=
  fn_ok (k := 0) F sc_word_length fun cdv A outer s H E hr => (lss_one (ls_ret (le_callB (cl_sum rfl) rfl T.n_sum bt_sum (ll_cons (le_ix ix_vIx (le_var 0) le_int) ll_nil))))
theorem ok_cut_runs (T : Txt K mg) {f : Addr} {fd : FuncData} (F : Fun K "cut_runs" "cut_runs" s_cut_runs f fd) (H_runs_of : HasFn P w K mg base "runs_of" 1 ["word"] F_runs_of)  : FnOk P w K mg base CX0 2 f fd ["word", "many"] (spOf K 2 F_cut_runs) :=
  fn_ok (k := 1) F sc_cut_runs fun cdv A outer s H E hr => (lss_cons (ls_set 2 sc_cut_runs.nd (le_lst ll_nil lenIs_nil))
    (lss_cons (ls_set 3 sc_cut_runs.nd (le_var 1))
    (lss_cons (ls_swp (ls_for PassesOwn.never rfl (li_seq (le_fn H_runs_of (hr.mono (by decide)) rfl (ll_cons (le_var 0) ll_nil) (lenIs_cons lenIs_nil))) (lt_tp rfl (lts_cons (lt_nm 4 sc_cut_runs.nd) (lts_cons (lt_nm 5 sc_cut_runs.nd) lts_nil))) (lss_cons (ls_set 6 sc_cut_runs.nd (le_callB (cl_min rfl) rfl T.n_min bt_min (ll_cons (le_var 5) (ll_cons (le_var 3) ll_nil))))
    (lss_cons (ls_if (lb_cmp op_vGt (le_var 6) le_int (nomark _)) (lss_one (ls_expr (le_ml PySem.F.slot_list_append PySem.F.type_list_append ml_append (le_var 2) (ll_cons (le_tup (ll_cons (le_var 4) (ll_cons (le_var 6) ll_nil)) (lenIs_cons (lenIs_cons lenIs_nil))) ll_nil)))) lss_nil)
    (lss_one (ls_aug 3 sc_cut_runs.nd (le_var 6) ip_vSub))))))
    (lss_one (ls_ret (le_var 2))))))
theorem ok_many_of (T : Txt K mg) {f : Addr} {fd : FuncData} (F : Fun K "many_of" "many_of" s_many_of f fd)   : FnOk P w K mg base CX0 1 f fd ["runs", "letter"] (spOf K 2 F_many_of) :=
  fn_ok (k := 0) F sc_many_of fun cdv A outer s H E hr => (lss_one (ls_ret (le_swp (le_callB (cl_sum rfl) rfl T.n_sum bt_sum (ll_cons (le_lc rfl sc_many_of.nd (li_seq (le_var 0)) (blkOk_by (N := N_many_of) (sc := defScope s_many_of) (own := [("one", 2), ("length", 3)]) (by decide +kernel)) (by decide) (fun _ _ _ _ _ => (lt_tp rfl (lts_cons (lt_nm 2 sc_many_of.nd) (lts_cons (lt_nm 3 sc_many_of.nd) lts_nil)))) (fun _ _ _ _ _ => (lts_one (lb_cmp (op_vEq hr.units) (le_var 2) (le_var 1) (nomark _)))) (fun _ _ _ _ _ => (le_var 3))) ll_nil)))))
theorem ok_ends_of (T : Txt K mg) {f : Addr} {fd : FuncData} (F : Fun K "ends_of" "ends_of" s_ends_of f fd)   : FnOk P w K mg base CX0 1 f fd ["word"] (spOf K 1 F_ends_of) :=
  fn_ok (k := 0) F sc_ends_of fun cdv A outer s H E hr => (lss_cons (ls_set 1 sc_ends_of.nd (le_lst ll_nil lenIs_nil))
    (lss_cons (ls_set 2 sc_ends_of.nd le_int)
    (lss_cons (ls_for PassesOwn.never rfl (li_seq (le_ix ix_vIx (le_var 0) le_int)) (lt_nm 3 sc_ends_of.nd) (lss_cons (ls_aug 2 sc_ends_of.nd (le_var 3) ip_vAdd)
    (lss_one (ls_expr (le_ml PySem.F.slot_list_append PySem.F.type_list_append ml_append (le_var 1) (ll_cons (le_var 2) ll_nil))))))
    (lss_one (ls_ret (le_var 1))))))
theorem ok_letter_at (T : Txt K mg) {f : Addr} {fd : FuncData} (F : Fun K "letter_at" "letter_at" s_letter_at f fd) (H_cut_runs : HasFn P w K mg base "cut_runs" 2 ["word", "many"] F_cut_runs)  : FnOk P w K mg base CX0 3 f fd ["word", "number"] (spOf K 2 F_letter_at) :=
  fn_ok (k := 2) F sc_letter_at fun cdv A outer s H E hr => (lss_one (ls_ret (le_swp (le_ix ix_vIx (le_swp (le_ix ix_vIx (le_fn H_cut_runs (hr.mono (by decide)) rfl (ll_cons (le_var 0) (ll_cons (le_var 1) ll_nil)) (lenIs_cons (lenIs_cons lenIs_nil))) (le_neg le_int))) le_int))))
theorem ok_both_ends (T : Txt K mg) {f : Addr} {fd : FuncData} (F : Fun K "both_ends" "both_ends" s_both_ends f fd) (H_ends_of : HasFn P w K mg base "ends_of" 1 ["word"] F_ends_of)  : FnOk P w K mg base CX0 2 f fd ["one", "other"] (spOf K 2 F_both_ends) :=
  fn_ok (k := 1) F sc_both_ends fun cdv A outer s H E hr => (lss_one (ls_ret (le_srtS rfl T.n_sorted rfl T.n_set (le_op op_vAdd (le_fn H_ends_of (hr.mono (by decide)) rfl (ll_cons (le_var 0) ll_nil) (lenIs_cons lenIs_nil)) (le_fn H_ends_of (hr.mono (by decide)) rfl (ll_cons (le_var 1) ll_nil) (lenIs_cons lenIs_nil))))))
theorem ok_letters_by_ends (T : Txt K mg) {f : Addr} {fd : FuncData} (F : Fun K "letters_by_ends" "letters_by_ends" s_letters_by_ends f fd) (H_runs_of : HasFn P w K mg base "runs_of" 1 ["word"] F_runs_of)  : FnOk P w K mg base CX0 2 f fd ["word", "ends"] (spOf K 2 F_letters_by_ends) :=
  fn_ok (k := 1) F sc_letters_by_ends fun cdv A outer s H E hr => (lss_cons (ls_set 2 sc_letters_by_ends.nd (le_lst ll_nil lenIs_nil))
    (lss_cons (ls_set 3 sc_letters_by_ends.nd (le_fn H_runs_of (hr.mono (by decide)) rfl (ll_cons (le_var 0) ll_nil) (lenIs_cons lenIs_nil)))
    (lss_cons (ls_asg (le_tup (ll_cons le_int (ll_cons le_int ll_nil)) (lenIs_cons (lenIs_cons lenIs_nil))) (lt_tp rfl (lts_cons (lt_nm 4 sc_letters_by_ends.nd) (lts_cons (lt_nm 5 sc_letters_by_ends.nd) lts_nil))))
    (lss_cons (ls_for PassesOwn.never rfl (li_seq (le_var 1)) (lt_nm 6 sc_letters_by_ends.nd) (lss_cons (ls_while 1000000000 PassesOwn.never (lb_cmp op_vLt (le_op op_vAdd (le_var 5) (le_ix ix_vIx (le_ix ix_vIx (le_var 3) (le_var 4)) le_int)) (le_var 6) (nomark _)) (lss_cons (ls_aug 5 sc_letters_by_ends.nd (le_ix ix_vIx (le_ix ix_vIx (le_var 3) (le_var 4)) le_int) ip_vAdd)
    (lss_one (ls_aug 4 sc_letters_by_ends.nd le_int ip_vAdd))))
    (lss_one (ls_expr (le_ml PySem.F.slot_list_append PySem.F.type_list_append ml_append (le_var 2) (ll_cons (le_ix ix_vIx (le_ix ix_vIx (le_var 3) (le_var 4)) le_int) ll_nil))))))
    (lss_one (ls_ret (le_var 2)))))))
theorem ok_unlike_stretches (T : Txt K mg) {f : Addr} {fd : FuncData} (F : Fun K "unlike_stretches" "unlike_stretches" s_unlike_stretches f fd) (H_both_ends : HasFn P w K mg base "both_ends" 2 ["one", "other"] F_both_ends) (H_letters_by_ends : HasFn P w K mg base "letters_by_ends" 2 ["word", "ends"] F_letters_by_ends)  : FnOk P w K mg base CX0 3 f fd ["one", "other"] (spOf K 2 F_unlike_stretches) :=
  fn_ok (k := 2) F sc_unlike_stretches fun cdv A outer s H E hr => (lss_cons (ls_set 2 sc_unlike_stretches.nd (le_fn H_both_ends (hr.mono (by decide)) rfl (ll_cons (le_var 0) (ll_cons (le_var 1) ll_nil)) (lenIs_cons (lenIs_cons lenIs_nil))))
    (lss_cons (ls_par 3 4 rfl sc_unlike_stretches.nd (ll_cons (le_fn H_letters_by_ends (hr.mono (by decide)) rfl (ll_cons (le_var 0) (ll_cons (le_var 2) ll_nil)) (lenIs_cons (lenIs_cons lenIs_nil))) (ll_cons (le_fn H_letters_by_ends (hr.mono (by decide)) rfl (ll_cons (le_var 1) (ll_cons (le_var 2) ll_nil)) (lenIs_cons (lenIs_cons lenIs_nil))) ll_nil)))
    (lss_cons (ls_set 5 sc_unlike_stretches.nd (le_lst ll_nil lenIs_nil))
    (lss_cons (ls_for PassesOwn.never rfl (li_range1 rfl T.n_range (ll_cons (le_callB cl_len rfl T.n_len bt_len (ll_cons (le_var 2) ll_nil)) ll_nil)) (lt_nm 6 sc_unlike_stretches.nd) (lss_one (ls_if (lb_cmp (op_vNe hr.units) (le_ix ix_vIx (le_var 3) (le_var 6)) (le_ix ix_vIx (le_var 4) (le_var 6)) (nomark _)) (lss_one (ls_expr (le_ml PySem.F.slot_list_append PySem.F.type_list_append ml_append (le_var 5) (ll_cons (le_tup (ll_cons (le_ite (lb_cmp op_vGt (le_var 6) le_int (nomark _)) (le_op op_vAdd (le_ix ix_vIx (le_var 2) (le_op op_vSub (le_var 6) le_int)) le_int) le_int) (ll_cons (le_ix ix_vIx (le_var 2) (le_var 6)) ll_nil)) (lenIs_cons (lenIs_cons lenIs_nil))) ll_nil)))) lss_nil)))
    (lss_one (ls_ret (le_var 5)))))))
theorem ok_last_unlike (T : Txt K mg) {f : Addr} {fd : FuncData} (F : Fun K "last_unlike" "last_unlike" s_last_unlike f fd) (H_unlike_stretches : HasFn P w K mg base "unlike_stretches" 3 ["one", "other"] F_unlike_stretches)  : FnOk P w K mg base CX0 4 f fd ["one", "other"] (spOf K 2 F_last_unlike) :=
  fn_ok (k := 3) F sc_last_unlike fun cdv A outer s H E hr => (lss_cons (ls_if (lb_cmp (op_vEq hr.units) (le_var 0) (le_var 1) (nomark _)) (lss_one (ls_ret le_int)) lss_nil)
    (lss_one (ls_ret (le_swp (le_ix ix_vIx (le_swp (le_ix ix_vIx (le_fn H_unlike_stretches (hr.mono (by decide)) rfl (ll_cons (le_var 0) (ll_cons (le_var 1) ll_nil)) (lenIs_cons (lenIs_cons lenIs_nil))) (le_neg le_int))) le_int)))))
theorem ok_plain_word (T : Txt K mg) {f : Addr} {fd : FuncData} (F : Fun K "plain_word" "plain_word" s_plain_word f fd) (H_word_of_runs : HasFn P w K mg base "word_of_runs" 1 ["runs"] F_word_of_runs)  : FnOk P w K mg base CX0 2 f fd ["letter", "many"] (spOf K 2 F_plain_word) :=
  fn_ok (k := 1) F sc_plain_word fun cdv A outer s H E hr => (lss_one (ls_ret (le_swp (le_fn H_word_of_runs (hr.mono (by decide)) rfl (ll_cons (le_lst (ll_cons (le_tup (ll_cons (le_var 0) (ll_cons (le_var 1) ll_nil)) (lenIs_cons (lenIs_cons lenIs_nil))) ll_nil) (lenIs_cons lenIs_nil)) ll_nil) (lenIs_cons lenIs_nil)))))
theorem ok_moved (T : Txt K mg) {f : Addr} {fd : FuncData} (F : Fun K "moved" "moved" s_moved f fd) (H_runs_of : HasFn P w K mg base "runs_of" 1 ["word"] F_runs_of) (H_word_of_runs : HasFn P w K mg base "word_of_runs" 1 ["runs"] F_word_of_runs)  : FnOk P w K mg base CX0 2 f fd ["word", "way"] (spOf K 2 F_moved) :=
  fn_ok (k := 1) F sc_moved fun cdv A outer s H E hr => (lss_cons (ls_if (lb_cmp (op_vEq hr.units) (le_var 1) le_int (nomark _)) (lss_one (ls_ret (le_var 0))) lss_nil)
    (lss_cons (ls_set 2 sc_moved.nd (le_ite (lb_cmp op_vGt (le_var 1) le_int (nomark _)) le_int le_int))
    (lss_cons (ls_par 3 4 rfl sc_moved.nd (ll_cons (le_callB cl_abs rfl T.n_abs bt_abs (ll_cons (le_var 1) ll_nil)) (ll_cons le_int ll_nil)))
    (lss_cons (ls_set 5 sc_moved.nd (le_lst ll_nil lenIs_nil))
    (lss_cons (ls_swp (ls_for PassesOwn.never rfl (li_seq (le_fn H_runs_of (hr.mono (by decide)) rfl (ll_cons (le_var 0) ll_nil) (lenIs_cons lenIs_nil))) (lt_tp rfl (lts_cons (lt_nm 6 sc_moved.nd) (lts_cons (lt_nm 7 sc_moved.nd) lts_nil))) (lss_one (ls_if (lb_cmp (op_vEq hr.units) (le_var 3) le_int (nomark _)) (lss_one (ls_expr (le_ml PySem.F.slot_list_append PySem.F.type_list_append ml_append (le_var 5) (ll_cons (le_tup (ll_cons (le_var 6) (ll_cons (le_var 7) ll_nil)) (lenIs_cons (lenIs_cons lenIs_nil))) ll_nil)))) (lss_one (ls_if (lb_cmp (op_vEq hr.units) (le_var 6) (le_var 2) (nomark _)) (lss_one (ls_aug 4 sc_moved.nd (le_var 7) ip_vAdd)) (lss_cons (ls_set 8 sc_moved.nd (le_callB (cl_min rfl) rfl T.n_min bt_min (ll_cons (le_var 7) (ll_cons (le_var 3) ll_nil))))
    (lss_cons (ls_aug 3 sc_moved.nd (le_var 8) ip_vSub)
    (lss_cons (ls_aug 4 sc_moved.nd (le_var 8) ip_vAdd)
    (lss_one (ls_expr (le_ml PySem.F.slot_list_append PySem.F.type_list_append ml_append (le_var 5) (ll_cons (le_tup (ll_cons (le_var 6) (ll_cons (le_op op_vSub (le_var 7) (le_var 8)) ll_nil)) (lenIs_cons (lenIs_cons lenIs_nil))) ll_nil)))))))))))))
    (lss_one (ls_ret (le_swp (le_fn H_word_of_runs (hr.mono (by decide)) rfl (ll_cons (le_op op_vAdd (le_lst (ll_cons (le_tup (ll_cons (le_var 2) (ll_cons (le_var 4) ll_nil)) (lenIs_cons (lenIs_cons lenIs_nil))) ll_nil) (lenIs_cons lenIs_nil)) (le_var 5)) ll_nil) (lenIs_cons lenIs_nil))))))))))
theorem ok_plain_ways (T : Txt K mg) {f : Addr} {fd : FuncData} (F : Fun K "plain_ways" "plain_ways" s_plain_ways f fd) (H_last_unlike : HasFn P w K mg base "last_unlike" 4 ["one", "other"] F_last_unlike) (H_letter_at : HasFn P w K mg base "letter_at" 3 ["word", "number"] F_letter_at) (H_many_of : HasFn P w K mg base "many_of" 1 ["runs", "letter"] F_many_of) (H_cut_runs : HasFn P w K mg base "cut_runs" 2 ["word", "many"] F_cut_runs)  : FnOk P w K mg base CX0 5 f fd ["word", "other"] (spOf K 2 F_plain_ways) :=
  fn_ok (k := 4) F sc_plain_ways fun cdv A outer s H E hr => (lss_cons (ls_set 2 sc_plain_ways.nd (le_fn H_last_unlike (hr.mono (by decide)) rfl (ll_cons (le_var 0) (ll_cons (le_var 1) ll_nil)) (lenIs_cons (lenIs_cons lenIs_nil))))
    (lss_cons (ls_if (lb_cmp (op_vEq hr.units) (le_var 2) le_int (nomark _)) (lss_one (ls_ret (le_lst ll_nil lenIs_nil))) lss_nil)
    (lss_cons (ls_set 3 sc_plain_ways.nd (le_fn H_letter_at (hr.mono (by decide)) rfl (ll_cons (le_var 1) (ll_cons (le_var 2) ll_nil)) (lenIs_cons (lenIs_cons lenIs_nil))))
    (lss_cons (ls_set 4 sc_plain_ways.nd (le_lst (ll_cons (le_op op_vMul (le_swp (le_fn H_many_of (hr.mono (by decide)) rfl (ll_cons (le_fn H_cut_runs (hr.mono (by decide)) rfl (ll_cons (le_var 0) (ll_cons (le_var 2) ll_nil)) (lenIs_cons (lenIs_cons lenIs_nil))) (ll_cons (le_op op_vSub le_int (le_var 3)) ll_nil)) (lenIs_cons (lenIs_cons lenIs_nil)))) (le_ite (lb_cmp (op_vEq hr.units) (le_var 3) le_int (nomark _)) le_int (le_neg le_int))) ll_nil) (lenIs_cons lenIs_nil)))
    (lss_cons (ls_set 5 sc_plain_ways.nd (le_var 2))
    (lss_cons (ls_swp (ls_for PassesOwn.never rfl (li_seq (le_back0 (le_fn H_cut_runs (hr.mono (by decide)) rfl (ll_cons (le_var 1) (ll_cons (le_var 2) ll_nil)) (lenIs_cons (lenIs_cons lenIs_nil))))) (lt_tp rfl (lts_cons (lt_nm 6 sc_plain_ways.nd) (lts_cons (lt_nm 7 sc_plain_ways.nd) lts_nil))) (lss_cons (ls_aug 5 sc_plain_ways.nd (le_var 7) ip_vSub)
    (lss_one (ls_expr (le_ml PySem.F.slot_list_append PySem.F.type_list_append ml_append (le_var 4) (ll_cons (le_ite (lb_cmp (op_vEq hr.units) (le_var 6) le_int (nomark _)) (le_var 5) (le_neg (le_var 5))) ll_nil)))))))
    (lss_one (ls_ret (le_var 4)))))))))
theorem ok_ones_of (T : Txt K mg) {f : Addr} {fd : FuncData} (F : Fun K "ones_of" "ones_of" s_ones_of f fd) (H_many_of : HasFn P w K mg base "many_of" 1 ["runs", "letter"] F_many_of) (H_runs_of : HasFn P w K mg base "runs_of" 1 ["word"] F_runs_of)  : FnOk P w K mg base CX0 2 f fd ["word"] (spOf K 1 F_ones_of) :=
  fn_ok (k := 1) F sc_ones_of fun cdv A outer s H E hr => (lss_one (ls_ret (le_swp (le_fn H_many_of (hr.mono (by decide)) rfl (ll_cons (le_fn H_runs_of (hr.mono (by decide)) rfl (ll_cons (le_var 0) ll_nil) (lenIs_cons lenIs_nil)) (ll_cons le_int ll_nil)) (lenIs_cons (lenIs_cons lenIs_nil))))))
theorem ok_ways_of (T : Txt K mg) {f : Addr} {fd : FuncData} (F : Fun K "ways_of" "ways_of" s_ways_of f fd) (H_ones_of : HasFn P w K mg base "ones_of" 2 ["word"] F_ones_of) (H_word_length : HasFn P w K mg base "word_length" 1 ["word"] F_word_length) (H_plain_ways : HasFn P w K mg base "plain_ways" 5 ["word", "other"] F_plain_ways) (H_plain_word : HasFn P w K mg base "plain_word" 2 ["letter", "many"] F_plain_word)  : FnOk P w K mg base CX0 6 f fd ["word", "other", "distance"] (spOf K 3 F_ways_of) :=
  fn_ok (k := 5) F sc_ways_of fun cdv A outer s H E hr => (lss_cons (ls_set 3 sc_ways_of.nd (le_op op_vSub (le_var 2) (le_op op_vSub (le_fn H_ones_of (hr.mono (by decide)) rfl (ll_cons (le_var 1) ll_nil) (lenIs_cons lenIs_nil)) (le_fn H_ones_of (hr.mono (by decide)) rfl (ll_cons (le_var 0) ll_nil) (lenIs_cons lenIs_nil)))))
    (lss_cons (ls_set 4 sc_ways_of.nd (le_fn H_word_length (hr.mono (by decide)) rfl (ll_cons (le_var 0) ll_nil) (lenIs_cons lenIs_nil)))
    (lss_cons (ls_if (lb_cmp op_vGt (le_var 3) le_int (nomark _)) (lss_one (ls_ret (le_op op_vAdd (le_lst (ll_cons (le_op op_vAdd (le_op op_vSub (le_var 4) (le_fn H_ones_of (hr.mono (by decide)) rfl (ll_cons (le_var 0) ll_nil) (lenIs_cons lenIs_nil))) (le_var 3)) ll_nil) (lenIs_cons lenIs_nil)) (le_fn H_plain_ways (hr.mono (by decide)) rfl (ll_cons (le_fn H_plain_word (hr.mono (by decide)) rfl (ll_cons le_int (ll_cons (le_var 4) ll_nil)) (lenIs_cons (lenIs_cons lenIs_nil))) (ll_cons (le_var 1) ll_nil)) (lenIs_cons (lenIs_cons lenIs_nil)))))) lss_nil)
    (lss_cons (ls_if (lb_cmp op_vLt (le_var 3) le_int (nomark _)) (lss_one (ls_ret (le_op op_vAdd (le_lst (ll_cons (le_op op_vSub (le_var 3) (le_fn H_ones_of (hr.mono (by decide)) rfl (ll_cons (le_var 0) ll_nil) (lenIs_cons lenIs_nil))) ll_nil) (lenIs_cons lenIs_nil)) (le_fn H_plain_ways (hr.mono (by decide)) rfl (ll_cons (le_fn H_plain_word (hr.mono (by decide)) rfl (ll_cons le_int (ll_cons (le_var 4) ll_nil)) (lenIs_cons (lenIs_cons lenIs_nil))) (ll_cons (le_var 1) ll_nil)) (lenIs_cons (lenIs_cons lenIs_nil)))))) lss_nil)
    (lss_one (ls_ret (le_fn H_plain_ways (hr.mono (by decide)) rfl (ll_cons (le_var 0) (ll_cons (le_var 1) ll_nil)) (lenIs_cons (lenIs_cons lenIs_nil)))))))))
theorem ok_way_between (T : Txt K mg) {f : Addr} {fd : FuncData} (F : Fun K "way_between" "way_between" s_way_between f fd) (H_ways_of : HasFn P w K mg base "ways_of" 6 ["word", "other", "distance"] F_ways_of)  : FnOk P w K mg base CX0 7 f fd ["word", "other", "distance"] (spOf K 3 F_way_between) :=
  fn_ok (k := 6) F sc_way_between fun cdv A outer s H E hr => (lss_one (ls_ret (le_swp (le_callTy cl_tuple rfl T.n_tuple bt_tuple (ll_cons (le_fn H_ways_of (hr.mono (by decide)) rfl (ll_cons (le_var 0) (ll_cons (le_var 1) (ll_cons (le_var 2) ll_nil))) (lenIs_cons (lenIs_cons (lenIs_cons lenIs_nil)))) ll_nil)))))
theorem ok_least_way (T : Txt K mg) {f : Addr} {fd : FuncData} (F : Fun K "least_way" "least_way" s_least_way f fd) (H_ways_of : HasFn P w K mg base "ways_of" 6 ["word", "other", "distance"] F_ways_of)  : FnOk P w K mg base CX0 7 f fd ["word", "other", "distance"] (spOf K 3 F_least_way) :=
  fn_ok (k := 6) F sc_least_way fun cdv A outer s H E hr => (lss_one (ls_ret (le_swp (le_callB (cl_sum rfl) rfl T.n_sum bt_sum (ll_cons (le_lc rfl sc_least_way.nd (li_seq (le_fn H_ways_of (hr.mono (by decide)) rfl (ll_cons (le_var 0) (ll_cons (le_var 1) (ll_cons (le_var 2) ll_nil))) (lenIs_cons (lenIs_cons (lenIs_cons lenIs_nil))))) (blkOk_by (N := N_least_way) (sc := defScope s_least_way) (own := [("way", 3)]) (by decide +kernel)) (by decide) (fun _ _ _ _ _ => (lt_nm 3 sc_least_way.nd)) (fun _ _ _ _ _ => lts_yes) (fun _ _ _ _ _ => (le_callB cl_abs rfl T.n_abs bt_abs (ll_cons (le_var 3) ll_nil)))) ll_nil)))))
theorem ok_is_way (T : Txt K mg) {f : Addr} {fd : FuncData} (F : Fun K "is_way" "is_way" s_is_way f fd) (H_is_whole : HasFn P w K mg base "is_whole" 1 ["thing"] F_is_whole) (H_moved : HasFn P w K mg base "moved" 2 ["word", "way"] F_moved)  : FnOk P w K mg base CX0 3 f fd ["word", "other", "distance", "way", "thing"] (spOf K 5 F_is_way) :=
  fn_ok (k := 2) F sc_is_way fun cdv A outer s H E hr => (lss_cons (ls_if (LW.b (lw_or (lb_not (lb_truth (le_isi rfl T.n_isinstance rfl T.n_tuple (by decide +kernel) (le_var 4)))) (lw_or1 (lb_swp (lb_truth (le_lc rfl sc_is_way.nd (li_seq (le_var 4)) (blkOk_by (N := N_is_way) (sc := defScope s_is_way) (own := [("one", 6)]) (by decide +kernel)) (by decide) (fun _ _ _ _ _ => (lt_nm 6 sc_is_way.nd)) (fun _ _ _ _ _ => (lts_one (lb_not (lb_truth (le_fn H_is_whole (hr.mono (by decide)) rfl (ll_cons (le_var 6) ll_nil) (lenIs_cons lenIs_nil)))))) (fun _ _ _ _ _ => (le_var 6)))))))) (lss_one (ls_ret le_bl)) lss_nil)
    (lss_cons (ls_set 5 sc_is_way.nd (le_var 0))
    (lss_cons (ls_for PassesOwn.never rfl (li_seq (le_var 4)) (lt_nm 6 sc_is_way.nd) (lss_one (ls_set 5 sc_is_way.nd (le_fn H_moved (hr.mono (by decide)) rfl (ll_cons (le_var 5) (ll_cons (le_var 6) ll_nil)) (lenIs_cons (lenIs_cons lenIs_nil))))))
    (lss_one (ls_ret (le_and (le_cmp (op_vEq hr.units) (le_var 5) (le_var 1) (nomark _)) (le_and (le_cmp (op_vEq hr.units) (le_callB (cl_sum rfl) rfl T.n_sum bt_sum (ll_cons (le_var 4) ll_nil)) (le_var 2) (nomark _)) (le_one (le_swp (le_cmp op_vLe (le_swp (le_callB (cl_sum rfl) rfl T.n_sum bt_sum (ll_cons (le_lc rfl sc_is_way.nd (li_seq (le_var 4)) (blkOk_by (N := N_is_way) (sc := defScope s_is_way) (own := [("one", 6)]) (by decide +kernel)) (by decide) (fun _ _ _ _ _ => (lt_nm 6 sc_is_way.nd)) (fun _ _ _ _ _ => lts_yes) (fun _ _ _ _ _ => (le_callB cl_abs rfl T.n_abs bt_abs (ll_cons (le_var 6) ll_nil)))) ll_nil))) (le_var 3) (nomark _)))))))))))
theorem ok_law_pool (T : Txt K mg) {f : Addr} {fd : FuncData} (F : Fun K "_law_pool" "_law_pool" s_law_pool f fd)   : FnOk P w K mg base CX0 1 f fd ["script"] (spOf K 1 F_law_pool) :=
  fn_ok (k := 0) F sc_law_pool fun cdv A outer s H E hr => (lss_cons (ls_set 1 sc_law_pool.nd (le_op op_vMul (le_op op_vMul (le_op op_vMul (le_op op_vMul (le_op op_vPow le_int le_int) (le_op op_vPow le_int le_int)) (le_op op_vPow le_int le_int)) (le_op op_vPow le_int le_int)) (le_op op_vPow le_int le_int)))
    (lss_cons (ls_set 2 sc_law_pool.nd (le_lst (ll_cons le_int ll_nil) (lenIs_cons lenIs_nil)))
    (lss_cons (ls_swp (ls_for PassesOwn.never rfl (li_seq (le_slice sl_vSlice (le_var 0) lo_none (lo_some le_int))) (lt_nm 3 sc_law_pool.nd) (lss_one (ls_expr (le_ml PySem.F.slot_list_append PySem.F.type_list_append ml_append (le_var 2) (ll_cons (le_op op_vMod (le_callB cl_abs rfl T.n_abs bt_abs (ll_cons (le_callTy cl_int rfl T.n_int bt_int (ll_cons (le_var 3) ll_nil)) ll_nil)) (le_var 1)) ll_nil))))))
    (lss_cons (ls_if (lb_cmp (op_vEq hr.units) (le_callB cl_len rfl T.n_len bt_len (ll_cons (le_var 2) ll_nil)) le_int (nomark _)) (lss_one (ls_expr (le_ml PySem.F.slot_list_append PySem.F.type_list_append ml_append (le_var 2) (ll_cons le_int ll_nil)))) lss_nil)
    (lss_one (ls_ret (le_var 2)))))))
theorem ok_law_draw (T : Txt K mg) {f : Addr} {fd : FuncData} (F : Fun K "_law_draw" "_law_draw" s_law_draw f fd)   : FnOk P w K mg base CX0 1 f fd ["pool", "many"] (spOf K 2 F_law_draw) :=
  fn_ok (k := 0) F sc_law_draw fun cdv A outer s H E hr => (lss_cons (ls_setL (le_op op_vAdd (le_ix ix_vIx (le_var 0) le_int) le_int) (le_var 0) le_int)
    (lss_cons (ls_set 2 sc_law_draw.nd (le_callTy cl_int rfl T.n_int bt_int (ll_cons (le_ix ix_vIx (le_var 0) le_int) ll_nil)))
    (lss_cons (ls_set 3 sc_law_draw.nd (le_op op_vAdd le_int (le_op op_vMod (le_var 2) (le_op op_vSub (le_callB cl_len rfl T.n_len bt_len (ll_cons (le_var 0) ll_nil)) le_int))))
    (lss_cons (ls_set 4 sc_law_draw.nd (le_callTy cl_int rfl T.n_int bt_int (ll_cons (le_ix ix_vIx (le_var 0) (le_var 3)) ll_nil)))
    (lss_cons (ls_if (lb_cmp op_vGe (le_var 4) (le_op op_vPow le_int le_int) (nomark _)) (lss_cons (ls_setL (le_op op_vFdiv (le_var 4) (le_var 1)) (le_var 0) (le_var 3))
    (lss_one (ls_ret (le_op op_vMod (le_var 4) (le_var 1))))) lss_nil)
    (lss_cons (ls_set 5 sc_law_draw.nd (le_op op_vMod (le_op op_vMul (le_op op_vAdd (le_op op_vMod (le_var 4) le_int) (le_op op_vMul le_int (le_var 2))) le_int) le_int))
    (lss_cons (ls_set 5 sc_law_draw.nd (le_op op_vMod (le_op op_vMul (le_op op_vAdd (le_var 5) (le_op op_vMul (le_op op_vMul (le_var 2) (le_var 2)) le_int)) le_int) le_int))
    (lss_one (ls_ret (le_op op_vMod (le_op op_vFdiv (le_var 5) le_int) (le_var 1)))))))))))
theorem ok_law_same (T : Txt K mg) {f : Addr} {fd : FuncData} (F : Fun K "_law_same" "_law_same" s_law_same f fd) (hm : mg "_law_same" = some (.ref f)) (b : Binds K fd ["told", "due"] [])   : ∀ n, FnOk P w K mg base CX0 (1 + n) f fd ["told", "due"] (spOf K 2 (F_law_same n))
  | 0 => ⟨fun _ _ _ _ h => h.1.trans rfl, fun _ _ _ _ _ _ _ _ _ _ _ _ _ h => (h.2.elim fun _ h => h.elim fun _ h => h.elim fun _ h => h.2.2).elim⟩
  | n + 1 => fn_ok (k := 1 + n) F sc_law_same fun cdv A outer s H E hr => by
    have R : HasFn P w K mg base "_law_same" (1 + n) ["told", "due"] (F_law_same n) := ⟨f, fd, ok_law_same T F hm b  n, hm, F.kp, b⟩
    exact (lss_cons (ls_if (lb_cmp op_vIs (le_var 1) le_non (nomark _)) (lss_one (ls_ret (le_cmp op_vIs (le_var 0) le_non (nomark _)))) lss_nil)
    (lss_cons (ls_if (lb_truth (le_isi rfl T.n_isinstance rfl T.n_bool (by decide +kernel) (le_var 1))) (lss_one (ls_ret (le_swp (le_ix ix_vIx (le_lst (ll_cons (le_cmp op_vIs (le_var 0) le_bl (nomark _)) (ll_cons (le_cmp op_vIs (le_var 0) le_bl (nomark _)) ll_nil)) (lenIs_cons (lenIs_cons lenIs_nil))) (le_var 1))))) lss_nil)
    (lss_cons (ls_if (lb_truth (le_isi rfl T.n_isinstance rfl T.n_tuple (by decide +kernel) (le_var 1))) (lss_cons (ls_if (LW.b (lw_or (lb_not (lb_truth (le_isi rfl T.n_isinstance rfl T.n_tuple (by decide +kernel) (le_var 0)))) (lw_or1 (lb_cmp (op_vNe hr.units) (le_callB cl_len rfl T.n_len bt_len (ll_cons (le_var 0) ll_nil)) (le_callB cl_len rfl T.n_len bt_len (ll_cons (le_var 1) ll_nil)) (nomark _))))) (lss_one (ls_ret le_bl)) lss_nil)
    (lss_cons (ls_for PassesOwn.never rfl (li_range1 rfl T.n_range (ll_cons (le_callB cl_len rfl T.n_len bt_len (ll_cons (le_var 1) ll_nil)) ll_nil)) (lt_nm 2 sc_law_same.nd) (lss_one (ls_if (lb_not (lb_truth (le_fn R (hr.mono (by omega)) rfl (ll_cons (le_ix ix_vIx (le_var 0) (le_var 2)) (ll_cons (le_ix ix_vIx (le_var 1) (le_var 2)) ll_nil)) (lenIs_cons (lenIs_cons lenIs_nil))))) (lss_one (ls_ret le_bl)) lss_nil)))
    (lss_one (ls_ret le_bl)))) lss_nil)
    (lss_cons (ls_if (lb_truth (le_isi rfl T.n_isinstance rfl T.n_str (by decide +kernel) (le_var 1))) (lss_one (ls_ret (le_and (le_isi rfl T.n_isinstance rfl T.n_str (by decide +kernel) (le_var 0)) (le_one (le_cmp (op_vEq hr.units) (le_var 0) (le_var 1) (nomark _)))))) lss_nil)
    (lss_one (ls_ret (le_and (le_isi rfl T.n_isinstance rfl T.n_int (by decide +kernel) (le_var 0)) (le_and (le_not (le_isi rfl T.n_isinstance rfl T.n_bool (by decide +kernel) (le_var 0))) (le_one (le_cmp (op_vEq hr.units) (le_var 0) (le_var 1) (nomark _)))))))))))
theorem ok_law_word (T : Txt K mg) {f : Addr} {fd : FuncData} (F : Fun K "_law_word" "_law_word" s_law_word f fd)   : FnOk P w K mg base CX0 1 f fd ["letters"] (spOf K 1 F_law_word) :=
  fn_ok (k := 0) F sc_law_word fun cdv A outer s H E hr => (lss_cons (ls_set 1 sc_law_word.nd (le_lst ll_nil lenIs_nil))
    (lss_cons (ls_set 2 sc_law_word.nd le_str)
    (lss_cons (ls_for PassesOwn.never rfl (li_seq (le_var 0)) (lt_nm 3 sc_law_word.nd) (lss_cons (ls_if (lb_cmp (op_vEq hr.units) (le_var 3) (le_var 2) (nomark _)) (lss_one (ls_setL (le_op op_vAdd (le_ix ix_vIx (le_var 1) (le_op op_vSub (le_callB cl_len rfl T.n_len bt_len (ll_cons (le_var 1) ll_nil)) le_int)) le_int) (le_var 1) (le_op op_vSub (le_callB cl_len rfl T.n_len bt_len (ll_cons (le_var 1) ll_nil)) le_int))) (lss_one (ls_expr (le_ml PySem.F.slot_list_append PySem.F.type_list_append ml_append (le_var 1) (ll_cons le_int ll_nil)))))
    (lss_one (ls_set 2 sc_law_word.nd (le_var 3)))))
    (lss_one (ls_ret (le_tup (ll_cons (le_swp (le_callTy cl_int rfl T.n_int bt_int (ll_cons (le_swp (le_cmp (op_vEq hr.units) (le_slice sl_vSlice (le_var 0) lo_none (lo_some le_int)) le_str (nomark _))) ll_nil))) (ll_cons (le_callTy cl_tuple rfl T.n_tuple bt_tuple (ll_cons (le_var 1) ll_nil)) ll_nil)) (lenIs_cons (lenIs_cons lenIs_nil))))))))
theorem ok_law_moved (T : Txt K mg) {f : Addr} {fd : FuncData} (F : Fun K "_law_moved" "_law_moved" s_law_moved f fd)   : FnOk P w K mg base CX0 1 f fd ["letters", "way"] (spOf K 2 F_law_moved) :=
  fn_ok (k := 0) F sc_law_moved fun cdv A outer s H E hr => (lss_cons (ls_set 2 sc_law_moved.nd (le_callB cl_abs rfl T.n_abs bt_abs (ll_cons (le_var 1) ll_nil)))
    (lss_cons (ls_set 3 sc_law_moved.nd le_str)
    (lss_cons (ls_for PassesOwn.never rfl (li_seq (le_var 0)) (lt_nm 4 sc_law_moved.nd) (lss_one (ls_if (LW.b (lw_and (lb_cmp op_vGt (le_var 2) le_int (nomark _)) (lw_and1 (lb_cmp (op_vEq hr.units) (le_var 4) (le_ix ix_vIx le_str (le_cmp op_vLt (le_var 1) le_int (nomark _))) (nomark _))))) (lss_cons (ls_set 2 sc_law_moved.nd (le_op op_vSub (le_var 2) le_int))
    (lss_one (ls_set 3 sc_law_moved.nd (le_op op_vAdd (le_var 3) (le_ix ix_vIx le_str (le_cmp op_vLt (le_var 1) le_int (nomark _))))))) (lss_one (ls_set 3 sc_law_moved.nd (le_op op_vAdd (le_var 3) (le_var 4)))))))
    (lss_one (ls_ret (le_var 3))))))
theorem ok_law_leads (T : Txt K mg) {f : Addr} {fd : FuncData} (F : Fun K "_law_leads" "_law_leads" s_law_leads f fd) (H_law_moved : HasFn P w K mg base "_law_moved" 1 ["letters", "way"] F_law_moved)  : FnOk P w K mg base CX0 2 f fd ["letters", "other", "distance", "most", "thing"] (spOf K 5 F_law_leads) :=
  fn_ok (k := 1) F sc_law_leads fun cdv A outer s H E hr => (lss_cons (ls_if (lb_not (lb_truth (le_isi rfl T.n_isinstance rfl T.n_tuple (by decide +kernel) (le_var 4)))) (lss_one (ls_ret le_bl)) lss_nil)
    (lss_cons (ls_set 5 sc_law_leads.nd le_int)
    (lss_cons (ls_set 6 sc_law_leads.nd le_int)
    (lss_cons (ls_for PassesOwn.never rfl (li_seq (le_var 4)) (lt_nm 7 sc_law_leads.nd) (lss_cons (ls_if (LW.b (lw_or (lb_not (lb_truth (le_isi rfl T.n_isinstance rfl T.n_int (by decide +kernel) (le_var 7)))) (lw_or1 (lb_truth (le_isi rfl T.n_isinstance rfl T.n_bool (by decide +kernel) (le_var 7)))))) (lss_one (ls_ret le_bl)) lss_nil)
    (lss_cons (ls_set 0 sc_law_leads.nd (le_fn H_law_moved (hr.mono (by decide)) rfl (ll_cons (le_var 0) (ll_cons (le_var 7) ll_nil)) (lenIs_cons (lenIs_cons lenIs_nil))))
    (lss_cons (ls_set 5 sc_law_leads.nd (le_op op_vAdd (le_var 5) (le_callB cl_abs rfl T.n_abs bt_abs (ll_cons (le_var 7) ll_nil))))
    (lss_one (ls_set 6 sc_law_leads.nd (le_op op_vAdd (le_var 6) (le_var 7))))))))
    (lss_one (ls_ret (le_and (le_cmp (op_vEq hr.units) (le_var 0) (le_var 1) (nomark _)) (le_and (le_cmp (op_vEq hr.units) (le_var 6) (le_var 2) (nomark _)) (le_one (le_cmp op_vLe (le_var 5) (le_var 3) (nomark _)))))))))))
theorem ok_law_road (T : Txt K mg) {f : Addr} {fd : FuncData} (F : Fun K "_law_road" "_law_road" s_law_road f fd)   : FnOk P w K mg base CX0 1 f fd ["letters", "other", "distance"] (spOf K 3 F_law_road) :=
  fn_ok (k := 0) F sc_law_road fun cdv A outer s H E hr => (lss_cons (ls_set 3 sc_law_road.nd (le_lst ll_nil lenIs_nil))
    (lss_cons (ls_set 4 sc_law_road.nd (le_op op_vSub (le_op op_vAdd (le_var 2) (le_mt PySem.F.slot_str_count PySem.F.type_str_count mt_tCount (le_var 0) (ll_cons le_str ll_nil))) (le_mt PySem.F.slot_str_count PySem.F.type_str_count mt_tCount (le_var 1) (ll_cons le_str ll_nil))))
    (lss_cons (ls_if (lb_cmp op_vGt (le_var 4) le_int (nomark _)) (lss_cons (ls_expr (le_ml PySem.F.slot_list_append PySem.F.type_list_append ml_append (le_var 3) (ll_cons (le_op op_vAdd (le_mt PySem.F.slot_str_count PySem.F.type_str_count mt_tCount (le_var 0) (ll_cons le_str ll_nil)) (le_var 4)) ll_nil)))
    (lss_one (ls_set 0 sc_law_road.nd (le_op op_vMul le_str (le_callB cl_len rfl T.n_len bt_len (ll_cons (le_var 0) ll_nil)))))) lss_nil)
    (lss_cons (ls_if (lb_cmp op_vLt (le_var 4) le_int (nomark _)) (lss_cons (ls_expr (le_ml PySem.F.slot_list_append PySem.F.type_list_append ml_append (le_var 3) (ll_cons (le_op op_vSub (le_var 4) (le_mt PySem.F.slot_str_count PySem.F.type_str_count mt_tCount (le_var 0) (ll_cons le_str ll_nil))) ll_nil)))
    (lss_one (ls_set 0 sc_law_road.nd (le_op op_vMul le_str (le_callB cl_len rfl T.n_len bt_len (ll_cons (le_var 0) ll_nil)))))) lss_nil)
    (lss_cons (ls_set 5 sc_law_road.nd (le_callB cl_len rfl T.n_len bt_len (ll_cons (le_var 0) ll_nil)))
    (lss_cons (ls_for PassesOwn.never rfl (li_range1 rfl T.n_range (ll_cons (le_callB cl_len rfl T.n_len bt_len (ll_cons (le_var 0) ll_nil)) ll_nil)) (lt_nm 6 sc_law_road.nd) (lss_cons (ls_if (lb_cmp (op_vNe hr.units) (le_ix ix_vIx (le_var 0) (le_op op_vSub (le_var 5) le_int)) (le_ix ix_vIx (le_var 1) (le_op op_vSub (le_var 5) le_int)) (nomark _)) (lss_one ls_break) lss_nil)
    (lss_one (ls_set 5 sc_law_road.nd (le_op op_vSub (le_var 5) le_int)))))
    (lss_cons (ls_if (lb_cmp (op_vEq hr.units) (le_var 5) le_int (nomark _)) (lss_one (ls_ret (le_var 3))) lss_nil)
    (lss_cons (ls_set 7 sc_law_road.nd (le_swp (le_ix ix_vIx (le_lst (ll_cons le_int (ll_cons (le_neg le_int) ll_nil)) (lenIs_cons (lenIs_cons lenIs_nil))) (le_cmp (op_vEq hr.units) (le_ix ix_vIx (le_var 1) (le_op op_vSub (le_var 5) le_int)) le_str (nomark _)))))
    (lss_cons (ls_expr (le_ml PySem.F.slot_list_append PySem.F.type_list_append ml_append (le_var 3) (ll_cons (le_op op_vMul (le_var 7) (le_op op_vSub (le_var 5) (le_mt PySem.F.slot_str_count PySem.F.type_str_count mt_tCount (le_slice sl_vSlice (le_var 0) lo_none (lo_some (le_var 5))) (ll_cons (le_ix ix_vIx (le_var 1) (le_op op_vSub (le_var 5) le_int)) ll_nil)))) ll_nil)))
    (lss_cons (ls_for PassesOwn.never rfl (li_down rfl T.n_range (ll_cons (le_op op_vSub (le_var 5) le_int) (ll_cons le_int (ll_cons (le_neg le_int) ll_nil)))) (lt_nm 8 sc_law_road.nd) (lss_one (ls_if (lb_cmp (op_vNe hr.units) (le_ix ix_vIx (le_var 1) (le_op op_vSub (le_var 8) le_int)) (le_ix ix_vIx (le_var 1) (le_var 8)) (nomark _)) (lss_cons (ls_set 7 sc_law_road.nd (le_neg (le_var 7)))
    (lss_one (ls_expr (le_ml PySem.F.slot_list_append PySem.F.type_list_append ml_append (le_var 3) (ll_cons (le_op op_vMul (le_var 7) (le_var 8)) ll_nil))))) lss_nil)))
    (lss_one (ls_ret (le_var 3)))))))))))))
theorem ok_law_parted (T : Txt K mg) {f : Addr} {fd : FuncData} (F : Fun K "_law_parted" "_law_parted" s_law_parted f fd) (H_law_draw : HasFn P w K mg base "_law_draw" 1 ["pool", "many"] F_law_draw)  : FnOk P w K mg base CX0 2 f fd ["pool", "road"] (spOf K 2 F_law_parted) :=
  fn_ok (k := 1) F sc_law_parted fun cdv A outer s H E hr => (lss_cons (ls_set 2 sc_law_parted.nd (le_lst ll_nil lenIs_nil))
    (lss_cons (ls_for PassesOwn.never rfl (li_seq (le_var 1)) (lt_nm 3 sc_law_parted.nd) (lss_cons (ls_set 4 sc_law_parted.nd (le_fn H_law_draw (hr.mono (by decide)) rfl (ll_cons (le_var 0) (ll_cons (le_op op_vAdd (le_callB cl_abs rfl T.n_abs bt_abs (ll_cons (le_var 3) ll_nil)) le_int) ll_nil)) (lenIs_cons (lenIs_cons lenIs_nil))))
    (lss_cons (ls_set 5 sc_law_parted.nd (le_swp (le_ix ix_vIx (le_lst (ll_cons le_int (ll_cons (le_neg le_int) ll_nil)) (lenIs_cons (lenIs_cons lenIs_nil))) (le_cmp op_vLt (le_var 3) le_int (nomark _)))))
    (lss_cons (ls_set 2 sc_law_parted.nd (le_op op_vAdd (le_var 2) (le_lst (ll_cons (le_op op_vMul (le_var 5) (le_var 4)) (ll_cons (le_op op_vSub (le_var 3) (le_op op_vMul (le_var 5) (le_var 4))) ll_nil)) (lenIs_cons (lenIs_cons lenIs_nil)))))
    (lss_one (ls_if (lb_cmp (op_vEq hr.units) (le_fn H_law_draw (hr.mono (by decide)) rfl (ll_cons (le_var 0) (ll_cons le_int ll_nil)) (lenIs_cons (lenIs_cons lenIs_nil))) le_int (nomark _)) (lss_one (ls_expr (le_ml PySem.F.slot_list_append PySem.F.type_list_append ml_append (le_var 2) (ll_cons le_int ll_nil)))) lss_nil))))))
    (lss_one (ls_ret (le_callTy cl_tuple rfl T.n_tuple bt_tuple (ll_cons (le_var 2) ll_nil))))))
theorem ok_law_letters (T : Txt K mg) {f : Addr} {fd : FuncData} (F : Fun K "_law_letters" "_law_letters" s_law_letters f fd) (H_law_draw : HasFn P w K mg base "_law_draw" 1 ["pool", "many"] F_law_draw)  : FnOk P w K mg base CX0 2 f fd ["pool", "many"] (spOf K 2 F_law_letters) :=
  fn_ok (k := 1) F sc_law_letters fun cdv A outer s H E hr => (lss_cons (ls_set 2 sc_law_letters.nd (le_fn H_law_draw (hr.mono (by decide)) rfl (ll_cons (le_var 0) (ll_cons le_int ll_nil)) (lenIs_cons (lenIs_cons lenIs_nil))))
    (lss_cons (ls_if (lb_cmp (op_vEq hr.units) (le_var 2) le_int (nomark _)) (lss_one (ls_ret (le_op op_vMul (le_ix ix_vIx le_str (le_fn H_law_draw (hr.mono (by decide)) rfl (ll_cons (le_var 0) (ll_cons le_int ll_nil)) (lenIs_cons (lenIs_cons lenIs_nil)))) (le_var 1)))) lss_nil)
    (lss_cons (ls_set 3 sc_law_letters.nd le_str)
    (lss_cons (ls_set 4 sc_law_letters.nd (le_fn H_law_draw (hr.mono (by decide)) rfl (ll_cons (le_var 0) (ll_cons le_int ll_nil)) (lenIs_cons (lenIs_cons lenIs_nil))))
    (lss_cons (ls_for PassesOwn.never rfl (li_range1 rfl T.n_range (ll_cons (le_var 1) ll_nil)) (lt_nm 5 sc_law_letters.nd) (lss_one (ls_if (lb_cmp op_vLt (le_callB cl_len rfl T.n_len bt_len (ll_cons (le_var 3) ll_nil)) (le_var 1) (nomark _)) (lss_cons (ls_set 3 sc_law_letters.nd (le_op op_vAdd (le_var 3) (le_op op_vMul (le_ix ix_vIx le_str (le_var 4)) (le_op op_vAdd le_int (le_swp (le_fn H_law_draw (hr.mono (by decide)) rfl (ll_cons (le_var 0) (ll_cons (le_swp (le_ix ix_vIx (le_lst (ll_cons le_int (ll_cons le_int (ll_cons le_int (ll_cons (le_op op_vAdd (le_var 1) le_int) ll_nil)))) (lenIs_cons (lenIs_cons (lenIs_cons (lenIs_cons lenIs_nil))))) (le_op op_vSub (le_var 2) le_int))) ll_nil)) (lenIs_cons (lenIs_cons lenIs_nil))))))))
    (lss_one (ls_set 4 sc_law_letters.nd (le_op op_vSub le_int (le_var 4))))) lss_nil)))
    (lss_one (ls_ret (le_slice sl_vSlice (le_var 3) lo_none (lo_some (le_var 1))))))))))
theorem ok_law_pair (T : Txt K mg) {f : Addr} {fd : FuncData} (F : Fun K "_law_pair" "_law_pair" s_law_pair f fd) (H_law_letters : HasFn P w K mg base "_law_letters" 2 ["pool", "many"] F_law_letters) (H_law_draw : HasFn P w K mg base "_law_draw" 1 ["pool", "many"] F_law_draw)  : FnOk P w K mg base CX0 3 f fd ["pool"] (spOf K 1 F_law_pair) :=
  fn_ok (k := 2) F sc_law_pair fun cdv A outer s H E hr => (lss_cons (ls_set 1 sc_law_pair.nd (le_swp (le_fn H_law_letters (hr.mono (by decide)) rfl (ll_cons (le_var 0) (ll_cons (le_swp (le_ix ix_vIx (le_lst (ll_cons le_int (ll_cons le_int (ll_cons (le_op op_vAdd le_int (le_fn H_law_draw (hr.mono (by decide)) rfl (ll_cons (le_var 0) (ll_cons le_int ll_nil)) (lenIs_cons (lenIs_cons lenIs_nil)))) (ll_cons (le_op op_vAdd le_int (le_fn H_law_draw (hr.mono (by decide)) rfl (ll_cons (le_var 0) (ll_cons le_int ll_nil)) (lenIs_cons (lenIs_cons lenIs_nil)))) ll_nil)))) (lenIs_cons (lenIs_cons (lenIs_cons (lenIs_cons lenIs_nil))))) (le_fn H_law_draw (hr.mono (by decide)) rfl (ll_cons (le_var 0) (ll_cons le_int ll_nil)) (lenIs_cons (lenIs_cons lenIs_nil))))) ll_nil)) (lenIs_cons (lenIs_cons lenIs_nil)))))
    (lss_cons (ls_set 2 sc_law_pair.nd (le_fn H_law_letters (hr.mono (by decide)) rfl (ll_cons (le_var 0) (ll_cons (le_callB cl_len rfl T.n_len bt_len (ll_cons (le_var 1) ll_nil)) ll_nil)) (lenIs_cons (lenIs_cons lenIs_nil))))
    (lss_cons (ls_set 3 sc_law_pair.nd (le_fn H_law_draw (hr.mono (by decide)) rfl (ll_cons (le_var 0) (ll_cons (le_op op_vAdd (le_callB cl_len rfl T.n_len bt_len (ll_cons (le_var 1) ll_nil)) le_int) ll_nil)) (lenIs_cons (lenIs_cons lenIs_nil))))
    (lss_cons (ls_set 2 sc_law_pair.nd (le_swp (le_ix ix_vIx (le_lst (ll_cons (le_var 2) (ll_cons (le_var 1) (ll_cons (le_op op_vAdd (le_slice sl_vSlice (le_var 2) lo_none (lo_some (le_var 3))) (le_slice sl_vSlice (le_var 1) (lo_some (le_var 3)) lo_none)) (ll_cons (le_op op_vAdd (le_slice sl_vSlice (le_var 1) lo_none (lo_some (le_var 3))) (le_slice sl_vSlice (le_var 2) (lo_some (le_var 3)) lo_none)) ll_nil)))) (lenIs_cons (lenIs_cons (lenIs_cons (lenIs_cons lenIs_nil))))) (le_fn H_law_draw (hr.mono (by decide)) rfl (ll_cons (le_var 0) (ll_cons le_int ll_nil)) (lenIs_cons (lenIs_cons lenIs_nil))))))
    (lss_cons (ls_set 4 sc_law_pair.nd (le_op op_vSub (le_mt PySem.F.slot_str_count PySem.F.type_str_count mt_tCount (le_var 2) (ll_cons le_str ll_nil)) (le_mt PySem.F.slot_str_count PySem.F.type_str_count mt_tCount (le_var 1) (ll_cons le_str ll_nil))))
    (lss_cons (ls_set 5 sc_law_pair.nd (le_swp (le_ix ix_vIx (le_lst (ll_cons (le_var 4) (ll_cons (le_var 4) (ll_cons (le_op op_vAdd (le_op op_vAdd (le_var 4) le_int) (le_fn H_law_draw (hr.mono (by decide)) rfl (ll_cons (le_var 0) (ll_cons le_int ll_nil)) (lenIs_cons (lenIs_cons lenIs_nil)))) (ll_cons (le_op op_vSub (le_op op_vSub (le_var 4) le_int) (le_fn H_law_draw (hr.mono (by decide)) rfl (ll_cons (le_var 0) (ll_cons le_int ll_nil)) (lenIs_cons (lenIs_cons lenIs_nil)))) (ll_cons le_int ll_nil))))) (lenIs_cons (lenIs_cons (lenIs_cons (lenIs_cons (lenIs_cons lenIs_nil)))))) (le_fn H_law_draw (hr.mono (by decide)) rfl (ll_cons (le_var 0) (ll_cons le_int ll_nil)) (lenIs_cons (lenIs_cons lenIs_nil))))))
    (lss_one (ls_ret (le_lst (ll_cons (le_var 1) (ll_cons (le_var 2) (ll_cons (le_var 5) ll_nil))) (lenIs_cons (lenIs_cons (lenIs_cons lenIs_nil))))))))))))
theorem ok_law_bent (T : Txt K mg) {f : Addr} {fd : FuncData} (F : Fun K "_law_bent" "_law_bent" s_law_bent f fd) (H_law_draw : HasFn P w K mg base "_law_draw" 1 ["pool", "many"] F_law_draw)  : FnOk P w K mg base CX0 2 f fd ["pool", "road"] (spOf K 2 F_law_bent) :=
  fn_ok (k := 1) F sc_law_bent fun cdv A outer s H E hr => (lss_cons (ls_set 2 sc_law_bent.nd (le_lst (ll_cons (le_callTy cl_list rfl T.n_list bt_list (ll_cons (le_var 1) ll_nil)) (ll_cons le_non (ll_cons le_int (ll_cons le_bl (ll_cons le_str (ll_cons (le_op op_vAdd (le_swp (le_callTy cl_tuple rfl T.n_tuple bt_tuple (ll_cons (le_lc rfl sc_law_bent.nd (li_seq (le_var 1)) (blkOk_by (N := N_law_bent) (sc := defScope s_law_bent) (own := [("way", 4)]) (by decide +kernel)) (by decide) (fun _ _ _ _ _ => (lt_nm 4 sc_law_bent.nd)) (fun _ _ _ _ _ => lts_yes) (fun _ _ _ _ _ => (le_callTy cl_str rfl T.n_str bt_str (ll_cons (le_var 4) ll_nil)))) ll_nil))) (le_tup (ll_cons le_str ll_nil) (lenIs_cons lenIs_nil))) (ll_cons (le_op op_vAdd (le_var 1) (le_tup (ll_cons le_bl ll_nil) (lenIs_cons lenIs_nil))) (ll_cons (le_op op_vAdd (le_var 1) (le_tup (ll_cons le_bl ll_nil) (lenIs_cons lenIs_nil))) (ll_cons (le_tup (ll_cons (le_var 1) ll_nil) (lenIs_cons lenIs_nil)) ll_nil))))))))) (lenIs_cons (lenIs_cons (lenIs_cons (lenIs_cons (lenIs_cons (lenIs_cons (lenIs_cons (lenIs_cons (lenIs_cons lenIs_nil)))))))))))
    (lss_cons (ls_set 2 sc_law_bent.nd (le_op op_vAdd (le_var 2) (le_lst (ll_cons (le_op op_vAdd (le_var 1) (le_tup (ll_cons le_non ll_nil) (lenIs_cons lenIs_nil))) (ll_cons (le_op op_vAdd (le_var 1) (le_tup (ll_cons le_int (ll_cons (le_neg le_int) ll_nil)) (lenIs_cons (lenIs_cons lenIs_nil)))) (ll_cons (le_op op_vAdd (le_var 1) (le_tup (ll_cons (le_neg le_int) (ll_cons le_int ll_nil)) (lenIs_cons (lenIs_cons lenIs_nil)))) (ll_cons (le_op op_vAdd (le_tup (ll_cons le_int (ll_cons (le_neg le_int) ll_nil)) (lenIs_cons (lenIs_cons lenIs_nil))) (le_var 1)) (ll_cons (le_op op_vAdd (le_tup (ll_cons (le_neg le_int) (ll_cons le_int ll_nil)) (lenIs_cons (lenIs_cons lenIs_nil))) (le_var 1)) (ll_cons (le_op op_vAdd (le_var 1) (le_tup (ll_cons le_int ll_nil) (lenIs_cons lenIs_nil))) (ll_cons (le_op op_vAdd (le_var 1) (le_tup (ll_cons (le_neg le_int) ll_nil) (lenIs_cons lenIs_nil))) (ll_cons (le_slice sl_vSlice (le_var 1) (lo_some le_int) lo_none) ll_nil)))))))) (lenIs_cons (lenIs_cons (lenIs_cons (lenIs_cons (lenIs_cons (lenIs_cons (lenIs_cons (lenIs_cons lenIs_nil)))))))))))
    (lss_cons (ls_set 2 sc_law_bent.nd (le_op op_vAdd (le_var 2) (le_lst (ll_cons (le_back (le_var 1)) (ll_cons (le_slice sl_vSlice (le_var 1) lo_none (lo_some (le_op op_vSub (le_callB cl_len rfl T.n_len bt_len (ll_cons (le_var 1) ll_nil)) le_int))) (ll_cons (le_op op_vAdd (le_var 1) (le_var 1)) (ll_cons (le_tup ll_nil lenIs_nil) (ll_cons (le_tup (ll_cons le_int ll_nil) (lenIs_cons lenIs_nil)) (ll_cons (le_op op_vAdd (le_var 1) (le_tup (ll_cons (le_tup (ll_cons le_int (ll_cons le_int ll_nil)) (lenIs_cons (lenIs_cons lenIs_nil))) ll_nil) (lenIs_cons lenIs_nil))) (ll_cons (le_op op_vAdd (le_var 1) (le_tup (ll_cons (le_lst ll_nil lenIs_nil) ll_nil) (lenIs_cons lenIs_nil))) ll_nil))))))) (lenIs_cons (lenIs_cons (lenIs_cons (lenIs_cons (lenIs_cons (lenIs_cons (lenIs_cons lenIs_nil))))))))))
    (lss_cons (ls_if (lb_cmp op_vGt (le_callB cl_len rfl T.n_len bt_len (ll_cons (le_var 1) ll_nil)) le_int (nomark _)) (lss_cons (ls_set 3 sc_law_bent.nd (le_fn H_law_draw (hr.mono (by decide)) rfl (ll_cons (le_var 0) (ll_cons (le_callB cl_len rfl T.n_len bt_len (ll_cons (le_var 1) ll_nil)) ll_nil)) (lenIs_cons (lenIs_cons lenIs_nil))))
    (lss_one (ls_swp (ls_for PassesOwn.never rfl (li_seq (le_lst (ll_cons (le_op op_vAdd (le_ix ix_vIx (le_var 1) (le_var 3)) le_int) (ll_cons (le_op op_vSub (le_ix ix_vIx (le_var 1) (le_var 3)) le_int) (ll_cons (le_neg (le_ix ix_vIx (le_var 1) (le_var 3))) (ll_cons (le_op op_vMul (le_ix ix_vIx (le_var 1) (le_var 3)) le_int) (ll_cons le_int (ll_cons (le_op op_vPow le_int le_int) (ll_cons (le_neg (le_op op_vPow le_int le_int)) ll_nil))))))) (lenIs_cons (lenIs_cons (lenIs_cons (lenIs_cons (lenIs_cons (lenIs_cons (lenIs_cons lenIs_nil))))))))) (lt_nm 4 sc_law_bent.nd) (lss_one (ls_expr (le_ml PySem.F.slot_list_append PySem.F.type_list_append ml_append (le_var 2) (ll_cons (le_op op_vAdd (le_op op_vAdd (le_slice sl_vSlice (le_var 1) lo_none (lo_some (le_var 3))) (le_tup (ll_cons (le_var 4) ll_nil) (lenIs_cons lenIs_nil))) (le_slice sl_vSlice (le_var 1) (lo_some (le_op op_vAdd (le_var 3) le_int)) lo_none)) ll_nil)))))))) lss_nil)
    (lss_cons (ls_if (lb_cmp op_vGt (le_callB cl_len rfl T.n_len bt_len (ll_cons (le_var 1) ll_nil)) le_int (nomark _)) (lss_cons (ls_set 3 sc_law_bent.nd (le_fn H_law_draw (hr.mono (by decide)) rfl (ll_cons (le_var 0) (ll_cons (le_op op_vSub (le_callB cl_len rfl T.n_len bt_len (ll_cons (le_var 1) ll_nil)) le_int) ll_nil)) (lenIs_cons (lenIs_cons lenIs_nil))))
    (lss_cons (ls_expr (le_ml PySem.F.slot_list_append PySem.F.type_list_append ml_append (le_var 2) (ll_cons (le_op op_vAdd (le_op op_vAdd (le_slice sl_vSlice (le_var 1) lo_none (lo_some (le_var 3))) (le_tup (ll_cons (le_ix ix_vIx (le_var 1) (le_op op_vAdd (le_var 3) le_int)) (ll_cons (le_ix ix_vIx (le_var 1) (le_var 3)) ll_nil)) (lenIs_cons (lenIs_cons lenIs_nil)))) (le_slice sl_vSlice (le_var 1) (lo_some (le_op op_vAdd (le_var 3) le_int)) lo_none)) ll_nil)))
    (lss_one (ls_expr (le_ml PySem.F.slot_list_append PySem.F.type_list_append ml_append (le_var 2) (ll_cons (le_op op_vAdd (le_op op_vAdd (le_slice sl_vSlice (le_var 1) lo_none (lo_some (le_var 3))) (le_tup (ll_cons (le_op op_vAdd (le_ix ix_vIx (le_var 1) (le_var 3)) (le_ix ix_vIx (le_var 1) (le_op op_vAdd (le_var 3) le_int))) ll_nil) (lenIs_cons lenIs_nil))) (le_slice sl_vSlice (le_var 1) (lo_some (le_op op_vAdd (le_var 3) le_int)) lo_none)) ll_nil)))))) lss_nil)
    (lss_one (ls_ret (le_var 2))))))))
theorem ok_law_yes (T : Txt K mg) {f : Addr} {fd : FuncData} (F : Fun K "_law_yes" "_law_yes" s_law_yes f fd)   : FnOk P w K mg base CX0 1 f fd ["told", "due"] (spOf K 2 F_law_yes) :=
  fn_ok (k := 0) F sc_law_yes fun cdv A outer s H E hr => (lss_cons (ls_if (lb_truth (le_var 1)) (lss_one (ls_ret (le_cmp op_vIs (le_var 0) le_bl (nomark _)))) lss_nil)
    (lss_one (ls_ret (le_cmp op_vIs (le_var 0) le_bl (nomark _)))))
theorem ok_law_asked (T : Txt K mg) {f : Addr} {fd : FuncData} (F : Fun K "_law_asked" "_law_asked" s_law_asked f fd) (H_law_pair : HasFn P w K mg base "_law_pair" 3 ["pool"] F_law_pair) (H_law_word : HasFn P w K mg base "_law_word" 1 ["letters"] F_law_word) (H_law_road : HasFn P w K mg base "_law_road" 1 ["letters", "other", "distance"] F_law_road) (H_law_leads : HasFn P w K mg base "_law_leads" 2 ["letters", "other", "distance", "most", "thing"] F_law_leads) (H_least_way : HasFn P w K mg base "least_way" 7 ["word", "other", "distance"] F_least_way) (H_law_parted : HasFn P w K mg base "_law_parted" 2 ["pool", "road"] F_law_parted) (H_is_way : HasFn P w K mg base "is_way" 3 ["word", "other", "distance", "way", "thing"] F_is_way) (H_law_draw : HasFn P w K mg base "_law_draw" 1 ["pool", "many"] F_law_draw) (H_law_moved : HasFn P w K mg base "_law_moved" 1 ["letters", "way"] F_law_moved) (H_law_bent : HasFn P w K mg base "_law_bent" 2 ["pool", "road"] F_law_bent) (H_law_yes : HasFn P w K mg base "_law_yes" 1 ["told", "due"] F_law_yes) (H_law_same : HasFn P w K mg base "_law_same" 21 ["told", "due"] (F_law_same 20)) (H_way_between : HasFn P w K mg base "way_between" 7 ["word", "other", "distance"] F_way_between)  : FnOk P w K mg base CX0 22 f fd ["pool"] (spOf K 1 F_law_asked) :=
  fn_ok (k := 21) F sc_law_asked fun cdv A outer s H E hr => (lss_cons (ls_set 1 sc_law_asked.nd (le_fn H_law_pair (hr.mono (by decide)) rfl (ll_cons (le_var 0) ll_nil) (lenIs_cons lenIs_nil)))
    (lss_cons (ls_set 2 sc_law_asked.nd (le_ix ix_vIx (le_var 1) le_int))
    (lss_cons (ls_set 3 sc_law_asked.nd (le_ix ix_vIx (le_var 1) le_int))
    (lss_cons (ls_set 4 sc_law_asked.nd (le_ix ix_vIx (le_var 1) le_int))
    (lss_cons (ls_set 5 sc_law_asked.nd (le_fn H_law_word (hr.mono (by decide)) rfl (ll_cons (le_var 2) ll_nil) (lenIs_cons lenIs_nil)))
    (lss_cons (ls_set 6 sc_law_asked.nd (le_fn H_law_word (hr.mono (by decide)) rfl (ll_cons (le_var 3) ll_nil) (lenIs_cons lenIs_nil)))
    (lss_cons (ls_set 7 sc_law_asked.nd (le_swp (le_callTy cl_tuple rfl T.n_tuple bt_tuple (ll_cons (le_fn H_law_road (hr.mono (by decide)) rfl (ll_cons (le_var 2) (ll_cons (le_var 3) (ll_cons (le_var 4) ll_nil))) (lenIs_cons (lenIs_cons (lenIs_cons lenIs_nil)))) ll_nil))))
    (lss_cons (ls_set 8 sc_law_asked.nd (le_swp (le_callB (cl_sum rfl) rfl T.n_sum bt_sum (ll_cons (le_lc rfl sc_law_asked.nd (li_seq (le_var 7)) (blkOk_by (N := N_law_asked) (sc := defScope s_law_asked) (own := [("way", 18)]) (by decide +kernel)) (by decide) (fun _ _ _ _ _ => (lt_nm 18 sc_law_asked.nd)) (fun _ _ _ _ _ => lts_yes) (fun _ _ _ _ _ => (le_callB cl_abs rfl T.n_abs bt_abs (ll_cons (le_var 18) ll_nil)))) ll_nil))))
    (lss_cons (ls_if (lb_not (lb_truth (le_fn H_law_leads (hr.mono (by decide)) rfl (ll_cons (le_var 2) (ll_cons (le_var 3) (ll_cons (le_var 4) (ll_cons (le_var 8) (ll_cons (le_var 7) ll_nil))))) (lenIs_cons (lenIs_cons (lenIs_cons (lenIs_cons (lenIs_cons lenIs_nil)))))))) (lss_one (ls_ret le_bl)) lss_nil)
    (lss_cons (ls_set 9 sc_law_asked.nd (le_fn H_least_way (hr.mono (by decide)) rfl (ll_cons (le_var 5) (ll_cons (le_var 6) (ll_cons (le_var 4) ll_nil))) (lenIs_cons (lenIs_cons (lenIs_cons lenIs_nil)))))
    (lss_cons (ls_if (LW.b (lw_or (lb_not (lb_truth (le_isi rfl T.n_isinstance rfl T.n_int (by decide +kernel) (le_var 9)))) (lw_or (lb_truth (le_isi rfl T.n_isinstance rfl T.n_bool (by decide +kernel) (le_var 9))) (lw_or1 (lb_cmp (op_vNe hr.units) (le_var 9) (le_var 8) (nomark _)))))) (lss_one (ls_ret le_bl)) lss_nil)
    (lss_cons (ls_swp (ls_for PassesOwn.never rfl (li_seq (le_lst (ll_cons (le_var 7) (ll_cons (le_fn H_law_parted (hr.mono (by decide)) rfl (ll_cons (le_var 0) (ll_cons (le_var 7) ll_nil)) (lenIs_cons (lenIs_cons lenIs_nil))) (ll_cons (le_fn H_law_parted (hr.mono (by decide)) rfl (ll_cons (le_var 0) (ll_cons (le_var 7) ll_nil)) (lenIs_cons (lenIs_cons lenIs_nil))) ll_nil))) (lenIs_cons (lenIs_cons (lenIs_cons lenIs_nil))))) (lt_nm 10 sc_law_asked.nd) (lss_cons (ls_swp (ls_for PassesOwn.never rfl (li_seq (le_lst (ll_cons (le_var 8) (ll_cons (le_op op_vAdd (le_var 8) le_int) (ll_cons (le_op op_vPow le_int le_int) ll_nil))) (lenIs_cons (lenIs_cons (lenIs_cons lenIs_nil))))) (lt_nm 11 sc_law_asked.nd) (lss_one (ls_if (lb_cmp op_vIsNot (le_fn H_is_way (hr.mono (by decide)) rfl (ll_cons (le_var 5) (ll_cons (le_var 6) (ll_cons (le_var 4) (ll_cons (le_var 11) (ll_cons (le_var 10) ll_nil))))) (lenIs_cons (lenIs_cons (lenIs_cons (lenIs_cons (lenIs_cons lenIs_nil)))))) le_bl (nomark _)) (lss_one (ls_ret le_bl)) lss_nil))))
    (lss_one (ls_swp (ls_for PassesOwn.never rfl (li_seq (le_lst (ll_cons (le_op op_vSub (le_var 8) le_int) (ll_cons (le_neg le_int) (ll_cons (le_op op_vSub (le_neg (le_var 8)) le_int) ll_nil))) (lenIs_cons (lenIs_cons (lenIs_cons lenIs_nil))))) (lt_nm 11 sc_law_asked.nd) (lss_one (ls_if (lb_cmp op_vIsNot (le_fn H_is_way (hr.mono (by decide)) rfl (ll_cons (le_var 5) (ll_cons (le_var 6) (ll_cons (le_var 4) (ll_cons (le_var 11) (ll_cons (le_var 10) ll_nil))))) (lenIs_cons (lenIs_cons (lenIs_cons (lenIs_cons (lenIs_cons lenIs_nil)))))) le_bl (nomark _)) (lss_one (ls_ret le_bl)) lss_nil))))))))
    (lss_cons (ls_set 12 sc_law_asked.nd (le_op op_vAdd (le_op op_vAdd (le_callB cl_len rfl T.n_len bt_len (ll_cons (le_var 2) ll_nil)) le_int) (le_fn H_law_draw (hr.mono (by decide)) rfl (ll_cons (le_var 0) (ll_cons le_int ll_nil)) (lenIs_cons (lenIs_cons lenIs_nil)))))
    (lss_cons (ls_set 13 sc_law_asked.nd (le_swp (le_ix ix_vIx (le_lst (ll_cons le_int (ll_cons (le_neg le_int) ll_nil)) (lenIs_cons (lenIs_cons lenIs_nil))) (le_fn H_law_draw (hr.mono (by decide)) rfl (ll_cons (le_var 0) (ll_cons le_int ll_nil)) (lenIs_cons (lenIs_cons lenIs_nil))))))
    (lss_cons (ls_set 14 sc_law_asked.nd (le_op op_vAdd (le_tup (ll_cons (le_op op_vMul (le_var 13) (le_var 12)) ll_nil) (lenIs_cons lenIs_nil)) (le_swp (le_callTy cl_tuple rfl T.n_tuple bt_tuple (ll_cons (le_fn H_law_road (hr.mono (by decide)) rfl (ll_cons (le_fn H_law_moved (hr.mono (by decide)) rfl (ll_cons (le_var 2) (ll_cons (le_op op_vMul (le_var 13) (le_var 12)) ll_nil)) (lenIs_cons (lenIs_cons lenIs_nil))) (ll_cons (le_var 3) (ll_cons (le_op op_vSub (le_var 4) (le_op op_vMul (le_var 13) (le_var 12))) ll_nil))) (lenIs_cons (lenIs_cons (lenIs_cons lenIs_nil)))) ll_nil)))))
    (lss_cons (ls_set 11 sc_law_asked.nd (le_swp (le_callB (cl_sum rfl) rfl T.n_sum bt_sum (ll_cons (le_lc rfl sc_law_asked.nd (li_seq (le_var 14)) (blkOk_by (N := N_law_asked) (sc := defScope s_law_asked) (own := [("way", 18)]) (by decide +kernel)) (by decide) (fun _ _ _ _ _ => (lt_nm 18 sc_law_asked.nd)) (fun _ _ _ _ _ => lts_yes) (fun _ _ _ _ _ => (le_callB cl_abs rfl T.n_abs bt_abs (ll_cons (le_var 18) ll_nil)))) ll_nil))))
    (lss_cons (ls_swp (ls_for PassesOwn.never rfl (li_seq (le_op op_vAdd (le_lst (ll_cons (le_var 14) ll_nil) (lenIs_cons lenIs_nil)) (le_fn H_law_bent (hr.mono (by decide)) rfl (ll_cons (le_var 0) (ll_cons (le_var 7) ll_nil)) (lenIs_cons (lenIs_cons lenIs_nil))))) (lt_nm 15 sc_law_asked.nd) (lss_one (ls_swp (ls_for PassesOwn.never rfl (li_seq (le_lst (ll_cons (le_var 11) (ll_cons (le_var 8) (ll_cons (le_op op_vAdd (le_var 8) le_int) ll_nil))) (lenIs_cons (lenIs_cons (lenIs_cons lenIs_nil))))) (lt_nm 16 sc_law_asked.nd) (lss_cons (ls_set 17 sc_law_asked.nd (le_fn H_law_leads (hr.mono (by decide)) rfl (ll_cons (le_var 2) (ll_cons (le_var 3) (ll_cons (le_var 4) (ll_cons (le_var 16) (ll_cons (le_var 15) ll_nil))))) (lenIs_cons (lenIs_cons (lenIs_cons (lenIs_cons (lenIs_cons lenIs_nil)))))))
    (lss_one (ls_if (lb_not (lb_truth (le_fn H_law_yes (hr.mono (by decide)) rfl (ll_cons (le_fn H_is_way (hr.mono (by decide)) rfl (ll_cons (le_var 5) (ll_cons (le_var 6) (ll_cons (le_var 4) (ll_cons (le_var 16) (ll_cons (le_var 15) ll_nil))))) (lenIs_cons (lenIs_cons (lenIs_cons (lenIs_cons (lenIs_cons lenIs_nil)))))) (ll_cons (le_var 17) ll_nil)) (lenIs_cons (lenIs_cons lenIs_nil))))) (lss_one (ls_ret le_bl)) lss_nil))))))))
    (lss_one (ls_ret (le_fn H_law_same (hr.mono (by decide)) rfl (ll_cons (le_fn H_way_between (hr.mono (by decide)) rfl (ll_cons (le_var 5) (ll_cons (le_var 6) (ll_cons (le_var 4) ll_nil))) (lenIs_cons (lenIs_cons (lenIs_cons lenIs_nil)))) (ll_cons (le_var 7) ll_nil)) (lenIs_cons (lenIs_cons lenIs_nil))))))))))))))))))))))
theorem ok_law (T : Txt K mg) {f : Addr} {fd : FuncData} (F : Fun K "law" "law" s_law f fd) (H_law_pool : HasFn P w K mg base "_law_pool" 1 ["script"] F_law_pool) (H_law_asked : HasFn P w K mg base "_law_asked" 22 ["pool"] F_law_asked) (H_is_way : HasFn P w K mg base "is_way" 3 ["word", "other", "distance", "way", "thing"] F_is_way)  : FnOk P w K mg base CX0 23 f fd ["script"] (spOf K 1 F_law) :=
  fn_ok (k := 22) F sc_law fun cdv A outer s H E hr => (lss_cons (ls_set 1 sc_law.nd (le_fn H_law_pool (hr.mono (by decide)) rfl (ll_cons (le_var 0) ll_nil) (lenIs_cons lenIs_nil)))
    (lss_cons (ls_for PassesOwn.never rfl (li_range1 rfl T.n_range (ll_cons le_int ll_nil)) (lt_nm 2 sc_law.nd) (lss_one (ls_if (lb_not (lb_truth (le_fn H_law_asked (hr.mono (by decide)) rfl (ll_cons (le_var 1) ll_nil) (lenIs_cons lenIs_nil)))) (lss_one (ls_ret le_bl)) lss_nil)))
    (lss_cons (ls_swp (ls_for PassesOwn.never rfl (li_seq (le_lst (ll_cons (le_tup (ll_cons le_int (ll_cons (le_tup ll_nil lenIs_nil) ll_nil)) (lenIs_cons (lenIs_cons lenIs_nil))) (ll_cons (le_tup (ll_cons le_int (ll_cons (le_tup (ll_cons le_int ll_nil) (lenIs_cons lenIs_nil)) ll_nil)) (lenIs_cons (lenIs_cons lenIs_nil))) (ll_cons (le_tup (ll_cons le_int (ll_cons (le_tup (ll_cons le_int (ll_cons le_int ll_nil)) (lenIs_cons (lenIs_cons lenIs_nil))) ll_nil)) (lenIs_cons (lenIs_cons lenIs_nil))) ll_nil))) (lenIs_cons (lenIs_cons (lenIs_cons lenIs_nil))))) (lt_nm 3 sc_law.nd) (lss_one (ls_if (LW.b (lw_or (lb_cmp op_vIsNot (le_fn H_is_way (hr.mono (by decide)) rfl (ll_cons (le_var 3) (ll_cons (le_var 3) (ll_cons le_int (ll_cons le_int (ll_cons (le_tup ll_nil lenIs_nil) ll_nil))))) (lenIs_cons (lenIs_cons (lenIs_cons (lenIs_cons (lenIs_cons lenIs_nil)))))) le_bl (nomark _)) (lw_or1 (lb_cmp op_vIsNot (le_fn H_is_way (hr.mono (by decide)) rfl (ll_cons (le_var 3) (ll_cons (le_var 3) (ll_cons le_int (ll_cons (le_neg le_int) (ll_cons (le_tup ll_nil lenIs_nil) ll_nil))))) (lenIs_cons (lenIs_cons (lenIs_cons (lenIs_cons (lenIs_cons lenIs_nil)))))) le_bl (nomark _))))) (lss_one (ls_ret le_bl)) lss_nil))))
    (lss_one (ls_ret le_bl)))))
end

end Ap
/-! words as lists of letters: the plain part -/
namespace Ap
open PySem L2 L3
abbrev Run := Bool × Nat
def flat (rs : List Run) : List Bool := (rs.map fun r => List.replicate r.2 r.1).flatten
@[simp] theorem flat_nil : flat [] = [] := rfl
@[simp] theorem flat_cons {r : Run} {rs : List Run} : flat (r :: rs) = List.replicate r.2 r.1 ++ flat rs := by simp [flat]
@[simp] theorem flat_append {a b : List Run} : flat (a ++ b) = flat a ++ flat b := by simp [flat]
/-- a run put behind runs -/
def addRun (t : List Run) (r : Run) : List Run :=
  if r.2 = 0 then t else match t.getLast? with
    | some (b, m) => if b = r.1 then t.dropLast ++ [(b, m + r.2)] else t ++ [r]
    | none => [r]
def mkRuns (rs : List Run) : List Run := rs.foldl addRun []
theorem addRun_zero {t : List Run} {b : Bool} : addRun t (b, 0) = t := by simp [addRun]
theorem addRun_nil {r : Run} (h : r.2 ≠ 0) : addRun [] r = [r] := by simp [addRun, h]
theorem addRun_snoc {t : List Run} {b : Bool} {m n : Nat} {c : Bool} (h : n ≠ 0) : addRun (t ++ [(b, m)]) (c, n) = if b = c then t ++ [(b, m + n)] else t ++ [(b, m), (c, n)] := by
  unfold addRun
  simp only [h, if_false, List.getLast?_concat, List.dropLast_concat]
  split <;> simp
theorem flat_addRun {t : List Run} {r : Run} : flat (addRun t r) = flat t ++ List.replicate r.2 r.1 := by
  obtain ⟨c, n⟩ := r
  by_cases h : n = 0
  · subst h; simp [addRun_zero]
  · rcases List.eq_nil_or_concat t with rfl | ⟨t, ⟨b, m⟩, rfl⟩
    · rw [addRun_nil h]; simp
    · rw [List.concat_eq_append, addRun_snoc h]
      split
      · rename_i e
        subst e
        simp [List.append_assoc, List.replicate_append_replicate]
      · simp
theorem flat_foldl {rs t : List Run} : flat (rs.foldl addRun t) = flat t ++ flat rs := by
  induction rs generalizing t with
  | nil => simp
  | cons r rs ih => simp [ih, flat_addRun]
theorem flat_mk {rs : List Run} : flat (mkRuns rs) = flat rs := by simp [mkRuns, flat_foldl]
theorem addRun_twice {t : List Run} {b : Bool} {m n : Nat} : addRun (addRun t (b, m)) (b, n) = addRun t (b, m + n) := by
  by_cases hm : m = 0
  · subst hm; rw [addRun_zero]; simp
  by_cases hn : n = 0
  · subst hn; rw [addRun_zero]; simp
  rcases List.eq_nil_or_concat t with rfl | ⟨t, ⟨c, l⟩, rfl⟩
  · rw [addRun_nil hm, addRun_nil (by simp; omega)]
    have := addRun_snoc (t := []) (b := b) (m := m) (n := n) (c := b) hn
    simpa using this
  · rw [List.concat_eq_append, addRun_snoc hm, addRun_snoc (by omega)]
    by_cases hc : c = b
    · subst hc; simp only [if_true]; rw [addRun_snoc hn]; simp; omega
    · simp only [hc, if_false]
      rw [show t ++ [(c, l), (b, m)] = (t ++ [(c, l)]) ++ [(b, m)] by simp, addRun_snoc hn]
      simp
theorem fold_replicate {b : Bool} : ∀ (n : Nat) (t : List Run), ((List.replicate n b).map fun c => (c, 1)).foldl addRun t = addRun t (b, n)
  | 0, t => by simp [addRun_zero]
  | n + 1, t => by
    rw [List.replicate_succ, List.map_cons, List.foldl_cons, fold_replicate n, addRun_twice, Nat.add_comm]
/-- the runs of letters -/
def rle (bs : List Bool) : List Run := mkRuns (bs.map fun c => (c, 1))
theorem fold_flat : ∀ (rs t : List Run), ((flat rs).map fun c => (c, 1)).foldl addRun t = rs.foldl addRun t
  | [], t => by simp
  | (b, n) :: rs, t => by
    rw [flat_cons, List.map_append, List.foldl_append, fold_replicate, fold_flat rs]; rfl
theorem rle_flat (rs : List Run) : rle (flat rs) = mkRuns rs := fold_flat rs []
theorem flat_rle (bs : List Bool) : flat (rle bs) = bs := by
  unfold rle
  rw [flat_mk]
  induction bs with
  | nil => rfl
  | cons b bs ih => simp [ih]
/-- runs by turns -/
def alt (b : Bool) : List Nat → List Run
  | [] => []
  | n :: ns => (b, n) :: alt (!b) ns
@[simp] theorem alt_nil {b : Bool} : alt b [] = [] := rfl
@[simp] theorem alt_cons {b : Bool} {n : Nat} {ns : List Nat} : alt b (n :: ns) = (b, n) :: alt (!b) ns := rfl
@[simp] theorem alt_length {b : Bool} {ns : List Nat} : (alt b ns).length = ns.length := by
  induction ns generalizing b with
  | nil => rfl
  | cons n ns ih => simp [ih]
@[simp] theorem alt_snd {b : Bool} {ns : List Nat} : (alt b ns).map Prod.snd = ns := by
  induction ns generalizing b with
  | nil => rfl
  | cons n ns ih => simp [ih]
theorem alt_append {b : Bool} {xs ys : List Nat} : alt b (xs ++ ys) = alt b xs ++ alt (if xs.length % 2 = 0 then b else !b) ys := by
  induction xs generalizing b with
  | nil => simp
  | cons x xs ih =>
    rw [List.cons_append, alt_cons, ih, alt_cons, List.cons_append]
    congr 2
    simp only [List.length_cons]
    rcases Nat.mod_two_eq_zero_or_one xs.length with h | h
    · rw [if_pos h, if_neg (by omega)]
    · rw [if_neg (by omega), if_pos (by omega), Bool.not_not]
theorem alt_get {b : Bool} {ns : List Nat} {i : Nat} {n : Nat} (h : ns[i]? = some n) : (alt b ns)[i]? = some ((if i % 2 = 0 then b else !b), n) := by
  induction ns generalizing b i with
  | nil => simp at h
  | cons m ns ih =>
    cases i with
    | zero => simp at h; subst h; simp
    | succ i =>
      simp at h
      simp only [alt_cons, List.getElem?_cons_succ]
      rw [ih h]
      congr 2
      rcases Nat.mod_two_eq_zero_or_one i with h | h
      · rw [if_pos h, if_neg (by omega)]
      · rw [if_neg (by omega), if_pos (by omega), Bool.not_not]
/-- fold over runs by turns, all at least 1: nothing is put together -/
theorem fold_alt {b : Bool} {ns : List Nat} (h : ∀ n ∈ ns, n ≠ 0) (t : List Run) (ht : ∀ r, t.getLast? = some r → r.1 ≠ b) : (alt b ns).foldl addRun t = t ++ alt b ns := by
  induction ns generalizing b t with
  | nil => simp
  | cons n ns ih =>
    have hn : n ≠ 0 := h n (by simp)
    have e : addRun t (b, n) = t ++ [(b, n)] := by
      rcases List.eq_nil_or_concat t with rfl | ⟨t, ⟨c, l⟩, rfl⟩
      · rw [addRun_nil hn]; rfl
      · rw [List.concat_eq_append] at ht ⊢
        rw [addRun_snoc hn, if_neg (by simpa using ht (c, l))]; simp
    rw [alt_cons, List.foldl_cons, e, ih (fun m hm => h m (by simp [hm])) _ (by simp)]
    simp
/-- a word: good if no run is empty -/
def Good (b : Bool) (ns : List Nat) : Prop := (∀ n ∈ ns, n ≠ 0) ∧ (ns = [] → b = false)
def headB (rs : List Run) : Bool := match rs with
  | [] => false
  | r :: _ => r.1
theorem mk_alt {b : Bool} {ns : List Nat} (h : ∀ n ∈ ns, n ≠ 0) : mkRuns (alt b ns) = alt b ns := by
  unfold mkRuns; rw [fold_alt h [] (by simp)]; simp
/-- what the fold makes is by turns -/
theorem mk_is_alt (rs : List Run) : ∃ ns : List Nat, (∀ n ∈ ns, n ≠ 0) ∧ mkRuns rs = alt (headB (mkRuns rs)) ns := by
  suffices ∀ (rs t : List Run) (b : Bool) (ms : List Nat), (∀ n ∈ ms, n ≠ 0) → t = alt b ms → ∃ (c : Bool) (ns : List Nat), (∀ n ∈ ns, n ≠ 0) ∧ rs.foldl addRun t = alt c ns by
    obtain ⟨c, ns, h, e⟩ := this rs [] false [] (by simp) rfl
    refine ⟨ns, h, ?_⟩
    unfold mkRuns
    rw [e]
    cases ns <;> simp [headB]
  intro rs
  induction rs with
  | nil => intro t b ms h e; exact ⟨b, ms, h, e⟩
  | cons r rs ih =>
    intro t b ms h e
    rw [List.foldl_cons]
    obtain ⟨c, n⟩ := r
    by_cases hn : n = 0
    · subst hn; rw [addRun_zero]; exact ih t b ms h e
    rcases List.eq_nil_or_concat ms with rfl | ⟨ms, m, rfl⟩
    · subst e
      refine ih _ c [n] (by simpa using hn) ?_
      rw [alt_nil, addRun_nil hn]; rfl
    · rw [List.concat_eq_append] at h e
      subst e
      rw [alt_append, alt_cons, alt_nil, addRun_snoc hn]
      by_cases hb : (if ms.length % 2 = 0 then b else !b) = c
      · rw [if_pos hb]
        exact ih _ b (ms ++ [m + n]) (fun x hx => by
          rcases List.mem_append.mp hx with hx | hx
          · exact h x (by simp [hx])
          · have := List.mem_singleton.mp hx; omega) (by rw [alt_append, alt_cons, alt_nil])
      · rw [if_neg hb]
        refine ih _ b (ms ++ [m, n]) (fun x hx => ?_) ?_
        · rcases List.mem_append.mp hx with hx | hx
          · exact h x (by simp [hx])
          · simp at hx; rcases hx with rfl | rfl
            · exact h _ (by simp)
            · exact hn
        · rw [alt_append, alt_cons, alt_cons, alt_nil]
          congr 3
          generalize (if ms.length % 2 = 0 then b else !b) = d at hb
          cases d <;> cases c <;> simp_all
/-- first letter and lengths -/
def wd (bs : List Bool) : Bool × List Nat := (headB (rle bs), (rle bs).map Prod.snd)
theorem rle_alt (bs : List Bool) : rle bs = alt (wd bs).1 (wd bs).2 := by
  obtain ⟨ns, h, e⟩ := mk_is_alt (bs.map fun c => (c, 1))
  have e' : rle bs = alt (headB (rle bs)) ns := e
  unfold wd
  generalize headB (rle bs) = c at e'
  rw [e']
  simp
theorem wd_pos (bs : List Bool) : ∀ n ∈ (wd bs).2, n ≠ 0 := by
  obtain ⟨ns, h, e⟩ := mk_is_alt (bs.map fun c => (c, 1))
  have e' : rle bs = alt (headB (rle bs)) ns := e
  unfold wd
  generalize headB (rle bs) = c at e'
  rw [e']
  simpa using h
theorem wd_good (bs : List Bool) : Good (wd bs).1 (wd bs).2 := ⟨wd_pos bs, fun h => by
  unfold wd at h ⊢
  simp only [List.map_eq_nil_iff] at h
  rw [h]; rfl⟩
theorem flat_wd (bs : List Bool) : flat (alt (wd bs).1 (wd bs).2) = bs := by rw [← rle_alt, flat_rle]
theorem wd_flat {b : Bool} {ns : List Nat} (h : Good b ns) : wd (flat (alt b ns)) = (b, ns) := by
  unfold wd
  rw [rle_flat, mk_alt h.1]
  cases ns with
  | nil => rw [h.2 rfl]; rfl
  | cons n ns => simp [headB]
theorem rle_length (bs : List Bool) : (rle bs).length = (wd bs).2.length := by simp [wd]
theorem flat_length (rs : List Run) : (flat rs).length = (rs.map Prod.snd).sum := by
  induction rs with
  | nil => rfl
  | cons r rs ih => simp [ih]
theorem wd_sum (bs : List Bool) : (wd bs).2.sum = bs.length := by
  have := flat_length (rle bs)
  rw [flat_rle] at this
  rw [this]; rfl
theorem addRun_len {t : List Run} {r : Run} : (addRun t r).length ≤ t.length + 1 := by
  unfold addRun
  split
  · omega
  · split
    · split
      · simp; try omega
      · simp
    · simp
theorem fold_len (rs t : List Run) : (rs.foldl addRun t).length ≤ t.length + rs.length := by
  induction rs generalizing t with
  | nil => simp
  | cons r rs ih =>
    have := ih (addRun t r)
    have := addRun_len (t := t) (r := r)
    simp only [List.foldl_cons, List.length_cons]; omega
theorem mk_len (rs : List Run) : (mkRuns rs).length ≤ rs.length := by simpa [mkRuns] using fold_len rs []
theorem wd_len (bs : List Bool) : (wd bs).2.length ≤ bs.length := by
  rw [← rle_length]; simpa [rle] using mk_len (bs.map fun c => (c, 1))
theorem wd_flat_len (rs : List Run) : (wd (flat rs)).2.length ≤ rs.length := by rw [← rle_length, rle_flat]; exact mk_len rs
theorem fold_pos {rs t : List Run} (h : ∀ r ∈ t, r.2 ≠ 0) : ∀ r ∈ rs.foldl addRun t, r.2 ≠ 0 := by
  induction rs generalizing t with
  | nil => exact h
  | cons r rs ih =>
    refine ih ?_
    intro x hx
    unfold addRun at hx
    split at hx
    · exact h x hx
    · rename_i h0
      split at hx
      · rename_i b m hl
        split at hx
        · rcases List.mem_append.mp hx with hx | hx
          · exact h x ((List.dropLast_sublist _).subset hx)
          · rw [List.mem_singleton.mp hx]; simp; omega
        · rcases List.mem_append.mp hx with hx | hx
          · exact h x hx
          · rw [List.mem_singleton.mp hx]; exact h0
      · rw [List.mem_singleton.mp hx]; exact h0
/-! ### moves -/
/-- the first n letters `old` turned -/
def flipN (old : Bool) : Nat → List Bool → List Bool
  | 0, bs => bs
  | _ + 1, [] => []
  | n + 1, b :: bs => if b = old then (!old) :: flipN old n bs else b :: flipN old (n + 1) bs
@[simp] theorem flipN_zero {old : Bool} {bs : List Bool} : flipN old 0 bs = bs := by unfold flipN; rfl
@[simp] theorem flipN_nil {old : Bool} {n : Nat} : flipN old n [] = [] := by cases n <;> simp [flipN]
theorem flipN_same {old : Bool} {n : Nat} {bs : List Bool} : flipN old (n + 1) (old :: bs) = (!old) :: flipN old n bs := by simp [flipN]
theorem flipN_other {old : Bool} {n : Nat} {bs : List Bool} : flipN old n ((!old) :: bs) = (!old) :: flipN old n bs := by
  cases n with
  | zero => simp
  | succ n => cases old <;> simp [flipN]
theorem flipN_length (old : Bool) : ∀ (n : Nat) (bs : List Bool), (flipN old n bs).length = bs.length
  | 0, bs => by simp
  | n + 1, [] => by simp
  | n + 1, b :: bs => by
    unfold flipN
    split
    · simp [flipN_length old n bs]
    · simp [flipN_length old (n + 1) bs]
theorem flipN_rep_other {old : Bool} {n m : Nat} {bs : List Bool} : flipN old n (List.replicate m (!old) ++ bs) = List.replicate m (!old) ++ flipN old n bs := by
  induction m with
  | zero => simp
  | succ m ih => rw [List.replicate_succ, List.cons_append, flipN_other, ih]; rfl
theorem flipN_rep_same {old : Bool} : ∀ (n m : Nat) (bs : List Bool), flipN old n (List.replicate m old ++ bs) = List.replicate (min m n) (!old) ++ (List.replicate (m - min m n) old ++ flipN old (n - min m n) bs)
  | n, 0, bs => by simp
  | 0, m + 1, bs => by simp
  | n + 1, m + 1, bs => by
    rw [List.replicate_succ, List.cons_append, flipN_same, flipN_rep_same n m bs, Nat.add_min_add_right, List.replicate_succ, List.cons_append, Nat.add_sub_add_right, Nat.add_sub_add_right]
/-- moved -/
def movL (bs : List Bool) (w : Int) : List Bool := flipN (decide (w < 0)) w.natAbs bs
@[simp] theorem movL_length {bs : List Bool} {w : Int} : (movL bs w).length = bs.length := flipN_length _ _ _
@[simp] theorem movL_zero {bs : List Bool} : movL bs 0 = bs := by simp [movL]
theorem flipN_append (old : Bool) : ∀ (n : Nat) (a b : List Bool), flipN old n (a ++ b) = flipN old n a ++ flipN old (n - a.count old) b
  | 0, a, b => by simp
  | n + 1, [], b => by simp
  | n + 1, x :: a, b => by
    by_cases h : x = old
    · subst h
      rw [List.cons_append, flipN_same, flipN_same, flipN_append x n a b, List.cons_append, List.count_cons_self]
      congr 3; omega
    · have : x = !old := by cases x <;> cases old <;> simp_all
      subst this
      rw [List.cons_append, flipN_other, flipN_other, flipN_append old (n + 1) a b, List.cons_append, List.count_cons_of_ne (by cases old <;> simp)]
theorem flipN_add (old : Bool) : ∀ (m n : Nat) (a : List Bool), flipN old m (flipN old n a) = flipN old (n + m) a
  | m, n, [] => by simp
  | m, 0, x :: a => by simp
  | m, n + 1, x :: a => by
    by_cases h : x = old
    · subst h
      rw [flipN_same, flipN_other, flipN_add x m n a, show n + 1 + m = (n + m) + 1 by omega, flipN_same]
    · have : x = !old := by cases x <;> cases old <;> simp_all
      subst this
      rw [flipN_other, flipN_other, flipN_other, flipN_add old m (n + 1) a]
theorem flipN_all (old : Bool) : ∀ (n : Nat) (a : List Bool), a.count old ≤ n → flipN old n a = List.replicate a.length (!old)
  | n, [], _ => by simp
  | n, x :: a, h => by
    by_cases e : x = old
    · subst e
      rw [List.count_cons_self] at h
      obtain ⟨n, rfl⟩ : ∃ k, n = k + 1 := ⟨n - 1, by omega⟩
      rw [flipN_same, flipN_all x n a (by omega), List.length_cons, List.replicate_succ]
    · have : x = !old := by cases x <;> cases old <;> simp_all
      subst this
      rw [List.count_cons_of_ne (by cases old <;> simp)] at h
      rw [flipN_other, flipN_all old n a h, List.length_cons, List.replicate_succ]
theorem flipN_count (old : Bool) : ∀ (n : Nat) (a : List Bool), (flipN old n a).count old = a.count old - n
  | 0, a => by simp
  | n + 1, [] => by simp
  | n + 1, x :: a => by
    by_cases h : x = old
    · subst h
      rw [flipN_same, List.count_cons_of_ne (by cases x <;> simp), flipN_count x n a, List.count_cons_self]; omega
    · have : x = !old := by cases x <;> cases old <;> simp_all
      subst this
      rw [flipN_other, List.count_cons_of_ne (by cases old <;> simp), List.count_cons_of_ne (by cases old <;> simp), flipN_count old (n + 1) a]
theorem flipN_not (old : Bool) : ∀ (n : Nat) (a : List Bool), flipN (!old) n (a.map (!·)) = (flipN old n a).map (!·)
  | 0, a => by simp
  | n + 1, [] => by simp
  | n + 1, x :: a => by
    by_cases h : x = old
    · subst h
      rw [List.map_cons, flipN_same, flipN_same, flipN_not x n a, List.map_cons]
    · have : x = !old := by cases x <;> cases old <;> simp_all
      subst this
      rw [List.map_cons, flipN_other, flipN_other, flipN_not old (n + 1) a, List.map_cons]
theorem count_tf (a : List Bool) : a.count true + a.count false = a.length := by
  induction a with
  | nil => rfl
  | cons x a ih => cases x <;> simp <;> omega
/-- the offset of a word -/
def offL (bs : List Bool) (p : Nat) : Nat := (bs.take p).count true
theorem flipN_take (old : Bool) (n p : Nat) (a : List Bool) : (flipN old n a).take p = flipN old n (a.take p) := by
  conv => lhs; rw [← List.take_append_drop p a, flipN_append]
  by_cases h : p ≤ a.length
  · rw [List.take_append_of_le_length (by rw [flipN_length, List.length_take]; omega), List.take_of_length_le (by rw [flipN_length, List.length_take]; omega)]
  · have h1 : a.drop p = [] := List.drop_eq_nil_of_le (by omega)
    rw [h1, flipN_nil, List.append_nil, List.take_of_length_le (by rw [flipN_length, List.length_take]; omega)]
theorem off_mov {bs : List Bool} {p : Nat} {w : Int} (hp : p ≤ bs.length) : ((offL (movL bs w) p : Nat) : Int) = min (p : Int) (max 0 ((offL bs p : Int) + w)) := by
  unfold offL movL
  rw [flipN_take]
  have hl : (bs.take p).length = p := by simp; omega
  generalize bs.take p = a at hl
  have c1 := count_tf a
  by_cases h : w < 0
  · simp only [h, decide_true]
    rw [flipN_count]
    omega
  · simp only [h, decide_false]
    have c2 := count_tf (flipN false w.natAbs a)
    have c3 := flipN_count false w.natAbs a
    rw [flipN_length] at c2
    omega
end Ap

/-! words: ends of runs, stretches at which two words differ (the plain part) -/
namespace Ap
open PySem L2 L3
/-- the ends of runs, from a place on -/
def endsF (past : Nat) : List Nat → List Nat
  | [] => []
  | n :: ns => (past + n) :: endsF (past + n) ns
theorem endsF_mem_ge {past : Nat} : ∀ {ns : List Nat} {e : Nat}, e ∈ endsF past ns → past ≤ e ∧ e ≤ past + ns.sum
  | [], e, h => by simp [endsF] at h
  | n :: ns, e, h => by
    simp only [endsF, List.mem_cons, List.sum_cons] at h ⊢
    rcases h with rfl | h
    · omega
    · have := endsF_mem_ge h; omega
theorem endsF_last {past : Nat} : ∀ {ns : List Nat}, ns ≠ [] → past + ns.sum ∈ endsF past ns
  | [n], _ => by simp [endsF]
  | n :: m :: ns, _ => by
    have := endsF_last (past := past + n) (ns := m :: ns) (by simp)
    simp only [endsF, List.sum_cons, List.mem_cons] at this ⊢
    right
    rw [show past + (n + (m + ns.sum)) = past + n + (m + ns.sum) by omega]
    exact this
/-- letters between two ends are alike -/
theorem same_run {rs : List Run} : ∀ {past i j : Nat}, past ≤ i → i ≤ j → j < past + (flat rs).length → (∀ e ∈ endsF past (rs.map Prod.snd), ¬ (i < e ∧ e ≤ j)) → (flat rs)[i - past]? = (flat rs)[j - past]? := by
  induction rs with
  | nil => intro past i j h1 h2 h3; simp at h3; omega
  | cons r rs ih =>
    intro past i j h1 h2 h3 he
    obtain ⟨b, n⟩ := r
    rw [flat_cons] at h3 ⊢
    simp only [List.length_append, List.length_replicate] at h3
    simp only [List.map_cons, endsF, List.mem_cons, forall_eq_or_imp] at he
    by_cases hj : j < past + n
    · rw [List.getElem?_append_left (by simp; omega), List.getElem?_append_left (by simp; omega), List.getElem?_replicate, List.getElem?_replicate, if_pos (by omega), if_pos (by omega)]
    · have hi : past + n ≤ i := by have := he.1; omega
      have := ih (past := past + n) hi h2 (by omega) he.2
      rw [List.getElem?_append_right (by simp; omega), List.getElem?_append_right (by simp; omega)]
      simp only [List.length_replicate]
      rw [Nat.sub_sub, Nat.sub_sub]
      exact this
/-- the letter with a number -/
def lat (bs : List Bool) (e : Nat) : Bool := bs.getD (e - 1) false
def endsL (bs : List Bool) : List Nat := endsF 0 (wd bs).2
theorem rle_snd (bs : List Bool) : (rle bs).map Prod.snd = (wd bs).2 := rfl
theorem same_lat {bs : List Bool} {i j : Nat} (h1 : 1 ≤ i) (h2 : i ≤ j) (h3 : j ≤ bs.length) (he : ∀ e ∈ endsL bs, ¬ (i ≤ e ∧ e < j)) : lat bs i = lat bs j := by
  have := same_run (rs := rle bs) (past := 0) (i := i - 1) (j := j - 1) (by omega) (by omega) (by rw [flat_rle]; omega) (fun e h q => he e (by unfold endsL; rw [← rle_snd]; exact h) (by omega))
  rw [flat_rle, Nat.sub_zero, Nat.sub_zero] at this
  unfold lat
  rw [List.getD_eq_getElem?_getD, List.getD_eq_getElem?_getD, this]
theorem endsL_mem {bs : List Bool} {e : Nat} (h : e ∈ endsL bs) : 1 ≤ e ∧ e ≤ bs.length := by
  have h1 := endsF_mem_ge h
  rw [wd_sum] at h1
  refine ⟨?_, by omega⟩
  have hp := wd_pos bs
  unfold endsL at h
  generalize (wd bs).2 = ns at h hp
  cases ns with
  | nil => simp [endsF] at h
  | cons n ns =>
    have := hp n (by simp)
    simp only [endsF, List.mem_cons] at h
    rcases h with rfl | h
    · omega
    · have := endsF_mem_ge h; omega
theorem endsL_last {bs : List Bool} (h : bs ≠ []) : bs.length ∈ endsL bs := by
  have hne : (wd bs).2 ≠ [] := by
    intro q
    have := wd_sum bs
    rw [q] at this
    simp at this
    exact h (List.length_eq_zero_iff.mp this.symm)
  have := endsF_last (past := 0) hne
  rw [wd_sum, Nat.zero_add] at this
  exact this
theorem endsF_len {past : Nat} : ∀ {ns : List Nat}, (endsF past ns).length = ns.length
  | [] => rfl
  | n :: ns => by simp [endsF, endsF_len]
/-- the stretches, from ascending ends -/
def strF (a b : List Bool) (before : Nat) : List Nat → List (Nat × Nat)
  | [] => []
  | e :: es => if lat a e = lat b e then strF a b e es else (before + 1, e) :: strF a b e es
/-- two words alike but at the stretches -/
theorem strF_first {a b : List Bool} (hl : a.length = b.length) : ∀ (es : List Nat) (before : Nat), es.Pairwise (· < ·) → (∀ e ∈ es, before < e ∧ e ≤ a.length) → (∀ e, before < e → (e ∈ endsL a ∨ e ∈ endsL b) → e ∈ es) →
    (∀ k, 1 ≤ k → k ≤ before → lat a k = lat b k) → (a.length ∈ es ∨ before = a.length) →
    (a = b ∧ strF a b before es = []) ∨ (∃ f l r, strF a b before es = (f, l) :: r ∧ 1 ≤ f ∧ f ≤ l ∧ l ≤ a.length ∧ (∀ k, 1 ≤ k → k < f → lat a k = lat b k) ∧ lat a f ≠ lat b f)
  | [], before, _, _, _, hk, hend => by
    left
    have hb : before = a.length := by
      rcases hend with h | h
      · simp at h
      · exact h
    refine ⟨?_, rfl⟩
    apply List.ext_getElem?
    intro i
    by_cases hi : i < a.length
    · have := hk (i + 1) (by omega) (by omega)
      unfold lat at this
      rw [List.getD_eq_getElem?_getD, List.getD_eq_getElem?_getD, Nat.add_sub_cancel, List.getElem?_eq_getElem hi, List.getElem?_eq_getElem (by omega)] at this
      rw [List.getElem?_eq_getElem hi, List.getElem?_eq_getElem (by omega)]
      simpa using this
    · rw [List.getElem?_eq_none (by omega), List.getElem?_eq_none (by omega)]
  | e :: es, before, hs, hb, ha, hk, hend => by
    have hp := List.pairwise_cons.mp hs
    have he := hb e (by simp)
    have alike : ∀ k, before < k → k ≤ e → lat a k = lat a e ∧ lat b k = lat b e := fun k h1 h2 => by
      have no : ∀ x, k ≤ x → x < e → ¬ (x ∈ endsL a ∨ x ∈ endsL b) := fun x hx1 hx2 q => by
        rcases List.mem_cons.mp (ha x (by omega) q) with rfl | h
        · omega
        · have := hp.1 x h; omega
      exact ⟨same_lat (by omega) h2 he.2 fun x hx q => no x q.1 q.2 (.inl hx), same_lat (by omega) h2 (by omega) fun x hx q => no x q.1 q.2 (.inr hx)⟩
    unfold strF
    by_cases hq : lat a e = lat b e
    · rw [if_pos hq]
      refine strF_first hl es e hp.2 (fun x hx => ⟨hp.1 x hx, (hb x (by simp [hx])).2⟩) (fun x hx q => ?_) (fun k h1 h2 => ?_) ?_
      · rcases List.mem_cons.mp (ha x (by omega) q) with rfl | h
        · omega
        · exact h
      · by_cases h3 : k ≤ before
        · exact hk k h1 h3
        · have := alike k (by omega) h2
          rw [this.1, this.2, hq]
      · rcases hend with h | h
        · rcases List.mem_cons.mp h with h | h
          · exact .inr h.symm
          · exact .inl h
        · omega
    · rw [if_neg hq]
      right
      refine ⟨before + 1, e, strF a b e es, rfl, by omega, by omega, he.2, fun k h1 h2 => hk k h1 (by omega), ?_⟩
      have := alike (before + 1) (by omega) (by omega)
      rw [this.1, this.2]
      exact hq
/-- the last stretch -/
theorem strF_last {a b : List Bool} : ∀ (es : List Nat) (before : Nat), es.Pairwise (· < ·) → (∀ e, before < e → (e ∈ endsL a ∨ e ∈ endsL b) → e ∈ es) → (∀ e ∈ es, before < e ∧ e ≤ a.length) → a.length = b.length →
    ∀ f l r, strF a b before es = r ++ [(f, l)] → l ∈ es ∧ lat a l ≠ lat b l ∧ ∀ k, l < k → k ≤ a.length → (a.length ∈ es) → lat a k = lat b k
  | [], before, _, _, _, _, f, l, r, h => by simp [strF] at h
  | e :: es, before, hs, ha, hb, hl, f, l, r, h => by
    have hp := List.pairwise_cons.mp hs
    have he := hb e (by simp)
    have ha' : ∀ x, e < x → (x ∈ endsL a ∨ x ∈ endsL b) → x ∈ es := fun x hx q => by
      rcases List.mem_cons.mp (ha x (by omega) q) with rfl | h
      · omega
      · exact h
    have hb' : ∀ x ∈ es, e < x ∧ x ≤ a.length := fun x hx => ⟨hp.1 x hx, (hb x (by simp [hx])).2⟩
    have up : a.length ∈ e :: es → a.length = e ∨ a.length ∈ es := fun q => by
      rcases List.mem_cons.mp q with q | q
      · exact .inl q
      · exact .inr q
    have rec' : ∀ r, strF a b e es = r ++ [(f, l)] → l ∈ e :: es ∧ lat a l ≠ lat b l ∧ ∀ k, l < k → k ≤ a.length → (a.length ∈ e :: es) → lat a k = lat b k := fun r h => by
      obtain ⟨h1, h2, h3⟩ := strF_last es e hp.2 ha' hb' hl f l r h
      refine ⟨by simp [h1], h2, fun k k1 k2 q => h3 k k1 k2 ?_⟩
      rcases up q with q | q
      · have := hp.1 l h1; omega
      · exact q
    unfold strF at h
    split at h
    · exact rec' r h
    · rename_i hne
      cases r with
      | cons x r => exact rec' r (by simpa using (List.cons.inj h).2)
      | nil =>
        simp at h
        obtain ⟨⟨rfl, rfl⟩, hnil⟩ := h
        refine ⟨by simp, hne, fun k k1 k2 q => ?_⟩
        -- all further ends are alike
        have all : ∀ (es : List Nat) (e : Nat), es.Pairwise (· < ·) → (∀ x, e < x → (x ∈ endsL a ∨ x ∈ endsL b) → x ∈ es) → (∀ x ∈ es, e < x ∧ x ≤ a.length) → strF a b e es = [] → (a.length ∈ es ∨ a.length = e) → ∀ k, e < k → k ≤ a.length → lat a k = lat b k := by
          intro es
          induction es with
          | nil => intro e _ _ _ _ h k h1 h2; simp at h; omega
          | cons y es ih =>
            intro e hs ha hb hnil hm k h1 h2
            have hp := List.pairwise_cons.mp hs
            unfold strF at hnil
            split at hnil
            · rename_i hy
              by_cases h3 : k ≤ y
              · have no : ∀ x, k ≤ x → x < y → ¬ (x ∈ endsL a ∨ x ∈ endsL b) := fun x hx1 hx2 q => by
                  rcases List.mem_cons.mp (ha x (by omega) q) with rfl | h
                  · omega
                  · have := hp.1 x h; omega
                have hy2 := (hb y (by simp)).2
                rw [same_lat (bs := a) (by omega) h3 hy2 fun x hx q => no x q.1 q.2 (.inl hx), same_lat (bs := b) (by omega) h3 (by omega) fun x hx q => no x q.1 q.2 (.inr hx), hy]
              · refine ih y hp.2 (fun x hx q => ?_) (fun x hx => ⟨hp.1 x hx, (hb x (by simp [hx])).2⟩) hnil ?_ k (by omega) h2
                · rcases List.mem_cons.mp (ha x (by have := (hb y (by simp)).1; omega) q) with rfl | h
                  · omega
                  · exact h
                · rcases hm with h | h
                  · rcases List.mem_cons.mp h with h | h
                    · exact .inr h
                    · exact .inl h
                  · have := (hb y (by simp)).1
                    have := (hb y (by simp)).2
                    omega
            · simp at hnil
        exact all es _ hp.2 ha' hb' hnil (by rcases up q with q | q <;> simp [q]) k k1 k2
/-- the letters ahead of a run -/
def psum (rs : List Run) (i : Nat) : Nat := ((rs.take i).map Prod.snd).sum
theorem psum_succ {rs : List Run} {i : Nat} (h : i < rs.length) : psum rs (i + 1) = psum rs i + rs[i].2 := by
  unfold psum
  rw [List.take_succ_eq_append_getElem h, List.map_append, List.sum_append]; rfl
theorem psum_all {rs : List Run} {i : Nat} (h : rs.length ≤ i) : psum rs i = (flat rs).length := by
  unfold psum
  rw [List.take_of_length_le h, flat_length]
theorem flat_get : ∀ {rs : List Run} {i k : Nat} (h : i < rs.length), psum rs i ≤ k → k < psum rs i + rs[i].2 → (flat rs)[k]? = some rs[i].1
  | (b, n) :: rs, 0, k, _, _, h2 => by
    simp [psum] at h2
    rw [flat_cons, List.getElem?_append_left (by simpa using h2)]
    simp [h2]
  | (b, n) :: rs, i + 1, k, h, h1, h2 => by
    have e : psum ((b, n) :: rs) (i + 1) = n + psum rs i := by simp [psum]
    rw [e] at h1 h2
    simp at h2 h
    rw [flat_cons, List.getElem?_append_right (by simp; omega)]
    simp only [List.length_replicate, List.getElem_cons_succ]
    exact flat_get (by omega) (by omega) (by omega)
end Ap

namespace Ap
open PySem L2 L3
/-! the drawer -/
def G (k : Nat) (p : Store) : Prop := ∃ (c : Int) (cs : List Int), p = [.lst (.int c :: cs.map .int)] ∧ 0 ≤ c ∧ c ≤ k ∧ cs ≠ [] ∧ cs.length ≤ 64 ∧ ∀ x ∈ cs, 0 ≤ x
theorem PG : Pool 1 G where
  len := by rintro k p ⟨c, cs, rfl, _⟩; rfl
  low := by
    rintro k p ⟨c, cs, rfl, _⟩ o ho
    rw [List.mem_singleton.mp ho]
    simp only [SO.low, lows_cons, low_int, Bool.true_and]
    exact lows_ints cs
  mono := by
    rintro k k' p h ⟨c, cs, e, h1, h2, r⟩
    exact ⟨c, cs, e, h1, by omega, r⟩
theorem W1 {a : SO} {L : Store} : W [a] L = a :: L := rfl
theorem draw_ok {k : Nat} {p L : Store} {many : Int} (A : G k p) (hk : k ≤ 10 ^ 12) (hm : 1 ≤ many ∧ many ≤ 10 ^ 30) :
    ∃ r p', F_law_draw [.ref 0, .int many] (W p L) = .ok (.int r) (W p' L) ∧ G (k + 1) p' ∧ 0 ≤ r ∧ r < many := by
  obtain ⟨c, cs, rfl, h1, h2, hne, hl, hx⟩ := A
  have hn : 0 < cs.length := List.length_pos_iff.mpr hne
  have hmy : 0 < many := by omega
  have d0 := div_ok (b := many) hmy (by omega)
  have r0 := Int.emod_nonneg (c + 1) (show (cs.length : Int) ≠ 0 by omega)
  have r1 := Int.emod_lt_of_pos (c + 1) (show (0 : Int) < cs.length by omega)
  obtain ⟨j, hj⟩ := Int.eq_ofNat_of_zero_le r0
  have hjl : j < cs.length := by omega
  have hat : ∀ z : Int, L2.atI (.int z :: cs.map D.int) (1 + (c + 1) % (cs.length : Int)) = some (.int cs[j]) := fun z => by
    rw [hj, show (1 + (j : Int)) = ((j + 1 : Nat) : Int) by omega, atI_ofNat]; simp [hjl]
  have hix : ixN (cs.length + 1) (1 + (c + 1) % (cs.length : Int)) = some (j + 1) := by
    rw [hj, show (1 + (j : Int)) = ((j + 1 : Nat) : Int) by omega]; exact ixN_nat (by omega)
  have hx0 : 0 ≤ cs[j] := hx _ (by simp)
  have i0 : ixN (cs.length + 1) 0 = some 0 := ixN_nat (j := 0) (by omega)
  have e1 : ((cs.length : Int) + 1 - 1) = cs.length := by omega
  have hpos : (0 : Int) < cs.length := by omega
  by_cases hc : 10 ^ 18 ≤ cs[j]
  · refine ⟨cs[j] % many, [.lst (.int (c + 1) :: (cs.set j (cs[j] / many)).map .int)], (fn_rt (st' := W [.lst (.int (c + 1) :: (cs.set j (cs[j] / many)).map .int)] L) (d := .int (cs[j] % many)) ?_).trans (swept_len (by simp [W1])), ⟨c + 1, _, rfl, by omega, by omega, by simpa using hne, by simpa using hl, fun x hx' => ?_⟩, Int.emod_nonneg _ (by omega), Int.emod_lt_of_pos _ hmy⟩
    · simp [b_law_draw, W1, i0, bLen, e1, hpos, hat, hc, d0, hix, hne, hmy, List.map_set, show (1000000000000000000 : Int) ≤ cs[j] from hc]
    · rcases List.mem_or_eq_of_mem_set hx' with h | h
      · exact hx x h
      · rw [h]; exact Int.ediv_nonneg hx0 (by omega)
  · have hc' : ¬ ((1000000000000000000 : Int) ≤ cs[j]) := hc
    have m1 := mul_ok (a := 275604541) (b := c + 1) (by decide) (by omega)
    have q1 : 0 ≤ cs[j] % 2147482819 ∧ cs[j] % 2147482819 < 2147482819 := by omega
    generalize hA : cs[j] % 2147482819 = a at q1
    have m2 := mul_ok (a := a + 275604541 * (c + 1)) (b := 39373) (by omega) (by decide)
    have q2 : 0 ≤ (a + 275604541 * (c + 1)) * 39373 % 2147482819 ∧ (a + 275604541 * (c + 1)) * 39373 % 2147482819 < 2147482819 := by omega
    have m3 := mul_ok (a := c + 1) (b := c + 1) (by omega) (by omega)
    have k2 : 0 ≤ (c + 1) * (c + 1) := Int.mul_nonneg (by omega) (by omega)
    have k3 : (c + 1) * (c + 1) ≤ (10 ^ 12 + 1) * (10 ^ 12 + 1) := Int.mul_le_mul (by omega) (by omega) (by omega) (by omega)
    have m4 := mul_ok (a := (c + 1) * (c + 1)) (b := 20123) (by omega) (by decide)
    generalize hB : (a + 275604541 * (c + 1)) * 39373 % 2147482819 = b at q2
    have m5 := mul_ok (a := b + (c + 1) * (c + 1) * 20123) (b := 69621) (by omega) (by decide)
    have d1 := div_ok (b := 191) (by decide) (by decide)
    refine ⟨_, [.lst (.int (c + 1) :: cs.map .int)], (fn_rt (st' := W [.lst (.int (c + 1) :: cs.map .int)] L) (d := .int ((b + (c + 1) * (c + 1) * 20123) * 69621 % 2147482819 / 191 % many)) ?_).trans (swept_len (by simp [W1])), ⟨c + 1, cs, rfl, by omega, by omega, hne, hl, hx⟩, Int.emod_nonneg _ (by omega), Int.emod_lt_of_pos _ hmy⟩
    simp [b_law_draw, W1, i0, bLen, e1, hpos, hat, hc', hne, hA, hB, m1, m2, m3, m4, m5, d1, hmy]
theorem draw_wp {k : Nat} {p L : Store} {many : Int} {Q : D → Store → Prop} (A : G k p) (hk : k ≤ 10 ^ 12) (hm : 1 ≤ many ∧ many ≤ 10 ^ 30)
    (h : ∀ r p', G (k + 1) p' → 0 ≤ r → r < many → Q (.int r) (W p' L)) : wp (F_law_draw [.ref 0, .int many] (W p L)) Q := by
  obtain ⟨r, p', e, A', a, b⟩ := draw_ok (L := L) A hk hm
  exact wp_of_eq e (h r p' A' a b)
theorem cut_ints {xs : List Int} (h : xs.length ≤ 63) : cutD (xs.map .int) none (some 63) = xs.map .int := by
  unfold cutD
  rw [HT.sIx_none, show (some 63 : Option Int) = some ((63 : Nat) : Int) from rfl, HT.sIx_nat, List.drop_zero, List.length_map, Nat.sub_zero, Nat.min_eq_right h, List.take_of_length_le (by simp)]
def PoN (x : D) (ρ : Envr) (s : Store) : Prop := ∃ (cs : List Int) (mo : Int) (L : Store) (l3 : Option D), ρ = [some x, some (.int mo), some (.ref 0), l3] ∧ s = .lst (.int 0 :: cs.map .int) :: L ∧ cs.length ≤ 63 ∧ ∀ x ∈ cs, 0 ≤ x
def PoI (x : D) (mo : Int) (ns : List Int) (ys : List Int) (ρ : Envr) (s : Store) : Prop := ∃ (cs : List Int) (l3 : Option D), ρ = [some x, some (.int mo), some (.ref 0), l3] ∧ s = [.lst (.int 0 :: cs.map .int), .lst (ns.map .int)] ∧ cs.length + ys.length ≤ 63 ∧ ∀ x ∈ cs, 0 ≤ x
theorem pool_wp {ns : List Int} {Q : D → Store → Prop} (hns : ns.length ≤ 63) (h : ∀ p L, G 0 p → Q (.ref 0) (W p L)) : wp (F_law_pool [.rl (ns.map .int)] []) Q := by
  refine wp_fn ?_
  simp [b_law_pool]
  refine ⟨by decide +kernel, by decide +kernel, by decide +kernel, by decide +kernel, ?_⟩
  generalize hg : (10000000000000000000000000000000000000000000000000000000000000000000000000000000000000000000000000000000000000000000000000000000000000000000000000000000000000000000000000000000000000000000000000000000000000000000000000000000000000000000000000000000000000 : Int) = mo
  have hmo : 0 < mo := by rw [← hg]; decide +kernel
  refine wps_mono (N := PoN (.rl (ns.map .int))) (C := fun _ _ => False) (B := fun _ _ => False) (R := fun _ _ => False) (wps_xswp ?_) ?_ (fun _ _ q => q.elim) (fun _ _ q => q.elim) (fun _ _ q => q.elim)
  · simp [vSlice, cut_ints hns, srcOf]
    refine wp_for (enc := D.int) (xs := ns) (PoI (.rl (ns.map .int)) mo ns) ⟨[], none, rfl, rfl, by simpa using hns, by simp⟩ ?_ ?_
    · rintro ρ s ⟨cs, l3, rfl, rfl, hl, hx⟩
      exact ⟨rfl, ⟨cs, mo, _, l3, rfl, rfl, by simpa using hl, hx⟩, ⟨cs, mo, _, l3, rfl, rfl, by simpa using hl, hx⟩⟩
    · rintro x ys ρ s hx ⟨cs, l3, rfl, rfl, hl, hp⟩
      simp at hl
      refine ⟨rfl, _, rfl, ?_⟩
      simp [hmo, isLst]
      rw [mAppend_ev rfl (by simp; omega), wp_ok]
      refine ⟨cs ++ [(x.natAbs : Int) % mo], _, rfl, by simp, by simp; omega, fun y hy => ?_⟩
      rcases List.mem_append.mp hy with hy | hy
      · exact hp y hy
      · rw [List.mem_singleton.mp hy]; exact Int.emod_nonneg _ (by omega)
  · rintro ρ s ⟨cs, mo, L, l3, rfl, rfl, hl, hx⟩
    cases cs with
    | nil =>
      simp [bLen, isLst]
      rw [mAppend_ev rfl (by simp)]
      simp
      exact wp_swept_up (by simp) (h [.lst [.int 0, .int 13]] L ⟨0, [13], rfl, by omega, by omega, by simp, by simp, by simp⟩)
    | cons c cs =>
      have : ¬ ((cs.length : Int) + 1 + 1 = 1) := by omega
      simp [bLen, this]
      exact wp_swept_up (by simp) (h [.lst (.int 0 :: (c :: cs).map .int)] L ⟨0, c :: cs, rfl, by omega, by omega, by simp, by omega, hx⟩)
/-! the same with the drawer as the store's first object -/
def Gd (k : Nat) (o : SO) : Prop := G k [o]
theorem Gd.mono {k k' : Nat} {o : SO} (A : Gd k o) (h : k ≤ k') : Gd k' o := PG.mono h A
theorem dr {k : Nat} {o : SO} {L : Store} {many : Int} {Q : D → Store → Prop} (A : Gd k o) (hk : k ≤ 10 ^ 12) (hm : 1 ≤ many ∧ many ≤ 10 ^ 30)
    (h : ∀ r o', Gd (k + 1) o' → 0 ≤ r → r < many → Q (.int r) (o' :: L)) : wp (F_law_draw [.ref 0, .int many] (o :: L)) Q := by
  refine draw_wp (p := [o]) (L := L) A hk hm fun r p' A' a b => ?_
  have hl := PG.len A'
  obtain ⟨o', rfl⟩ : ∃ o', p' = [o'] := by
    cases p' with
    | nil => simp at hl
    | cons x t => cases t with
      | nil => exact ⟨x, rfl⟩
      | cons y t => simp at hl
  exact h r o' A' a b
theorem Gd.swp {k : Nat} {o o' : SO} {L L' : Store} {d : D} (A : Gd k o') (hd : d.low 0 = true) (K : Keep L L') : swept (o :: L) (.ok d (o' :: L')) = .ok d (o' :: L) :=
  swept_W (p := [o]) (p' := [o']) rfl (by intro x hx; exact PG.low A x hx) hd K
theorem Gd.swpB {k : Nat} {o o' : SO} {L L' : Store} {d : Bool} (A : Gd k o') (K : Keep L L') : sweptB (o :: L) (.ok d (o' :: L')) = .ok d (o' :: L) := by
  have h := A.swp (o := o) (d := .non) rfl K
  unfold swept at h
  unfold sweptB
  simp only at h ⊢
  split at h
  · rename_i q
    rw [if_pos ⟨q.1, q.2.2⟩]
    simp only [Res.ok.injEq, true_and] at h
    rw [h]
  · rename_i q
    exfalso
    apply q
    refine ⟨by have := K.len; simp; omega, rfl, fun i x hi e => ?_⟩
    cases i with
    | zero =>
      right
      simp at e
      subst e
      exact soLow_mono (by simp) (PG.low A _ (by simp))
    | succ i =>
      left
      simp at e hi ⊢
      rw [← K.at_ _ hi]; exact e
theorem poolg {ns : List Int} {Q : D → Store → Prop} (hns : ns.length ≤ 63) (h : ∀ o L, Gd 0 o → Q (.ref 0) (o :: L)) : wp (F_law_pool [.rl (ns.map .int)] []) Q := by
  refine pool_wp hns fun p L A => ?_
  have hl := PG.len A
  obtain ⟨o, rfl⟩ : ∃ o, p = [o] := by
    cases p with
    | nil => simp at hl
    | cons x t => cases t with
      | nil => exact ⟨x, rfl⟩
      | cons y t => simp at hl
  exact h o L A
theorem pk {P : D → Prop} {k : Nat} {o o1 : SO} {L : Store} {xs : List D} {many : Int} {n : Nat} {Q : D → Store → Prop} (A : Gd k o1) (hk : k ≤ 10 ^ 12) (hm : many = xs.length) (hn : n = L.length + 1) (hx : 1 ≤ xs.length ∧ xs.length ≤ 1000) (hp : ∀ d ∈ xs, P d ∧ d.low 0 = true)
    (h : ∀ d o2, P d → Gd (k + 1) o2 → Q d (o2 :: L)) : wp (F_law_draw [.ref 0, .int many] (o1 :: (L ++ [.lst xs]))) (fun a s => wp (swept (o :: L) (vIx (.ref n) a s)) Q) := by
  subst hm hn
  refine dr A hk (by omega) fun r o2 A2 a b => ?_
  have e1 : (o2 :: (L ++ [SO.lst xs]))[L.length + 1]? = some (.lst xs) := by simp
  obtain ⟨d, ed, hd⟩ := atI_all (P := fun d => P d ∧ d.low 0 = true) (xs := xs) (i := r) ⟨a, b⟩ hp
  rw [vIx_ref, e1]
  simp only [ed]
  rw [A2.swp hd.2 .app, wp_ok]
  exact h d o2 hd.1 A2
end Ap

/-! words: runs_of, word_of_runs, moved, moved_along -/
namespace Ap
open PySem L2 L3
def bi (b : Bool) : Int := if b then 1 else 0
def encN (n : Nat) : D := .int n
def encR (r : Run) : D := .tup [.int (bi r.1), .int r.2]
def encW (b : Bool) (ns : List Nat) : D := .tup [.int (bi b), .tup (ns.map encN)]
def wdD (bs : List Bool) : D := encW (wd bs).1 (wd bs).2
theorem bi_inj {a b : Bool} : bi a = bi b ↔ a = b := by cases a <;> cases b <;> simp [bi]
theorem bi_mod {b : Bool} {i : Nat} : (bi b + (i : Int)) % 2 = bi (if i % 2 = 0 then b else !b) := by
  rcases Nat.mod_two_eq_zero_or_one i with h | h
  · rw [if_pos h]; cases b <;> simp [bi] <;> omega
  · rw [if_neg (by omega)]; cases b <;> simp [bi] <;> omega
@[simp] theorem encN_low {n k : Nat} : (encN n).low k = true := low_int
@[simp] theorem encR_low {r : Run} {k : Nat} : (encR r).low k = true := by simp [encR]
@[simp] theorem encW_low {b : Bool} {ns : List Nat} {k : Nat} : (encW b ns).low k = true := by
  simp only [encW, low_tup, lows_cons, low_int, lows_nil, Bool.true_and, Bool.and_true]
  exact lows_map (fun _ => encN_low) ns
@[simp] theorem wdD_low {bs : List Bool} {k : Nat} : (wdD bs).low k = true := encW_low
theorem mov_runs (old : Bool) : ∀ (rs : List Run) (left : Nat), ∃ (t : Nat) (rest : List Run), flipN old left (flat rs) = List.replicate t (!old) ++ flat rest ∧ rest.length ≤ rs.length
  | [], left => ⟨0, [], by simp, by simp⟩
  | (b, n) :: rs, left => by
    by_cases h0 : left = 0
    · subst h0; exact ⟨0, (b, n) :: rs, by simp, by simp⟩
    by_cases hb : b = old
    · subst hb
      rw [flat_cons, flipN_rep_same]
      by_cases hn : n ≤ left
      · obtain ⟨t, rest, e, hl⟩ := mov_runs b rs (left - n)
        refine ⟨n + t, rest, ?_, by simp; omega⟩
        simp only [Nat.min_eq_left hn, Nat.sub_self, List.replicate_zero, List.nil_append, e]
        rw [← List.append_assoc, List.replicate_append_replicate]
      · refine ⟨left, (b, n - left) :: rs, ?_, by simp⟩
        rw [Nat.min_eq_right (by omega), Nat.sub_self, flipN_zero]; simp
    · have : b = !old := by cases b <;> cases old <;> simp_all
      subst this
      obtain ⟨t, rest, e, hl⟩ := mov_runs old rs left
      refine ⟨n + t, rest, ?_, by simp; omega⟩
      rw [flat_cons, flipN_rep_other, e, ← List.append_assoc, List.replicate_append_replicate]
theorem mov_len {bs : List Bool} {w : Int} : (wd (movL bs w)).2.length ≤ (wd bs).2.length + 1 := by
  obtain ⟨t, rest, e, hl⟩ := mov_runs (decide (w < 0)) (rle bs) w.natAbs
  rw [flat_rle] at e
  unfold movL
  rw [e, show List.replicate t (!decide (w < 0)) ++ flat rest = flat (((!decide (w < 0)), t) :: rest) by simp]
  have := wd_flat_len (((!decide (w < 0)), t) :: rest)
  rw [rle_length] at hl
  rw [List.length_cons] at this; omega
theorem runs_of_ev {b : Bool} {ns : List Nat} {st : Store} (hl : ns.length ≤ 10 ^ 6) : F_runs_of [encW b ns] st = .ok (.ref st.length) (st ++ [.lst ((alt b ns).map encR)]) := by
  refine (fn_rt (st' := st ++ [.lst ((alt b ns).map encR)]) (d := .ref st.length) ?_).trans swept_new
  simp only [b_runs_of, xRet_ev]
  rw [sLc_itsA ofN (fun k => encR ((alt b ns).getD k (false, 0))) (List.range ns.length) ?_ ?_ ?_]
  · simp only [thn_ok']
    congr 4
    apply List.ext_getElem?
    intro i
    by_cases hi : i < ns.length
    · simp [hi, List.getElem?_eq_getElem]
    · rw [List.getElem?_eq_none (by simp; omega), List.getElem?_eq_none (by simp; omega)]
  · simp [encW, rangeD_zero, show -4611686018427387904 ≤ (ns.length : Int) ∧ (ns.length : Int) < 4611686018427387904 by omega]
  · simp; have := sizeLine_eq; omega
  · intro i hi
    have hi := List.mem_range.mp hi
    refine ⟨_, rfl, ?_⟩
    have e : ns[i]? = some ns[i] := List.getElem?_eq_getElem hi
    have e2 := alt_get (b := b) e
    simp [ofN, encW, e, encN, bi_mod, List.getD_eq_getElem?_getD, e2, encR]
def WoI (st : Store) (n : Nat) (rs V : List Run) (ys : List Run) (ρ : Envr) (s : Store) : Prop :=
  ∃ (t : List Run) (l2 l3 : Option D), ρ = [some (.ref n), some (.ref st.length), l2, l3] ∧ s = st ++ [.lst (t.map encR)] ∧ ys.foldl addRun t = V ∧ t.length + ys.length ≤ rs.length
theorem truth_push {st : Store} {xs : List D} : truth (.ref st.length) (st ++ [.lst xs]) = some (!xs.isEmpty) := by simp [truth]
theorem word_of_runs_ev {n : Nat} {rs : List Run} {st : Store} (h : st[n]? = some (.lst (rs.map encR))) (hl : rs.length ≤ 10 ^ 5) : F_word_of_runs [.ref n] st = .ok (wdD (flat rs)) st := by
  refine fn_eq ?_
  have hsl := sizeLine_eq
  simp [b_word_of_runs, -sLc_ev, srcOf_of (get_push h)]
  refine wp_for (enc := encR) (xs := rs) (WoI st n rs (mkRuns rs)) ⟨[], none, none, rfl, by simp, rfl, by simp⟩ ?_ ?_
  · rintro ρ s ⟨t, l2, l3, rfl, rfl, e, hs⟩
    simp at e
    subst e
    refine ⟨get_push h, ?_⟩
    have e2 : wdD (flat rs) = encW (headB (mkRuns rs)) ((mkRuns rs).map Prod.snd) := by unfold wdD wd; rw [rle_flat]
    rw [e2]
    generalize mkRuns rs = t at hs
    have eL := sLc_all (f := iSeq (sVar 1)) (t := .tp [.nm 2, .nm 3]) (elt := sVar 3) (vs := [2, 3]) (ρ := [some (.ref n), some (.ref st.length), l2, l3]) (st := st ++ [.lst (t.map encR)]) (src := .lst st.length (t.map encR)) (st1 := st ++ [.lst (t.map encR)]) encR (fun r => .int r.2) t (by simp [srcOf_of get_a0]) rfl (by simp) (fun x _ => ⟨_, by simp [encR]; rfl, by simp⟩) (by simp at hs; omega)
    cases t with
    | nil => simp [-sLc_ev, truth_push] at eL ⊢; simp [-sLc_ev, eL, bTuple_ref get_a1, encW, headB, bi, encN]
    | cons r t =>
      have hR : encR r = .tup [.int (bi r.1), .int r.2] := rfl
      simp only [List.map_cons, hR] at eL ⊢
      simp [-sLc_ev, truth_push, eL, bTuple_ref get_a1, encW, headB, encN, Function.comp_def]
  · rintro ⟨c, m⟩ ys ρ s hx ⟨t, l2, l3, rfl, rfl, e, hs⟩
    refine ⟨get_push h, _, by simp [encR]; rfl, ?_⟩
    simp at e hs
    by_cases hm : m = 0
    · subst hm
      simp
      exact ⟨t, _, _, rfl, rfl, by rw [← e, addRun_zero], by omega⟩
    · have hm' : ¬ ((m : Int) = 0) := by omega
      rcases List.eq_nil_or_concat t with rfl | ⟨t, ⟨b, l⟩, rfl⟩
      · simp [hm, truth_push, isLst]
        rw [mAppend_ev get_a0 (by simp)]
        simp
        exact ⟨[(c, m)], _, _, rfl, by simp [encR], by rw [← e, addRun_nil hm], by simp; omega⟩
      · rw [List.concat_eq_append] at e hs ⊢
        have hE : (List.map encR (t ++ [(b, l)])) = List.map encR t ++ [.tup [.int (bi b), .int l]] := by simp [encR]
        have hne : (List.map encR t ++ [D.tup [.int (bi b), .int l]]).isEmpty = false := by simp
        simp at hs
        rw [hE]
        have hix : ixN ((List.map encR t ++ [D.tup [D.int (bi b), D.int ↑l]]).length) (-1) = some t.length := by
          rw [List.length_append, List.length_singleton, ixN_last]; simp
        by_cases hb : b = c
        · subst hb
          simp [hm, truth_push, isLst, ixN_last]
          refine ⟨t ++ [(b, l + m)], _, _, rfl, ?_, by rw [← e, addRun_snoc hm, if_pos rfl], by simp; omega⟩
          simp [encR]
        · have hb' : ¬ (bi b = bi c) := fun q => hb (bi_inj.mp q)
          simp [hm, truth_push, isLst, hb']
          rw [mAppend_ev get_a0 (by simp; omega)]
          simp
          refine ⟨t ++ [(b, l), (c, m)], _, _, rfl, ?_, by rw [← e, addRun_snoc hm, if_neg hb], by simp; omega⟩
          simp [encR]
end Ap

/-! words: ==, and the length -/
namespace Ap
open PySem L2 L3
theorem pyOf_int {n : Nat} {st : Store} {i : Int} : pyOf (n + 1) st (.int i) = some (.int i) := rfl
theorem pyOf_tup {n : Nat} {st : Store} {xs : List D} : pyOf (n + 1) st (.tup xs) = (pyAll (pyOf n st) xs).map .tuple := rfl
theorem pyAll_ints {n : Nat} {st : Store} : ∀ (xs : List Int), pyAll (pyOf (n + 1) st) (xs.map D.int) = some (xs.map PyData.int)
  | [] => rfl
  | x :: xs => by simp only [List.map_cons, pyAll, pyAll_ints xs, pyOf_int]
theorem eqvAll_ints : ∀ (xs ys : List Int), PyData.eqvAll (xs.map PyData.int) (ys.map PyData.int) = decide (xs = ys)
  | [], [] => by simp [PyData.eqvAll]
  | [], y :: ys => by simp [PyData.eqvAll]
  | x :: xs, [] => by simp [PyData.eqvAll]
  | x :: xs, y :: ys => by
    simp only [List.map_cons, PyData.eqvAll, PyData.eqv, eqvAll_ints xs ys]
    by_cases h : x = y
    · subst h; simp
    · simp [h]
theorem encN_ints (ns : List Nat) : ns.map encN = (ns.map Int.ofNat).map D.int := by simp [encN, Function.comp_def]
theorem pyOf_W {st : Store} {b : Bool} {ns : List Nat} {k : Nat} : pyOf (k + 3) st (encW b ns) = some (.tuple [.int (bi b), .tuple ((ns.map Int.ofNat).map PyData.int)]) := by
  unfold encW
  rw [encN_ints]
  simp only [pyOf_tup, pyOf_int, pyAll, pyAll_ints, Option.map_some]
theorem ofNat_inj : ∀ {a b : List Nat}, a.map Int.ofNat = b.map Int.ofNat ↔ a = b
  | [], [] => by simp
  | [], y :: ys => by simp
  | x :: xs, [] => by simp
  | x :: xs, y :: ys => by
    have := ofNat_inj (a := xs) (b := ys)
    simp only [List.map_cons, List.cons.injEq, this]
    constructor
    · rintro ⟨h1, h2⟩; exact ⟨Int.ofNat.inj h1, h2⟩
    · rintro ⟨h1, h2⟩; exact ⟨by rw [h1], h2⟩
theorem wd_inj {a b : List Bool} : wd a = wd b ↔ a = b := by
  constructor
  · intro h
    rw [← flat_wd a, ← flat_wd b, h]
  · rintro rfl; rfl
theorem vEq_wd {a b : List Bool} {st : Store} : vEq (wdD a) (wdD b) st = .ok (.bl (decide (a = b))) st := by
  have e : eqB st (wdD a) (wdD b) = some (decide (a = b)) := by
    have e1 : eqB st (wdD a) (wdD b) = (match pyOf 9 st (wdD a), pyOf 9 st (wdD b) with
      | some a, some b => some (PyData.eqv a b)
      | _, _ => none) := rfl
    rw [e1, show wdD a = encW (wd a).1 (wd a).2 from rfl, show wdD b = encW (wd b).1 (wd b).2 from rfl, pyOf_W (k := 6), pyOf_W (k := 6)]
    simp only [PyData.eqv, PyData.eqvAll, eqvAll_ints, ofNat_inj, Bool.and_true]
    congr 1
    have : (wd a).1 = (wd b).1 ∧ (wd a).2 = (wd b).2 ↔ a = b := by rw [← wd_inj, Prod.ext_iff]
    by_cases h : a = b
    · subst h; simp
    · rw [decide_eq_false h]
      have h2 : ¬ ((wd a).1 = (wd b).1 ∧ (wd a).2 = (wd b).2) := fun q => h (this.mp q)
      by_cases h3 : (wd a).1 = (wd b).1
      · have : ¬ (wd a).2 = (wd b).2 := fun q => h2 ⟨h3, q⟩
        simp [h3, this]
      · have : ¬ bi (wd a).1 = bi (wd b).1 := fun q => h3 (bi_inj.mp q)
        simp [this]
  unfold vEq
  rw [e]
theorem vNe_wd {a b : List Bool} {st : Store} : vNe (wdD a) (wdD b) st = .ok (.bl (!decide (a = b))) st := by
  have h := vEq_wd (a := a) (b := b) (st := st)
  unfold vEq at h
  unfold vNe
  cases e : eqB st (wdD a) (wdD b) with
  | none => rw [e] at h; cases h
  | some x => rw [e] at h; cases h; rfl
theorem vIx_wd1 {bs : List Bool} {st : Store} : vIx (wdD bs) (.int 1) st = .ok (.tup ((wd bs).2.map encN)) st := by simp [wdD, encW]
theorem vIx_wd0 {bs : List Bool} {st : Store} : vIx (wdD bs) (.int 0) st = .ok (.int (bi (wd bs).1)) st := by simp [wdD, encW]
theorem sum_ofNat (ns : List Nat) : (ns.map Int.ofNat).sum = (ns.sum : Nat) := by
  induction ns with
  | nil => rfl
  | cons n ns ih => simp [ih]
end Ap

namespace Ap
open PySem L2 L3
theorem word_length_ev {bs : List Bool} {st : Store} : F_word_length [wdD bs] st = .ok (.int bs.length) st := by
  refine (fn_rt (st' := st) (d := .int bs.length) ?_).trans swept_same
  simp [b_word_length, vIx_wd1]
  rw [encN_ints, bSum_tup, sum_ofNat, wd_sum]
  rfl
end Ap

/-! words: cut_runs, many_of -/
namespace Ap
open PySem L2 L3
/-- the runs of the first so many letters -/
def cutR : List Run → Nat → List Run
  | [], _ => []
  | (b, n) :: rs, m => if min n m = 0 then cutR rs m else (b, min n m) :: cutR rs (m - min n m)
theorem cutR_zero : ∀ (rs : List Run), cutR rs 0 = []
  | [] => rfl
  | (b, n) :: rs => by simp [cutR, cutR_zero rs]
theorem flat_cutR : ∀ (rs : List Run) (m : Nat), flat (cutR rs m) = (flat rs).take m
  | [], m => by simp [cutR]
  | (b, n) :: rs, m => by
    unfold cutR
    split
    · rename_i h
      rw [flat_cutR rs m, flat_cons]
      rcases (show n = 0 ∨ m = 0 by omega) with rfl | rfl <;> simp
    · rw [flat_cons, flat_cons, flat_cutR rs, List.take_append, List.take_replicate, List.length_replicate, Nat.min_comm]
      congr 2
      omega
theorem cutR_len : ∀ (rs : List Run) (m : Nat), (cutR rs m).length ≤ rs.length
  | [], m => by simp [cutR]
  | (b, n) :: rs, m => by
    unfold cutR
    split
    · have := cutR_len rs m; simp; omega
    · have := cutR_len rs (m - min n m); simp; omega
/-- how many runs parts of words have -/
theorem nr_append {a b : List Bool} : (wd (a ++ b)).2.length ≤ (wd a).2.length + (wd b).2.length := by
  have := wd_flat_len (rle a ++ rle b)
  rw [flat_append, flat_rle, flat_rle, List.length_append, rle_length, rle_length] at this
  exact this
theorem nr_take {a : List Bool} {k : Nat} : (wd (a.take k)).2.length ≤ (wd a).2.length := by
  have h1 := wd_flat_len (cutR (rle a) k)
  have h2 := cutR_len (rle a) k
  rw [flat_cutR, flat_rle] at h1
  rw [rle_length] at h2
  omega
theorem flat_reverse : ∀ (rs : List Run), flat rs.reverse = (flat rs).reverse
  | [] => rfl
  | r :: rs => by rw [List.reverse_cons, flat_append, flat_reverse rs]; simp
theorem nr_reverse {a : List Bool} : (wd a.reverse).2.length ≤ (wd a).2.length := by
  have h1 := wd_flat_len (rle a).reverse
  rw [flat_reverse, flat_rle, List.length_reverse, rle_length] at h1
  exact h1
theorem nr_drop {a : List Bool} {k : Nat} : (wd (a.drop k)).2.length ≤ (wd a).2.length := by
  have h1 := nr_reverse (a := (a.drop k).reverse)
  have h2 := nr_take (a := a.reverse) (k := a.length - k)
  have h3 := nr_reverse (a := a)
  rw [List.reverse_reverse, List.reverse_drop] at h1
  omega
def CuI (bs : List Bool) (m : Int) (st : Store) (V : List Run) (ys : List Run) (ρ : Envr) (s : Store) : Prop :=
  ∃ (left : Nat) (told : List Run) (l4 l5 l6 : Option D), ρ = [some (wdD bs), some (.int m), some (.ref st.length), some (.int left), l4, l5, l6] ∧ s = st ++ [.lst (told.map encR), .lst ((rle bs).map encR)] ∧ told ++ cutR ys left = V ∧ told.length + ys.length ≤ (rle bs).length ∧ ∀ d, some d ∈ [l4, l5, l6] → d.low 0 = true
theorem cut_runs_ev {bs : List Bool} {m : Nat} {st : Store} (hl : (wd bs).2.length ≤ 10 ^ 4) : F_cut_runs [wdD bs, .int m] st = .ok (.ref st.length) (st ++ [.lst ((cutR (rle bs) m).map encR)]) := by
  have hrl := rle_length bs
  refine fn_eq ?_
  simp [b_cut_runs]
  refine wps_xswpT ?_
  have er := runs_of_ev (b := (wd bs).1) (ns := (wd bs).2) (st := st ++ [.lst []]) (by omega)
  rw [← rle_alt] at er
  simp only [List.length_append, List.length_singleton, List.append_assoc, List.cons_append, List.nil_append] at er
  simp [show F_runs_of [wdD bs] (st ++ [SO.lst []]) = _ from er, srcOf_of get_a1]
  refine wp_for (enc := encR) (xs := rle bs) (CuI bs m st (cutR (rle bs) m)) ⟨m, [], none, none, none, rfl, by simp, by simp, by simp, by simp⟩ ?_ ?_
  · rintro ρ s ⟨left, told, l4, l5, l6, rfl, rfl, e, hs, hlow⟩
    simp [cutR] at e
    subst e
    refine ⟨get_a1, ⟨by simp, fun d hd => ?_, ?_⟩, ?_⟩
    · simp only [List.mem_cons, Option.some.injEq, List.not_mem_nil, or_false] at hd
      rcases hd with rfl | rfl | rfl | rfl | hd
      · simp
      · simp
      · simp
      · simp
      · exact D.low_mono (Nat.zero_le _) d (hlow d (by simpa using hd))
    · exact below_1 (by simp only [SO.low]; exact lows_map (fun _ => encR_low) _)
    · rw [take_push1]
      simp
  · rintro ⟨b, n⟩ ys ρ s hx ⟨left, told, l4, l5, l6, rfl, rfl, e, hs, hlow⟩
    refine ⟨get_a1, _, by simp [encR]; rfl, ?_⟩
    simp at hs
    have hmin : min (n : Int) (left : Int) = ((min n left : Nat) : Int) := by omega
    have hsub : ((left : Int) - ((min n left : Nat) : Int)) = ((left - min n left : Nat) : Int) := by omega
    have hcut : cutR ((b, n) :: ys) left = if min n left = 0 then cutR ys left else (b, min n left) :: cutR ys (left - min n left) := rfl
    rw [hcut] at e
    have hkl : min n left ≤ left := by omega
    generalize min n left = k at hmin hsub e hkl
    by_cases h0 : k = 0
    · subst h0
      simp [hmin]
      exact ⟨left, told, _, _, _, rfl, rfl, by simpa using e, by omega, by simp⟩
    · have : 0 < k := by omega
      simp [hmin, hsub, this, isLst]
      rw [mAppend_ev get_a0 (by simp; omega)]
      simp [hsub]
      refine ⟨left - k, told ++ [(b, k)], _, _, _, rfl, by simp [encR], by rw [← e, if_neg h0]; simp, by simp; omega, by simp⟩
def isB (c : Bool) (r : Run) : Bool := decide (r.1 = c)
theorem many_of_ev {n : Nat} {rs : List Run} {c : Bool} {st : Store} (h : st[n]? = some (.lst (rs.map encR))) (hl : rs.length ≤ 10 ^ 5) : F_many_of [.ref n, .int (bi c)] st = .ok (.int ((flat rs).count c)) st := by
  have hsl := sizeLine_eq
  refine (fn_rt (st' := st) (d := .int ((flat rs).count c)) ?_).trans swept_same
  have eL := sLc_map (f := iSeq (sVar 0)) (t := .tp [.nm 2, .nm 3]) (test := sBool (s2 vEq (sVar 2) (sVar 1))) (elt := sVar 3) (vs := [2, 3]) (ρ := [some (.ref n), some (.int (bi c)), none, none]) (st := st) (src := .lst n (rs.map encR)) (st1 := st) encR (isB c) (fun r => .int r.2) rs (by simp [srcOf_of h]) rfl (by simpa using h) (fun x _ => ⟨_, by simp [encR]; rfl, by simp [isB, bi_inj], fun _ => by simp⟩) (by omega)
  simp [b_many_of, -sLc_ev, eL]
  have e : (rs.filter (isB c)).map (fun r => D.int r.2) = (((rs.filter (isB c)).map Prod.snd).map Int.ofNat).map D.int := by simp [Function.comp_def]
  rw [e, bSum_push, sum_ofNat]
  simp
  have : ((rs.filter (isB c)).map Prod.snd).sum = (flat rs).count c := by
    clear e eL h hl
    induction rs with
    | nil => rfl
    | cons r rs ih =>
      obtain ⟨b, m⟩ := r
      rw [flat_cons, List.count_append, List.count_replicate, List.filter_cons]
      by_cases hb : b = c
      · subst hb; simp [isB] at ih ⊢; try omega
      · have hb2 : ¬ (b == c) = true := by simpa using hb
        simp [isB, hb] at ih ⊢; try omega
  rw [this]
end Ap

/-! words: ends_of, both_ends, letters_by_ends, unlike_stretches -/
namespace Ap
open PySem L2 L3
def EnI (bs : List Bool) (st : Store) (ys : List Nat) (ρ : Envr) (s : Store) : Prop :=
  ∃ (told : List Nat) (past : Nat) (l3 : Option D), ρ = [some (wdD bs), some (.ref st.length), some (.int past), l3] ∧ s = st ++ [.lst (told.map encN)] ∧ told ++ endsF past ys = endsL bs ∧ told.length + ys.length = (wd bs).2.length
theorem ends_of_ev {bs : List Bool} {st : Store} (hl : (wd bs).2.length ≤ 10 ^ 4) : F_ends_of [wdD bs] st = .ok (.ref st.length) (st ++ [.lst ((endsL bs).map encN)]) := by
  refine fn_eq ?_
  simp [b_ends_of, vIx_wd1]
  refine wp_for (enc := encN) (xs := (wd bs).2) (EnI bs st) ⟨[], 0, none, rfl, by simp, rfl, by simp⟩ ?_ ?_
  · rintro ρ s ⟨told, past, l3, rfl, rfl, e, hs⟩
    refine ⟨trivial, ?_⟩
    simp [endsF] at e
    subst e
    simp
  · rintro n ys ρ s hx ⟨told, past, l3, rfl, rfl, e, hs⟩
    refine ⟨trivial, _, rfl, ?_⟩
    simp at hs
    have : vAddI (.int past) (encN n) (st ++ [.lst (told.map encN)]) = .ok (encN (past + n)) (st ++ [.lst (told.map encN)]) := by simp [encN]
    simp [this, isLst]
    rw [mAppend_ev get_a0 (by simp; omega)]
    simp
    exact ⟨told ++ [past + n], past + n, _, rfl, by simp, by rw [← e]; simp [endsF], by simp; omega⟩
def bothE (a b : List Bool) : List Nat := (sortU ((endsL a ++ endsL b).map Int.ofNat)).map Int.toNat
theorem bothE_mem {a b : List Bool} {e : Nat} : e ∈ bothE a b ↔ e ∈ endsL a ∨ e ∈ endsL b := by
  unfold bothE
  rw [List.mem_map]
  constructor
  · rintro ⟨k, hk, rfl⟩
    rw [sortU_mem, List.mem_map] at hk
    obtain ⟨j, hj, rfl⟩ := hk
    simpa using hj
  · intro h
    exact ⟨e, by rw [sortU_mem, List.mem_map]; exact ⟨e, by simpa using h, rfl⟩, by simp⟩
theorem bothE_nat {a b : List Bool} : (bothE a b).map Int.ofNat = sortU ((endsL a ++ endsL b).map Int.ofNat) := by
  unfold bothE
  rw [List.map_map]
  have : ∀ x ∈ sortU ((endsL a ++ endsL b).map Int.ofNat), (Int.ofNat ∘ Int.toNat) x = x := fun x hx => by
    rw [sortU_mem, List.mem_map] at hx
    obtain ⟨j, _, rfl⟩ := hx
    rfl
  rw [List.map_congr_left this]; simp
theorem bothE_asc (a b : List Bool) : (bothE a b).Pairwise (· < ·) := by
  have h := sortU_asc ((endsL a ++ endsL b).map Int.ofNat)
  rw [← bothE_nat, List.pairwise_map] at h
  exact h.imp fun h => by simpa using h
theorem sortU_len (ns : List Int) : (sortU ns).length ≤ ns.length := by
  have h1 : ∀ (k : Int) (xs : List Int), (insU k xs).length ≤ xs.length + 1 := by
    intro k xs
    induction xs with
    | nil => simp [insU]
    | cons x xs ih =>
      unfold insU
      split
      · simp
      · split <;> simp; omega
  induction ns with
  | nil => simp [sortU]
  | cons n ns ih =>
    have := h1 n (sortU ns)
    show (insU n (sortU ns)).length ≤ _
    simp; omega
theorem bothE_len (a b : List Bool) : (bothE a b).length ≤ (wd a).2.length + (wd b).2.length := by
  have := sortU_len ((endsL a ++ endsL b).map Int.ofNat)
  unfold bothE
  rw [List.length_map]
  simp [endsL, endsF_len] at this ⊢
  exact this
theorem both_ends_ev {a b : List Bool} {st : Store} (ha : (wd a).2.length ≤ 1990) (hb : (wd b).2.length ≤ 1990) : ∃ n s, F_both_ends [wdD a, wdD b] st = .ok (.ref n) s ∧ Keep st s ∧ st.length ≤ n ∧ s[n]? = some (.lst ((bothE a b).map encN)) := by
  have ea := ends_of_ev (bs := a) (st := st) (by omega)
  have eb := ends_of_ev (bs := b) (st := st ++ [.lst ((endsL a).map encN)]) (by omega)
  simp at eb
  have ev := vAdd_lst (st := st ++ [.lst ((endsL a).map encN), .lst ((endsL b).map encN)]) (n := st.length) (m := st.length + 1) (xs := (endsL a).map encN) (ys := (endsL b).map encN) get_a0 get_a1 (by simp [endsL, endsF_len]; omega)
  simp at ev
  have es : (endsL a).map encN ++ (endsL b).map encN = ((endsL a ++ endsL b).map Int.ofNat).map D.int := by rw [← List.map_append, encN_ints]
  rw [es] at ev
  have e4 : vSrtS (.ref (st.length + 2)) (st ++ [.lst ((endsL a).map encN), .lst ((endsL b).map encN), .lst (((endsL a ++ endsL b).map Int.ofNat).map D.int)]) = .ok (.ref (st.length + 3)) (st ++ [.lst ((endsL a).map encN), .lst ((endsL b).map encN), .lst (((endsL a ++ endsL b).map Int.ofNat).map D.int), .lst ((bothE a b).map encN)]) := by
    unfold vSrtS
    simp only [lstOf, get_a2, Option.bind_some, intsOf_map]
    rw [if_pos (by simp [endsL, endsF_len]; omega), ← bothE_nat]
    simp [encN, Function.comp_def]
  generalize hx : ((endsL a ++ endsL b).map Int.ofNat).map D.int = xs at ev e4
  refine ⟨st.length + 3, st ++ [.lst ((endsL a).map encN), .lst ((endsL b).map encN), .lst xs, .lst ((bothE a b).map encN)], (fn_rt (st' := st ++ [.lst ((endsL a).map encN), .lst ((endsL b).map encN), .lst xs, .lst ((bothE a b).map encN)]) (d := .ref (st.length + 3)) ?_).trans (swept_ref (by omega)), .app, by omega, at_3 rfl⟩
  simp [b_both_ends, ea, eb, ev, e4]
def LtI (bs : List Bool) (n : Nat) (es : List Nat) (st : Store) (ys : List Nat) (ρ : Envr) (s : Store) : Prop :=
  ∃ (told : List Nat) (i past before : Nat) (l6 : Option D), ρ = [some (wdD bs), some (.ref n), some (.ref st.length), some (.ref (st.length + 1)), some (.int i), some (.int past), l6] ∧
    s = st ++ [.lst (told.map fun e => .int (bi (lat bs e))), .lst ((rle bs).map encR)] ∧ told ++ ys = es ∧ past = psum (rle bs) i ∧ (rle bs ≠ [] → i < (rle bs).length) ∧ past ≤ before ∧ (∀ y ∈ ys, before < y ∧ y ≤ bs.length) ∧ ys.Pairwise (· < ·)
def WlI (bs : List Bool) (n : Nat) (st S : Store) (y : Nat) (m : Nat) (ρ : Envr) (s : Store) : Prop :=
  ∃ (i past : Nat), ρ = [some (wdD bs), some (.ref n), some (.ref st.length), some (.ref (st.length + 1)), some (.int i), some (.int past), some (encN y)] ∧ s = S ∧ past = psum (rle bs) i ∧ i < (rle bs).length ∧ past < y ∧ m = (rle bs).length - i
theorem letters_by_ends_ev {bs : List Bool} {n : Nat} {es : List Nat} {st : Store} (hl : (wd bs).2.length ≤ 10 ^ 4) (h : st[n]? = some (.lst (es.map encN))) (hs : es.Pairwise (· < ·)) (hb : ∀ e ∈ es, 1 ≤ e ∧ e ≤ bs.length) (hel : es.length ≤ 10 ^ 5) :
    F_letters_by_ends [wdD bs, .ref n] st = .ok (.ref st.length) (st ++ [.lst (es.map fun e => .int (bi (lat bs e))), .lst ((rle bs).map encR)]) := by
  have hrl := rle_length bs
  refine fn_eq ?_
  have er := runs_of_ev (b := (wd bs).1) (ns := (wd bs).2) (st := st ++ [.lst []]) (by omega)
  rw [← rle_alt] at er
  simp only [List.length_append, List.length_singleton, List.append_assoc, List.cons_append, List.nil_append] at er
  simp [b_letters_by_ends, show F_runs_of [wdD bs] (st ++ [SO.lst []]) = _ from er, srcOf_of (get_push h)]
  refine wp_for (enc := encN) (xs := es) (LtI bs n es st) ⟨[], 0, 0, 0, none, rfl, by simp, rfl, by simp [psum], fun q => List.length_pos_iff.mpr q, by omega, fun y hy => by have := hb y hy; omega, hs⟩ ?_ ?_
  · rintro ρ s ⟨told, i, past, before, l6, rfl, rfl, e, hp, hi, hbf, hy, hasc⟩
    refine ⟨get_push h, ?_⟩
    simp at e
    subst e
    simp
  · rintro y ys ρ s hx ⟨told, i, past, before, l6, rfl, rfl, e, hp, hi, hbf, hy, hasc⟩
    refine ⟨get_push h, _, rfl, ?_⟩
    have hy1 := hy y (by simp)
    have hpw := List.pairwise_cons.mp hasc
    have hne : rle bs ≠ [] := by
      intro q
      have := congrArg List.length (flat_rle bs)
      rw [q] at this
      simp at this
      omega
    simp
    refine wps_while (WlI bs n st (st ++ [.lst (told.map fun e => .int (bi (lat bs e))), .lst ((rle bs).map encR)]) y) ?_ _ ((rle bs).length - i) _ _ (by omega) ⟨i, past, rfl, rfl, hp, hi hne, by omega, rfl⟩
    rintro m ρ s ⟨i, past, rfl, rfl, hp, hi, hpy, rfl⟩
    have hr : ((rle bs).map encR)[i]? = some (encR (rle bs)[i]) := by simp [hi]
    have hsu := psum_succ hi
    simp [hr, encR, get_a1, encN]
    by_cases hc : past + (rle bs)[i].2 < y
    · have hc' : (past : Int) + ((rle bs)[i].2 : Int) < (y : Int) := by omega
      simp [hc', hr, get_a1, encR]
      refine ⟨(rle bs).length - (i + 1), by omega, i + 1, past + (rle bs)[i].2, by simp [encN], rfl, by rw [hsu, hp], ?_, hc, rfl⟩
      rcases Nat.lt_or_ge (i + 1) (rle bs).length with h | h
      · exact h
      · have := psum_all h
        rw [flat_rle] at this
        omega
    · have hc' : ¬ ((past : Int) + ((rle bs)[i].2 : Int) < (y : Int)) := by omega
      have hg := flat_get (k := y - 1) hi (by omega) (by omega)
      rw [flat_rle] at hg
      have hlat : lat bs y = (rle bs)[i].1 := by
        unfold lat
        rw [List.getD_eq_getElem?_getD, hg]; rfl
      simp [hc', hr, get_a1, encR, isLst]
      rw [mAppend_ev get_a0 (by have := congrArg List.length e; simp at this ⊢; omega)]
      simp
      exact ⟨told ++ [y], i, past, y, some (.int y), rfl, by simp [hlat], by rw [← e]; simp, hp, fun _ => hi, by omega, fun z hz => ⟨hpw.1 z hz, (hy z (by simp [hz])).2⟩, hpw.2⟩
def encP (p : Nat × Nat) : D := .tup [.int p.1, .int p.2]
def befE (bf : Nat) (es : List Nat) : Nat → Nat
  | 0 => bf
  | j + 1 => es.getD j 0
theorem befE_cons {bf e : Nat} {es : List Nat} {i : Nat} : befE bf (e :: es) (i + 1) = befE e es i := by cases i <;> simp [befE]
theorem strF_snoc {a b : List Bool} : ∀ (es : List Nat) (bf i : Nat), i < es.length → strF a b bf (es.take (i + 1)) = strF a b bf (es.take i) ++ (if lat a (es.getD i 0) = lat b (es.getD i 0) then [] else [(befE bf es i + 1, es.getD i 0)])
  | [], _, _, h => by simp at h
  | e :: es, bf, 0, _ => by simp [strF, befE]
  | e :: es, bf, i + 1, h => by
    have ih := strF_snoc (a := a) (b := b) es e i (by simpa using h)
    rw [List.take_succ_cons, List.take_succ_cons]
    simp only [strF]
    have e1 : (e :: es).getD (i + 1) 0 = es.getD i 0 := by simp
    rw [e1, befE_cons]
    split
    · exact ih
    · rw [ih]; simp
def UsI (a b : List Bool) (k1 k2 k3 : Nat) (s0 : Store) (told0 : Nat) (es : List Nat) (i : Nat) (ρ : Envr) (s : Store) : Prop :=
  ∃ l6 : Option D, ρ = [some (wdD a), some (wdD b), some (.ref k1), some (.ref k2), some (.ref k3), some (.ref told0), l6] ∧ Keep s0 s ∧ s[told0]? = some (.lst ((strF a b 0 (es.take i)).map encP))
theorem unlike_ev {a b : List Bool} {st : Store} (ha : (wd a).2.length ≤ 1990) (hb : (wd b).2.length ≤ 1990) (hab : a.length = b.length) :
    ∃ n s, F_unlike_stretches [wdD a, wdD b] st = .ok (.ref n) s ∧ Keep st s ∧ st.length ≤ n ∧ s[n]? = some (.lst ((strF a b 0 (bothE a b)).map encP)) := by
  have key : wp (F_unlike_stretches [wdD a, wdD b] st) (fun d s => ∃ n, d = .ref n ∧ Keep st s ∧ st.length ≤ n ∧ s[n]? = some (.lst ((strF a b 0 (bothE a b)).map encP))) := by
    refine wp_fn ?_
    obtain ⟨n1, s1, e1, K1, h1, g1⟩ := both_ends_ev (st := st) ha hb
    have hasc := bothE_asc a b
    have hlen := bothE_len a b
    have hin : ∀ e ∈ bothE a b, 1 ≤ e ∧ e ≤ a.length := fun e he => by
      rcases bothE_mem.mp he with h | h
      · exact endsL_mem h
      · have := endsL_mem h; omega
    have e2 := letters_by_ends_ev (bs := a) (n := n1) (es := bothE a b) (st := s1) (by omega) g1 hasc hin (by omega)
    have e3 := letters_by_ends_ev (bs := b) (n := n1) (es := bothE a b) (st := s1 ++ [.lst ((bothE a b).map fun e => .int (bi (lat a e))), .lst ((rle a).map encR)]) (by omega) (get_push g1) hasc (fun e he => by have := hin e he; omega) (by omega)
    simp at e3
    have g1l : bLen [.ref n1] (s1 ++ [.lst ((bothE a b).map fun e => .int (bi (lat a e))), .lst ((rle a).map encR), .lst ((bothE a b).map fun e => .int (bi (lat b e))), .lst ((rle b).map encR), .lst []]) = .ok (.int (bothE a b).length) (s1 ++ [.lst ((bothE a b).map fun e => .int (bi (lat a e))), .lst ((rle a).map encR), .lst ((bothE a b).map fun e => .int (bi (lat b e))), .lst ((rle b).map encR), .lst []]) := by
      simp [bLen, get_push (more := _) g1]
    have hn62 : -4611686018427387904 ≤ ((bothE a b).length : Int) ∧ ((bothE a b).length : Int) < 4611686018427387904 := by omega
    simp [b_unlike_stretches, e1, e2, e3, g1l, hn62, rangeD_zero]
    have gA : (s1 ++ [SO.lst ((bothE a b).map fun e => .int (bi (lat a e))), .lst ((rle a).map encR), .lst ((bothE a b).map fun e => .int (bi (lat b e))), .lst ((rle b).map encR), .lst []])[s1.length]? = some (.lst ((bothE a b).map fun e => .int (bi (lat a e)))) := get_a0
    have gB : (s1 ++ [SO.lst ((bothE a b).map fun e => .int (bi (lat a e))), .lst ((rle a).map encR), .lst ((bothE a b).map fun e => .int (bi (lat b e))), .lst ((rle b).map encR), .lst []])[s1.length + 2]? = some (.lst ((bothE a b).map fun e => .int (bi (lat b e)))) := get_a2
    have gT : (s1 ++ [SO.lst ((bothE a b).map fun e => .int (bi (lat a e))), .lst ((rle a).map encR), .lst ((bothE a b).map fun e => .int (bi (lat b e))), .lst ((rle b).map encR)] ++ [SO.lst []])[s1.length + 4]? = some (.lst []) := by
      rw [show s1.length + 4 = (s1 ++ [SO.lst ((bothE a b).map fun e => .int (bi (lat a e))), .lst ((rle a).map encR), .lst ((bothE a b).map fun e => .int (bi (lat b e))), .lst ((rle b).map encR)]).length by simp]
      exact get_last
    obtain ⟨s0, hs0⟩ : ∃ s0, s0 = s1 ++ [SO.lst ((bothE a b).map fun e => .int (bi (lat a e))), .lst ((rle a).map encR), .lst ((bothE a b).map fun e => .int (bi (lat b e))), .lst ((rle b).map encR)] := ⟨_, rfl⟩
    have g0A : s0[s1.length]? = some (.lst ((bothE a b).map fun e => .int (bi (lat a e)))) := by rw [hs0]; exact get_a0
    have g0B : s0[s1.length + 2]? = some (.lst ((bothE a b).map fun e => .int (bi (lat b e)))) := by rw [hs0]; exact get_a2
    have g01 : s0[n1]? = some (.lst ((bothE a b).map encN)) := by rw [hs0]; exact get_push g1
    have h0l : s0.length = s1.length + 4 := by rw [hs0]; simp
    have K0 : Keep st s0 := by rw [hs0]; exact K1.push
    have hS : s1 ++ [SO.lst ((bothE a b).map fun e => .int (bi (lat a e))), .lst ((rle a).map encR), .lst ((bothE a b).map fun e => .int (bi (lat b e))), .lst ((rle b).map encR), .lst []] = s0 ++ [.lst []] := by rw [hs0]; simp
    rw [hS]
    generalize hE : bothE a b = es at *
    refine wp_forR (UsI a b n1 s1.length (s1.length + 2) s0 (s1.length + 4) es) ⟨none, rfl, .app, by rw [← h0l]; simp [strF]⟩ ?_ ?_
    · rintro ρ s ⟨l6, rfl, K, hg⟩
      rw [List.take_length] at hg
      simp
      have hk1 := K1.len
      rw [swept_ref (by omega), wp_ok]
      exact ⟨_, rfl, K0.trans K, by omega, hg⟩
    · rintro i ρ s hi ⟨l6, rfl, K, hg⟩
      refine ⟨_, rfl, ?_⟩
      have gi := K.get g0A
      have gj := K.get g0B
      have gk := K.get g01
      have hx : es.getD i 0 = es[i] := by rw [List.getD_eq_getElem?_getD, List.getElem?_eq_getElem hi]; rfl
      have hsn := strF_snoc (a := a) (b := b) es 0 i hi
      rw [hx] at hsn
      simp [gi, gj, hi]
      by_cases hq : lat a es[i] = lat b es[i]
      · rw [if_pos hq, List.append_nil] at hsn
        simp [hq]
        exact ⟨_, rfl, K, by rw [hsn, hg]⟩
      · have hq' : ¬ bi (lat a es[i]) = bi (lat b es[i]) := fun q => hq (bi_inj.mp q)
        rw [if_neg hq] at hsn
        simp [hq', isLst_of hg]
        have fin : ∀ f : Int, f = (befE 0 es i : Int) + 1 → wp (mAppend (s1.length + 4) [.tup [.int f, encN es[i]]] s) (fun _ st => UsI a b n1 s1.length (s1.length + 2) s0 (s1.length + 4) es (i + 1) [some (wdD a), some (wdD b), some (.ref n1), some (.ref s1.length), some (.ref (s1.length + 2)), some (.ref (s1.length + 4)), some (.int i)] st) := by
          intro f hf
          have hsl : (strF a b 0 (es.take i)).length ≤ es.length := by
            have : ∀ (ys : List Nat) (bf : Nat), (strF a b bf ys).length ≤ ys.length := by
              intro ys
              induction ys with
              | nil => intro bf; simp [strF]
              | cons y ys ih =>
                intro bf
                unfold strF
                split
                · have := ih y; simp; omega
                · have := ih y; simp; omega
            have := this (es.take i) 0
            rw [List.length_take] at this; omega
          rw [mAppend_ev hg (by simp; omega), wp_ok]
          refine ⟨_, rfl, K.set (by omega), ?_⟩
          rw [List.getElem?_set_self (lt_of_get hg), hsn]
          simp [encP, encN, hf]
        by_cases h0 : i = 0
        · subst h0
          simp [gk, hi]
          exact fin 1 rfl
        · obtain ⟨j, rfl⟩ : ∃ j, i = j + 1 := ⟨i - 1, by omega⟩
          have hj : j < es.length := by omega
          have e5 : ((j : Int) + 1 - 1) = j := by omega
          simp [gk, hi, e5, hj, encN]
          refine fin _ ?_
          simp [befE, List.getD_eq_getElem?_getD, hj]
  obtain ⟨d, s, e, n, rfl, h⟩ := wp_ex key
  exact ⟨n, s, e, h⟩
end Ap

/-! words: last_unlike -/
namespace Ap
open PySem L2 L3
theorem last_unlike_eq {a : List Bool} {st : Store} : F_last_unlike [wdD a, wdD a] st = .ok (.int 0) st := by
  refine (fn_rt (st' := st) (d := .int 0) ?_).trans swept_same
  simp [b_last_unlike, vEq_wd]
theorem last_unlike_ev {a b : List Bool} {st : Store} (ha : (wd a).2.length ≤ 1990) (hb : (wd b).2.length ≤ 1990) (hab : a.length = b.length) (hne : a ≠ b) :
    ∃ l : Nat, F_last_unlike [wdD a, wdD b] st = .ok (.int l) st ∧ 1 ≤ l ∧ l ≤ a.length ∧ (∀ k, l < k → k ≤ a.length → lat a k = lat b k) ∧ lat a l ≠ lat b l := by
  have hin : ∀ e ∈ bothE a b, 0 < e ∧ e ≤ a.length := fun e he => by
    rcases bothE_mem.mp he with h | h
    · have := endsL_mem h; omega
    · have := endsL_mem h; omega
  have hane : a ≠ [] := fun q => by
    subst q
    have : b = [] := List.length_eq_zero_iff.mp hab.symm
    exact hne this.symm
  rcases strF_first hab (bothE a b) 0 (bothE_asc a b) hin (fun e _ h => bothE_mem.mpr h) (fun k h1 h2 => by omega) (.inl (bothE_mem.mpr (.inl (endsL_last hane)))) with h | ⟨f, l, r, e, _⟩
  · exact absurd h.1 hne
  obtain ⟨n, s, e1, K, hn, g⟩ := unlike_ev (st := st) ha hb hab
  rcases List.eq_nil_or_concat (strF a b 0 (bothE a b)) with q | ⟨r', ⟨f', l'⟩, q⟩
  · rw [q] at e; simp at e
  rw [List.concat_eq_append] at q
  obtain ⟨h1, h2, h3⟩ := strF_last (bothE a b) 0 (bothE_asc a b) (fun e _ h => bothE_mem.mpr h) hin hab f' l' r' q
  have hl := hin l' h1
  refine ⟨l', (fn_rt (st' := st) (d := .int l') ?_).trans swept_same, by omega, hl.2, fun k k1 k2 => h3 k k1 k2 (bothE_mem.mpr (.inl (endsL_last hane))), h2⟩
  rw [q] at g
  have gx : vIx (.ref n) (.int (-1)) s = .ok (encP (f', l')) s := by
    rw [vIx_ref, g]
    simp only [List.map_append, List.map_cons, List.map_nil, L3.atI_last]
  simp [b_last_unlike, vEq_wd, hne, -vIx_ref, e1, gx]
  rw [K.swept (by simp [encP])]
  simp [encP]
end Ap

/-! words: ways, the plain part -/
namespace Ap
open PySem L2 L3
def sg (b : Bool) : Int := if b then 1 else -1
/-- ways back through letters, told from the last one on -/
def tailR : Bool → List Bool → List Int
  | _, [] => []
  | x, y :: ys => if y = x then tailR y ys else sg y * ((ys.length : Int) + 1) :: tailR y ys
@[simp] theorem tailR_nil {x : Bool} : tailR x [] = [] := rfl
@[simp] theorem tailR_same {x : Bool} {ys : List Bool} : tailR x (x :: ys) = tailR x ys := by simp [tailR]
theorem tailR_other {x : Bool} {ys : List Bool} : tailR x ((!x) :: ys) = sg (!x) * ((ys.length : Int) + 1) :: tailR (!x) ys := by cases x <;> simp [tailR]
theorem tailR_rep {x : Bool} {ys : List Bool} : ∀ n : Nat, tailR x (List.replicate n x ++ ys) = tailR x ys
  | 0 => rfl
  | n + 1 => by rw [List.replicate_succ, List.cons_append, tailR_same, tailR_rep n]
theorem movL_rep {y : Bool} {n : Nat} {X : List Bool} : movL (List.replicate n (!y) ++ X) (sg y * n) = List.replicate n y ++ X := by
  unfold movL
  cases y with
  | true =>
    have h1 : decide (sg true * (n : Int) < 0) = false := by simp [sg] <;> omega
    have h2 : (sg true * (n : Int)).natAbs = n := by simp [sg]
    rw [h1, h2, Bool.not_true, flipN_rep_same]
    simp
  | false =>
    by_cases hn : n = 0
    · subst hn; simp [sg]
    have h1 : decide (sg false * (n : Int) < 0) = true := by simp [sg] <;> omega
    have h2 : (sg false * (n : Int)).natAbs = n := by simp [sg]
    rw [h1, h2, Bool.not_false, flipN_rep_same]
    simp
theorem rep_snoc {α : Type} {x : α} {n : Nat} {Y : List α} : List.replicate (n + 1) x ++ Y = List.replicate n x ++ (x :: Y) := by
  rw [List.replicate_succ']; simp
theorem fold_tail : ∀ (r : List Bool) (x : Bool) (Y : List Bool), (tailR x r).foldl movL (List.replicate r.length x ++ Y) = r.reverse ++ Y
  | [], x, Y => by simp
  | y :: ys, x, Y => by
    by_cases h : y = x
    · subst h
      rw [tailR_same, List.length_cons, rep_snoc, fold_tail ys]
      simp
    · have : x = !y := by cases x <;> cases y <;> simp_all
      subst this
      have e : tailR (!y) (y :: ys) = sg y * ((ys.length : Int) + 1) :: tailR y ys := by have := tailR_other (x := !y) (ys := ys); simpa using this
      have m := movL_rep (y := y) (n := ys.length + 1) (X := Y)
      rw [show ((ys.length + 1 : Nat) : Int) = (ys.length : Int) + 1 by omega] at m
      rw [e, List.foldl_cons, List.length_cons, m, rep_snoc, fold_tail ys]
      simp
theorem sum_tail : ∀ (r : List Bool) (x : Bool), (tailR x r).sum = (r.count true : Int) - (if x then (r.length : Int) else 0)
  | [], x => by simp
  | y :: ys, x => by
    by_cases h : y = x
    · subst h
      rw [tailR_same, sum_tail ys]
      cases y <;> simp
      omega
    · have : x = !y := by cases x <;> cases y <;> simp_all
      subst this
      have e : tailR (!y) (y :: ys) = sg y * ((ys.length : Int) + 1) :: tailR y ys := by have := tailR_other (x := !y) (ys := ys); simpa using this
      rw [e, List.sum_cons, sum_tail ys]
      cases y <;> simp [sg] <;> omega
/-- the last place where letters are unlike, 0 if none -/
def lastU (a b : List Bool) : Nat → Nat
  | 0 => 0
  | k + 1 => if lat a (k + 1) = lat b (k + 1) then lastU a b k else k + 1
theorem lastU_eq {a b : List Bool} {l : Nat} (h1 : 1 ≤ l) (hd : lat a l ≠ lat b l) : ∀ {n : Nat}, l ≤ n → (∀ k, l < k → k ≤ n → lat a k = lat b k) → lastU a b n = l
  | 0, h, _ => by omega
  | n + 1, h, hs => by
    unfold lastU
    by_cases e : l = n + 1
    · subst e; rw [if_neg hd]
    · rw [if_pos (hs _ (by omega) (by omega)), lastU_eq h1 hd (by omega) fun k k1 k2 => hs k k1 (by omega)]
theorem lastU_same {a : List Bool} : ∀ {n : Nat}, lastU a a n = 0
  | 0 => rfl
  | n + 1 => by unfold lastU; rw [if_pos rfl, lastU_same]
theorem lastU_le {a b : List Bool} : ∀ {n : Nat}, lastU a b n ≤ n
  | 0 => Nat.le_refl _
  | n + 1 => by
    unfold lastU
    split
    · exact Nat.le_succ_of_le lastU_le
    · exact Nat.le_refl _
theorem lastU_past {a b : List Bool} : ∀ {n k : Nat}, lastU a b n < k → k ≤ n → lat a k = lat b k
  | 0, k, h1, h2 => by omega
  | n + 1, k, h1, h2 => by
    unfold lastU at h1
    split at h1
    · rename_i e
      by_cases hk : k = n + 1
      · subst hk; exact e
      · exact lastU_past h1 (by omega)
    · omega
theorem lat_get {a : List Bool} {k : Nat} (h : k < a.length) : a[k]? = some (lat a (k + 1)) := by
  unfold lat
  rw [List.getD_eq_getElem?_getD, Nat.add_sub_cancel, List.getElem?_eq_getElem h]; rfl
theorem drop_lat {a b : List Bool} {l : Nat} (hl : a.length = b.length) (h : ∀ k, l < k → k ≤ a.length → lat a k = lat b k) : a.drop l = b.drop l := by
  apply List.ext_getElem?
  intro i
  rw [List.getElem?_drop, List.getElem?_drop]
  by_cases hi : l + i < a.length
  · rw [lat_get hi, lat_get (by omega), h _ (by omega) (by omega)]
  · rw [List.getElem?_eq_none (by omega), List.getElem?_eq_none (by omega)]
def firstW (a : List Bool) (l : Nat) (c : Bool) : Int := sg c * ((a.take l).count (!c) : Nat)
def plainR (a b : List Bool) (l : Nat) : List Int := if l = 0 then [] else firstW a l (lat b l) :: tailR (lat b l) (b.take (l - 1)).reverse
def plainW (a b : List Bool) : List Int := plainR a b (lastU a b a.length)
theorem take_lat {b : List Bool} {k : Nat} (h : k < b.length) : b.take (k + 1) = b.take k ++ [lat b (k + 1)] := by
  rw [List.take_succ, lat_get h]; rfl
theorem movL_first {a : List Bool} {l : Nat} {c : Bool} : movL a (firstW a l c) = List.replicate (min l a.length) c ++ a.drop l := by
  have key : ∀ n : Nat, n = (a.take l).count (!c) → flipN (!c) n a = List.replicate (min l a.length) c ++ a.drop l := fun n hn => by
    conv => lhs; rw [← List.take_append_drop l a, flipN_append]
    rw [flipN_all _ _ _ (by omega), ← hn, Nat.sub_self, flipN_zero, List.length_take, Bool.not_not]
  unfold firstW movL
  cases c with
  | true =>
    have h1 : ∀ n : Nat, decide (sg true * (n : Int) < 0) = false := fun n => by simp [sg] <;> omega
    have h2 : ∀ n : Nat, (sg true * (n : Int)).natAbs = n := fun n => by simp [sg]
    rw [h1, h2]
    exact key _ rfl
  | false =>
    by_cases h0 : (a.take l).count true = 0
    · have := key 0 (by rw [Bool.not_false, h0])
      rw [Bool.not_false, h0]
      simpa using this
    have h1 : ∀ n : Nat, n ≠ 0 → decide (sg false * (n : Int) < 0) = true := fun n _ => by simp [sg] <;> omega
    have h2 : ∀ n : Nat, (sg false * (n : Int)).natAbs = n := fun n => by simp [sg]
    rw [Bool.not_false, h1 _ h0, h2]
    exact key _ rfl
theorem plainW_leads {a b : List Bool} (hl : a.length = b.length) : (plainW a b).foldl movL a = b ∧ (plainW a b).sum = (b.count true : Int) - a.count true := by
  unfold plainW
  have hle := lastU_le (a := a) (b := b) (n := a.length)
  have hd := drop_lat (l := lastU a b a.length) hl fun k k1 k2 => lastU_past k1 k2
  generalize lastU a b a.length = l at hle hd
  unfold plainR
  split
  · rename_i h
    subst h
    simp only [List.drop_zero] at hd
    subst hd
    simp
  · rename_i h
    obtain ⟨k, rfl⟩ : ∃ k, l = k + 1 := ⟨l - 1, by omega⟩
    have ht := take_lat (b := b) (k := k) (by omega)
    have hlen : (b.take k).reverse.length = k := by simp; omega
    have hb : b.take k ++ (lat b (k + 1) :: b.drop (k + 1)) = b := by
      conv => rhs; rw [← List.take_append_drop (k + 1) b, ht]
      simp
    constructor
    · rw [List.foldl_cons, movL_first, Nat.min_eq_left hle, hd, rep_snoc, Nat.add_sub_cancel]
      have := fold_tail (b.take k).reverse (lat b (k + 1)) (lat b (k + 1) :: b.drop (k + 1))
      rw [hlen, List.reverse_reverse, hb] at this
      exact this
    · rw [List.sum_cons, sum_tail, Nat.add_sub_cancel, hlen, List.count_reverse]
      have ca : a.count true = (a.take (k + 1)).count true + (a.drop (k + 1)).count true := by rw [← List.count_append, List.take_append_drop]
      have cb : b.count true = (b.take (k + 1)).count true + (b.drop (k + 1)).count true := by rw [← List.count_append, List.take_append_drop]
      have ct := count_tf (a.take (k + 1))
      have cl : (a.take (k + 1)).length = k + 1 := by simp; omega
      rw [ca, cb, ht, hd, List.count_append]
      unfold firstW
      cases hc : lat b (k + 1) <;> simp [sg] <;> omega
def waysR (a b : List Bool) (d : Int) : List Int :=
  if 0 < d - ((b.count true : Int) - a.count true) then ((a.count false : Int) + (d - ((b.count true : Int) - a.count true))) :: plainW (List.replicate a.length true) b
  else if d - ((b.count true : Int) - a.count true) < 0 then ((d - ((b.count true : Int) - a.count true)) - (a.count true : Int)) :: plainW (List.replicate a.length false) b
  else plainW a b
theorem movL_full {a : List Bool} {n : Int} (h : (a.count false : Int) ≤ n) : movL a n = List.replicate a.length true := by
  unfold movL
  rw [decide_eq_false (by omega), flipN_all _ _ _ (by omega)]
  rfl
theorem movL_empty {a : List Bool} {n : Int} (h : n < 0) (h2 : (a.count true : Int) ≤ -n) : movL a n = List.replicate a.length false := by
  unfold movL
  rw [decide_eq_true (by omega), flipN_all _ _ _ (by omega)]
  rfl
theorem waysR_leads {a b : List Bool} {d : Int} (hl : a.length = b.length) : (waysR a b d).foldl movL a = b ∧ (waysR a b d).sum = d := by
  have ct := count_tf a
  unfold waysR
  split
  · obtain ⟨h1, h2⟩ := plainW_leads (a := List.replicate a.length true) (b := b) (by simpa using hl)
    rw [List.foldl_cons, movL_full (by omega), List.sum_cons, h1, h2]
    refine ⟨rfl, ?_⟩
    rw [List.count_replicate_self]
    omega
  · split
    · obtain ⟨h1, h2⟩ := plainW_leads (a := List.replicate a.length false) (b := b) (by simpa using hl)
      rw [List.foldl_cons, movL_empty (by omega) (by omega), List.sum_cons, h1, h2]
      refine ⟨rfl, ?_⟩
      rw [List.count_replicate]
      simp
      omega
    · obtain ⟨h1, h2⟩ := plainW_leads hl
      exact ⟨h1, by omega⟩
theorem tailR_size : ∀ (r : List Bool) (x : Bool), (tailR x r).length ≤ r.length ∧ ∀ w ∈ tailR x r, w.natAbs ≤ r.length
  | [], x => by simp
  | y :: ys, x => by
    obtain ⟨h1, h2⟩ := tailR_size ys y
    unfold tailR
    split
    · exact ⟨by simp; omega, fun w hw => by have := h2 w hw; simp; omega⟩
    · refine ⟨by simp; omega, fun w hw => ?_⟩
      rcases List.mem_cons.mp hw with rfl | hw
      · cases y <;> simp [sg] <;> omega
      · have := h2 w hw; simp; omega
theorem plainW_size {a b : List Bool} (hl : a.length = b.length) : (plainW a b).length ≤ a.length ∧ ∀ w ∈ plainW a b, w.natAbs ≤ a.length := by
  unfold plainW plainR
  have hle := lastU_le (a := a) (b := b) (n := a.length)
  split
  · simp
  · obtain ⟨h1, h2⟩ := tailR_size (b.take (lastU a b a.length - 1)).reverse (lat b (lastU a b a.length))
    simp only [List.length_reverse, List.length_take] at h1 h2
    refine ⟨by simp; omega, fun w hw => ?_⟩
    rcases List.mem_cons.mp hw with rfl | hw
    · have := List.count_le_length (l := a.take (lastU a b a.length)) (a := !lat b (lastU a b a.length))
      have h3 : (a.take (lastU a b a.length)).length ≤ a.length := by simp; omega
      unfold firstW
      generalize (a.take (lastU a b a.length)).count (!lat b (lastU a b a.length)) = q at this
      cases lat b (lastU a b a.length) <;> simp [sg] <;> omega
    · have := h2 w hw; omega
theorem waysR_size {a b : List Bool} {d : Int} (hl : a.length = b.length) : (waysR a b d).length ≤ a.length + 1 ∧ ∀ w ∈ waysR a b d, w.natAbs ≤ 3 * a.length + d.natAbs := by
  have ct := count_tf a
  have ct2 := count_tf b
  unfold waysR
  split
  · obtain ⟨h1, h2⟩ := plainW_size (a := List.replicate a.length true) (b := b) (by simpa using hl)
    simp at h1 h2
    refine ⟨by simp; omega, fun w hw => ?_⟩
    rcases List.mem_cons.mp hw with rfl | hw
    · omega
    · have := h2 w hw; omega
  · split
    · obtain ⟨h1, h2⟩ := plainW_size (a := List.replicate a.length false) (b := b) (by simpa using hl)
      simp at h1 h2
      refine ⟨by simp; omega, fun w hw => ?_⟩
      rcases List.mem_cons.mp hw with rfl | hw
      · omega
      · have := h2 w hw; omega
    · obtain ⟨h1, h2⟩ := plainW_size hl
      exact ⟨by omega, fun w hw => by have := h2 w hw; omega⟩
/-- a way in two parts -/
theorem movL_two {a : List Bool} {w : Int} {f : Nat} (h : f ≤ w.natAbs) : movL (movL a ((if w < 0 then -1 else 1) * f)) (w - (if w < 0 then -1 else 1) * f) = movL a w := by
  by_cases hw : w < 0
  · rw [if_pos hw]
    by_cases hf : f = 0
    · subst hf; simp
    by_cases he : f = w.natAbs
    · have e0 : w - -1 * (f : Int) = 0 := by omega
      have e1 : -1 * (f : Int) = w := by omega
      rw [e0, e1, movL_zero]
    · unfold movL
      rw [decide_eq_true (by omega), decide_eq_true (by omega), decide_eq_true (by omega), flipN_add]
      congr 1; omega
  · rw [if_neg hw]
    unfold movL
    rw [decide_eq_false (by omega), decide_eq_false (by omega), decide_eq_false (by omega), flipN_add]
    congr 1; omega
end Ap

/-! words: letter_at, plain_ways, ways_of, way_between, least_way -/
namespace Ap
open PySem L2 L3
theorem cut_alt : ∀ (ns : List Nat) (c : Bool) (m : Nat), (∀ n ∈ ns, n ≠ 0) → ∃ ms : List Nat, (∀ n ∈ ms, n ≠ 0) ∧ ms.length ≤ ns.length ∧ cutR (alt c ns) m = alt c ms
  | [], c, m, _ => ⟨[], by simp, by simp, rfl⟩
  | n :: ns, c, m, h => by
    have hn : n ≠ 0 := h n (by simp)
    rw [alt_cons]
    unfold cutR
    by_cases hm : m = 0
    · rw [if_pos (by omega), hm, cutR_zero]
      exact ⟨[], by simp, by simp, rfl⟩
    · rw [if_neg (by omega)]
      obtain ⟨ms, h1, h2, h3⟩ := cut_alt ns (!c) (m - min n m) fun k hk => h k (by simp [hk])
      refine ⟨min n m :: ms, fun k hk => ?_, by simp; omega, by rw [h3]; rfl⟩
      rcases List.mem_cons.mp hk with rfl | hk
      · omega
      · exact h1 k hk
theorem cut_rle {b : List Bool} {l : Nat} : ∃ (c : Bool) (ms : List Nat), (∀ n ∈ ms, n ≠ 0) ∧ ms.length ≤ (wd b).2.length ∧ cutR (rle b) l = alt c ms ∧ flat (alt c ms) = b.take l := by
  obtain ⟨ms, h1, h2, h3⟩ := cut_alt (wd b).2 (wd b).1 l (wd_pos b)
  rw [← rle_alt] at h3
  exact ⟨_, ms, h1, h2, h3, by rw [← h3, flat_cutR, flat_rle]⟩
def ltr (b : Bool) (i : Nat) : Bool := if i % 2 = 0 then b else !b
theorem ltr_succ {b : Bool} {i : Nat} : ltr b (i + 1) = !ltr b i := by
  unfold ltr
  rcases Nat.mod_two_eq_zero_or_one i with h | h
  · rw [if_neg (by omega), if_pos h]
  · rw [if_pos (by omega), if_neg (by omega), Bool.not_not]
theorem alt_snoc {c : Bool} {ms : List Nat} {n : Nat} : alt c (ms ++ [n]) = alt c ms ++ [(ltr c ms.length, n)] := by rw [alt_append]; rfl
/-- the last letter of runs -/
theorem flat_snoc {c : Bool} {ms : List Nat} {n : Nat} (hn : n ≠ 0) : flat (alt c (ms ++ [n])) = flat (alt c ms) ++ List.replicate (n - 1) (ltr c ms.length) ++ [ltr c ms.length] := by
  obtain ⟨k, rfl⟩ : ∃ k, n = k + 1 := ⟨n - 1, by omega⟩
  rw [alt_snoc, flat_append, flat_cons, flat_nil, List.append_nil, List.replicate_succ']
  simp
theorem letter_at_ev {b : List Bool} {l : Nat} {st : Store} (hl : (wd b).2.length ≤ 10 ^ 4) (h1 : 1 ≤ l) (h2 : l ≤ b.length) : F_letter_at [wdD b, .int l] st = .ok (.int (bi (lat b l))) st := by
  obtain ⟨c, ms, hp, hn, e, ef⟩ := cut_rle (b := b) (l := l)
  have ht := take_lat (b := b) (k := l - 1) (by omega)
  rw [show l - 1 + 1 = l by omega] at ht
  rcases List.eq_nil_or_concat ms with rfl | ⟨ms, n, rfl⟩
  · rw [ht] at ef; simp at ef
  rw [List.concat_eq_append] at *
  rw [flat_snoc (hp n (by simp)), ht] at ef
  have hc : lat b l = ltr c ms.length := by
    have := congrArg List.getLast? ef
    rw [List.getLast?_concat, List.getLast?_concat] at this
    exact (Option.some.inj this).symm
  have ec := cut_runs_ev (bs := b) (m := l) (st := st) hl
  rw [e, alt_snoc, List.map_append] at ec
  refine (fn_rt (st' := st) (d := .int (bi (lat b l))) ?_).trans swept_same
  have gx : vIx (.ref st.length) (.int (-1)) (st ++ [.lst ((alt c ms).map encR ++ [encR (ltr c ms.length, n)])]) = .ok (encR (ltr c ms.length, n)) (st ++ [.lst ((alt c ms).map encR ++ [encR (ltr c ms.length, n)])]) := by
    rw [vIx_ref, get_last]
    simp only [L3.atI_last]
  simp only [List.map_cons, List.map_nil] at ec
  have g0 : ∀ s, vIx (encR (ltr c ms.length, n)) (.int 0) s = .ok (.int (bi (ltr c ms.length))) s := fun s => by simp [encR]
  have hlo : (encR (ltr c ms.length, n)).low 0 = true := by simp [encR]
  simp [b_letter_at, -vIx_ref, ec, gx, hlo, g0, hc]
def PwI (a b : List Bool) (l : Nat) (c0 : Bool) (ms : List Nat) (st : Store) (T : List Int) (S : Store) (ys : List Run) (ρ : Envr) (s : Store) : Prop :=
  ∃ (j : Nat) (acc : List Int) (l6 l7 : Option D), ρ = [some (wdD a), some (wdD b), some (.int l), some (.int (bi (lat b l))), some (.ref st.length), some (.int (flat (alt c0 (ms.take (j + 1)))).length), l6, l7] ∧ ys = ((alt c0 (ms.take (j + 1))).tail).reverse ∧ j < ms.length ∧
    s = st ++ .lst (acc.map .int) :: S ∧ acc.length + ys.length ≤ 10 ^ 4 ∧ acc ++ tailR (ltr c0 j) (flat (alt c0 (ms.take (j + 1)))).reverse = T ∧ (∀ d, l6 = some d ∨ l7 = some d → d.low 0 = true)
theorem flat_rev {c : Bool} {ms : List Nat} {n : Nat} : (flat (alt c (ms ++ [n]))).reverse = List.replicate n (ltr c ms.length) ++ (flat (alt c ms)).reverse := by
  rw [alt_snoc, flat_append, flat_cons, flat_nil, List.append_nil, List.reverse_append, List.reverse_replicate]
theorem plain_ways_ev {a b : List Bool} {st : Store} (ha : (wd a).2.length ≤ 1990) (hb : (wd b).2.length ≤ 1990) (hab : a.length = b.length) (hal : a.length ≤ 10 ^ 5) : F_plain_ways [wdD a, wdD b] st = .ok (.ref st.length) (st ++ [.lst ((plainW a b).map .int)]) := by
  refine fn_eq ?_
  by_cases hne : a = b
  · subst hne
    have e0 : plainW a a = [] := by unfold plainW plainR; rw [lastU_same, if_pos rfl]
    simp [b_plain_ways, last_unlike_eq, e0, -xFor_ev, -sSwp_ev]
  obtain ⟨l, el, h1, h2, h3, h4⟩ := last_unlike_ev (st := st) ha hb hab hne
  have eP : plainW a b = firstW a l (lat b l) :: tailR (lat b l) (b.take (l - 1)).reverse := by
    unfold plainW plainR
    rw [lastU_eq h1 h4 h2 h3, if_neg (by omega)]
  rw [eP]
  have hl0 : ¬ ((l : Int) = 0) := by omega
  obtain ⟨c, ms, hp, hn, e, ef⟩ := cut_rle (b := b) (l := l)
  have ht := take_lat (b := b) (k := l - 1) (by omega)
  rw [show l - 1 + 1 = l by omega] at ht
  have eL := letter_at_ev (b := b) (l := l) (st := st) (by omega) h1 (by omega)
  have ec := cut_runs_ev (bs := a) (m := l) (st := st) (by omega)
  have hcl := cutR_len (rle a) l
  rw [rle_length] at hcl
  have em := many_of_ev (n := st.length) (rs := cutR (rle a) l) (c := !lat b l) (st := st ++ [.lst ((cutR (rle a) l).map encR)]) get_last (by omega)
  rw [flat_cutR, flat_rle] at em
  have hbn : (1 : Int) - bi (lat b l) = bi (!lat b l) := by cases lat b l <;> rfl
  have hct : (a.take l).count (!lat b l) ≤ 10 ^ 5 := by
    have := List.count_le_length (l := a.take l) (a := !lat b l)
    have : (a.take l).length ≤ a.length := by simp; omega
    omega
  have hsg : ((a.take l).count (!lat b l) : Int) * (if bi (lat b l) = 1 then 1 else -1) = firstW a l (lat b l) := by
    unfold firstW
    cases lat b l <;> simp [sg, bi]
  have eml : ∀ x : Int, x = 1 ∨ x = -1 → ∀ s, vMul (.int ((a.take l).count (!lat b l) : Nat)) (.int x) s = .ok (.int (((a.take l).count (!lat b l) : Nat) * x)) s := fun x hx s => mul_ev (by omega) (by omega)
  have eI : ∀ ρ s, ρ[3]? = some (some (.int (bi (lat b l)))) → sIte (sBool (s2 vEq (sVar 3) (sC (.int 1)))) (sC (.int 1)) (s1 vNeg (sC (.int 1))) ρ s = .ok (.int (sg (lat b l))) s := fun ρ s h => by cases hb : lat b l <;> simp [h, hb, bi, sg]
  have hsg : ((a.take l).count (!lat b l) : Int) * sg (lat b l) = firstW a l (lat b l) := by
    unfold firstW
    rw [Int.mul_comm]
  simp [b_plain_ways, el, hl0, eL, ec, hbn, em, -xFor_ev, -vMul_int, -sIte_ev]
  rw [eI _ _ rfl, wp_ok, eml _ (show sg (lat b l) = 1 ∨ sg (lat b l) = -1 by cases lat b l <;> simp [sg]), wp_ok, hsg]
  refine ⟨by omega, ?_⟩
  have ec := cut_runs_ev (bs := b) (m := l) (st := st ++ [.lst [.int (firstW a l (lat b l))]]) (by omega)
  rw [e] at ec
  have hb0 : ∀ s, vBack0 (.ref (st.length + 1)) (st ++ .lst [.int (firstW a l (lat b l))] :: .lst ((alt c ms).map encR) :: s) = .ok (.ref ((st ++ .lst [.int (firstW a l (lat b l))] :: .lst ((alt c ms).map encR) :: s).length)) ((st ++ .lst [.int (firstW a l (lat b l))] :: .lst ((alt c ms).map encR) :: s) ++ [.lst (((alt c ms).drop 1).reverse.map encR)]) := fun s => by
    unfold vBack0
    simp only [get_a1]
    rw [← List.map_drop, ← List.map_reverse]
  refine wps_xswpT ?_
  simp at ec
  simp [ec, hb0, srcOf_of get_a2]
  obtain ⟨mm, n, hms⟩ : ∃ mm n, ms = mm ++ [n] := by
    rcases List.eq_nil_or_concat ms with rfl | ⟨mm, n, rfl⟩
    · rw [ht] at ef; simp at ef
    · exact ⟨mm, n, by rw [List.concat_eq_append]⟩
  have hmp : 0 < ms.length := by rw [hms]; simp
  have hnn : n ≠ 0 := hp n (by rw [hms]; simp)
  have hcl : ltr c (ms.length - 1) = lat b l := by
    have ef' := ef
    rw [hms, flat_snoc hnn, ht] at ef'
    have := congrArg List.getLast? ef'
    rw [List.getLast?_concat, List.getLast?_concat] at this
    rw [hms]
    simpa using Option.some.inj this
  have hll : (flat (alt c ms)).length = l := by rw [ef]; simp; omega
  have hxs : (List.map encR (alt c ms)).tail.reverse = ((alt c ms).tail.reverse).map encR := by rw [List.map_reverse, List.map_tail]
  have htk : ms.take (ms.length - 1 + 1) = ms := List.take_of_length_le (by omega)
  have hT0 : tailR (lat b l) (b.take l).reverse = tailR (lat b l) (b.take (l - 1)).reverse := by rw [ht, List.reverse_append]; simp
  rw [hxs]
  refine wp_for (enc := encR) (xs := (alt c ms).tail.reverse) (PwI a b l c ms st (firstW a l (lat b l) :: tailR (lat b l) (b.take (l - 1)).reverse) [SO.lst (List.map encR (alt c ms)), SO.lst (((alt c ms).tail.reverse).map encR)]) ⟨ms.length - 1, [firstW a l (lat b l)], none, none, by rw [htk, hll], by rw [htk], by omega, rfl, by simp; omega, by rw [htk, hcl, ef, hT0]; rfl, by simp⟩ ?_ ?_
  · rintro ρ s ⟨j, acc, l6, l7, rfl, hy, hj, rfl, hs, ha', hlow⟩
    have hj0 : j = 0 := by
      have := congrArg List.length hy
      simp at this
      omega
    subst hj0
    obtain ⟨m0, mr, rfl⟩ : ∃ m0 mr, ms = m0 :: mr := by
      cases ms with
      | nil => simp at hmp
      | cons x y => exact ⟨x, y, rfl⟩
    have hacc : acc = firstW a l (lat b l) :: tailR (lat b l) (b.take (l - 1)).reverse := by
      rw [← ha']
      have := tailR_rep (x := c) (ys := []) m0
      simp [ltr] at this ⊢
      exact this
    subst hacc
    refine ⟨get_a2, ⟨by simp, fun d hd => ?_, ?_⟩, ?_⟩
    · simp only [List.mem_cons, Option.some.injEq, List.not_mem_nil, or_false] at hd
      rcases hd with rfl | rfl | rfl | rfl | rfl | rfl | hd | hd
      · simp
      · simp
      · simp
      · simp
      · simp
      · simp
      · exact D.low_mono (Nat.zero_le _) d (hlow d (.inl hd.symm))
      · exact D.low_mono (Nat.zero_le _) d (hlow d (.inr hd.symm))
    · exact below_1 (by simp only [SO.low]; exact lows_map (fun _ => rfl) _)
    · rw [take_push1]
      simp
  · rintro ⟨x, k⟩ ys ρ s hx ⟨j, acc, l6, l7, rfl, hy, hj, rfl, hs, ha', hlow⟩
    refine ⟨get_a2, _, by simp [encR]; rfl, ?_⟩
    have hj1 : ∃ i, j = i + 1 := by
      cases j with
      | zero =>
        cases ms with
        | nil => simp at hj
        | cons m0 mr => simp at hy
      | succ i => exact ⟨i, rfl⟩
    obtain ⟨i, rfl⟩ := hj1
    have hi : i + 1 < ms.length := hj
    have htk : ms.take (i + 1 + 1) = ms.take (i + 1) ++ [ms[i + 1]] := List.take_succ_eq_append_getElem hi
    have hlen : (ms.take (i + 1)).length = i + 1 := by simp; omega
    rw [htk, alt_snoc, hlen] at hy
    obtain ⟨m0, mr, hmr⟩ : ∃ m0 mr, ms.take (i + 1) = m0 :: mr := by
      cases h : ms.take (i + 1) with
      | nil => rw [h] at hlen; simp at hlen
      | cons x y => exact ⟨x, y, rfl⟩
    rw [hmr, alt_cons, List.cons_append, List.tail_cons, List.reverse_append, List.reverse_singleton, List.singleton_append, List.cons.injEq] at hy
    obtain ⟨e1, e2⟩ := hy
    simp only [Prod.mk.injEq] at e1
    obtain ⟨rfl, rfl⟩ := e1
    have hki : ms[i + 1] ≠ 0 := hp _ (by simp)
    have hfl : (flat (alt c (ms.take (i + 1 + 1)))).length = (flat (alt c (ms.take (i + 1)))).length + ms[i + 1] := by
      rw [htk, alt_snoc, flat_append, List.length_append]; simp
    have hsub : (((flat (alt c (ms.take (i + 1 + 1)))).length : Int) - (ms[i + 1] : Int)) = ((flat (alt c (ms.take (i + 1)))).length : Int) := by omega
    have hti : ms.take (i + 1) = ms.take i ++ [ms[i]] := List.take_succ_eq_append_getElem (by omega)
    have hleni : (ms.take i).length = i := by simp; omega
    have hmi : ms[i] ≠ 0 := hp _ (by simp)
    have hft : tailR (ltr c (i + 1)) (flat (alt c (ms.take (i + 1 + 1)))).reverse = sg (ltr c i) * ((flat (alt c (ms.take (i + 1)))).length : Int) :: tailR (ltr c i) (flat (alt c (ms.take (i + 1)))).reverse := by
      rw [htk, flat_rev, hlen, tailR_rep]
      obtain ⟨q, hq⟩ : ∃ q, (flat (alt c (ms.take (i + 1)))).reverse = ltr c i :: q := by
        rw [hti, flat_rev, hleni]
        obtain ⟨w, hw⟩ : ∃ w, ms[i] = w + 1 := ⟨ms[i] - 1, by omega⟩
        rw [hw, List.replicate_succ]
        exact ⟨_, rfl⟩
      have hql : (flat (alt c (ms.take (i + 1)))).length = q.length + 1 := by
        have := congrArg List.length hq
        simpa using this
      rw [hq, ltr_succ, hql, tailR_same]
      have := tailR_other (x := !ltr c i) (ys := q)
      simpa using this
    rw [hft] at ha'
    have hlow' : ∀ d, some (D.int (bi (ltr c (i + 1)))) = some d ∨ some (D.int (ms[i + 1] : Int)) = some d → d.low 0 = true := fun d hd => by
      rcases hd with hd | hd
      · cases hd; rfl
      · cases hd; rfl
    obtain ⟨F, hF⟩ : ∃ F, F = (flat (alt c (ms.take (i + 1)))).length := ⟨_, rfl⟩
    rw [← hF] at hsub ha'
    simp at hs
    have hfin : ∀ w : Int, w = sg (ltr c i) * (F : Int) → (PwI a b l c ms st (firstW a l (lat b l) :: tailR (lat b l) (b.take (l - 1)).reverse) [SO.lst (List.map encR (alt c ms)), SO.lst (((alt c ms).tail.reverse).map encR)]) ys [some (wdD a), some (wdD b), some (.int l), some (.int (bi (lat b l))), some (.ref st.length), some (.int F), some (.int (bi (ltr c (i + 1)))), some (.int ms[i + 1])] (st ++ .lst ((acc ++ [w]).map .int) :: [SO.lst (List.map encR (alt c ms)), SO.lst (((alt c ms).tail.reverse).map encR)]) := fun w hw => by
      refine ⟨i, acc ++ [w], _, _, by rw [← hF], by rw [e2, hmr]; rfl, by omega, rfl, by simp; omega, ?_, hlow'⟩
      rw [← ha', hw]
      simp
    cases hb : ltr c (i + 1) with
    | true =>
      have hw : -(F : Int) = sg (ltr c i) * (F : Int) := by rw [show ltr c i = false by rw [ltr_succ] at hb; simpa using hb]; simp [sg]
      have := hfin _ hw
      rw [hb] at this
      simp [hsub, bi, isLst]
      rw [mAppend_ev get_a0 (by simp; omega)]
      simp [bi] at this ⊢
      exact this
    | false =>
      have hw : (F : Int) = sg (ltr c i) * (F : Int) := by rw [show ltr c i = true by rw [ltr_succ] at hb; simpa using hb]; simp [sg]
      have := hfin _ hw
      rw [hb] at this
      simp [hsub, bi, isLst]
      rw [mAppend_ev get_a0 (by simp; omega)]
      simp [bi] at this ⊢
      exact this
end Ap

/-! words: ways_of, way_between, least_way -/
namespace Ap
open PySem L2 L3
theorem ones_of_ev {a : List Bool} {st : Store} (ha : (wd a).2.length ≤ 10 ^ 4) : F_ones_of [wdD a] st = .ok (.int (a.count true)) st := by
  refine (fn_rt (st' := st) (d := .int (a.count true)) ?_).trans swept_same
  have er := runs_of_ev (b := (wd a).1) (ns := (wd a).2) (st := st) (by omega)
  rw [← rle_alt] at er
  have hrl := rle_length a
  have em := many_of_ev (n := st.length) (rs := rle a) (c := true) (st := st ++ [.lst ((rle a).map encR)]) get_last (by omega)
  rw [flat_rle] at em
  have em' : F_many_of [.ref st.length, .int 1] (st ++ [.lst ((rle a).map encR)]) = .ok (.int (a.count true)) (st ++ [.lst ((rle a).map encR)]) := em
  simp [b_ones_of, show F_runs_of [wdD a] st = _ from er, em']
theorem plain_word_ev {c : Bool} {n : Nat} {st : Store} : F_plain_word [.int (bi c), .int n] st = .ok (wdD (List.replicate n c)) st := by
  refine (fn_rt (st' := st) (d := wdD (List.replicate n c)) ?_).trans swept_same
  have ew := word_of_runs_ev (n := st.length) (rs := [(c, n)]) (st := st ++ [.lst [.tup [.int (bi c), .int n]]]) (by rw [get_last]; simp [encR]) (by simp)
  have ef : flat [(c, n)] = List.replicate n c := by simp
  rw [ef] at ew
  simp [b_plain_word, ew]
theorem wd_rep {c : Bool} {n : Nat} : (wd (List.replicate n c)).2.length ≤ 1 := by
  have := wd_flat_len [(c, n)]
  simpa using this
theorem up_ref {st s : Store} {n : Nat} {Q : D → Store → Prop} (hn : st.length ≤ n) (h : Q (.ref n) s) : wp (swept st (.ok (.ref n) s)) Q := wp_swept_up (by simp; omega) h
theorem ways_of_wp {a b : List Bool} {d : Int} {st : Store} (ha : (wd a).2.length ≤ 1990) (hb : (wd b).2.length ≤ 1990) (hab : a.length = b.length) (hal : a.length ≤ 10 ^ 4) :
    wp (F_ways_of [wdD a, wdD b, .int d] st) (fun z s => ∃ n, z = .ref n ∧ Keep st s ∧ s[n]? = some (.lst ((waysR a b d).map .int)) ∧ st.length ≤ n) := by
  have ct := count_tf a
  have oa := fun s => ones_of_ev (a := a) (st := s) (by omega)
  have ob := fun s => ones_of_ev (a := b) (st := s) (by omega)
  have ww := fun s => word_length_ev (bs := a) (st := s)
  have hsz := waysR_size (a := a) (b := b) (d := d) hab
  refine wp_fn ?_
  obtain ⟨more, hm⟩ : ∃ more, more = d - ((b.count true : Int) - a.count true) := ⟨_, rfl⟩
  by_cases h1 : 0 < more
  · have en : (a.length : Int) - (a.count true : Int) + more = (a.count false : Int) + more := by omega
    have eW : waysR a b d = ((a.count false : Int) + more) :: plainW (List.replicate a.length true) b := by unfold waysR; rw [← hm, if_pos h1]
    rw [eW] at hsz ⊢
    have ep := fun s => plain_ways_ev (a := List.replicate a.length true) (b := b) (st := s) (by have := wd_rep (c := true) (n := a.length); omega) hb (by simpa using hab) (by simp; omega)
    have epw' : ∀ s, F_plain_word [.int 1, .int a.length] s = .ok (wdD (List.replicate a.length true)) s := fun s => plain_word_ev (c := true) (n := a.length) (st := s)
    simp [b_ways_of, oa, ob, ww, ← hm, h1, epw', ep, en]
    have ea := vAdd_lst (st := st ++ [.lst [.int ((a.count false : Int) + more)], .lst ((plainW (List.replicate a.length true) b).map .int)]) (n := st.length) (m := st.length + 1) get_a0 get_a1 (by simp at hsz ⊢; omega)
    rw [ea, wp_ok]
    refine up_ref (by simp) ⟨_, rfl, (Keep.app).push, by rw [get_last]; simp, by simp⟩
  · by_cases h2 : more < 0
    · have eW : waysR a b d = (more - (a.count true : Int)) :: plainW (List.replicate a.length false) b := by unfold waysR; rw [← hm, if_neg h1, if_pos h2]
      rw [eW] at hsz ⊢
      have ep := fun s => plain_ways_ev (a := List.replicate a.length false) (b := b) (st := s) (by have := wd_rep (c := false) (n := a.length); omega) hb (by simpa using hab) (by simp; omega)
      have epw' : ∀ s, F_plain_word [.int 0, .int a.length] s = .ok (wdD (List.replicate a.length false)) s := fun s => plain_word_ev (c := false) (n := a.length) (st := s)
      simp [b_ways_of, oa, ob, ww, ← hm, h1, h2, epw', ep]
      have ea := vAdd_lst (st := st ++ [.lst [.int (more - (a.count true : Int))], .lst ((plainW (List.replicate a.length false) b).map .int)]) (n := st.length) (m := st.length + 1) get_a0 get_a1 (by simp at hsz ⊢; omega)
      rw [ea, wp_ok]
      exact up_ref (by simp) ⟨_, rfl, (Keep.app).push, by rw [get_last]; simp, by simp⟩
    · have eW : waysR a b d = plainW a b := by unfold waysR; rw [← hm, if_neg h1, if_neg h2]
      rw [eW]
      have ep := fun s => plain_ways_ev (a := a) (b := b) (st := s) ha hb hab (by omega)
      simp [b_ways_of, oa, ob, ww, ← hm, h1, h2, ep]
theorem way_between_ev {a b : List Bool} {d : Int} {st : Store} (ha : (wd a).2.length ≤ 1990) (hb : (wd b).2.length ≤ 1990) (hab : a.length = b.length) (hal : a.length ≤ 10 ^ 4) :
    F_way_between [wdD a, wdD b, .int d] st = .ok (.tup ((waysR a b d).map .int)) st := by
  obtain ⟨_, s, e, n, rfl, K, g, _⟩ := wp_ex (ways_of_wp (d := d) (st := st) ha hb hab hal)
  refine (fn_rt (st' := st) (d := .tup ((waysR a b d).map .int)) ?_).trans swept_same
  simp [b_way_between, e, bTuple_ref g]
  rw [K.swept (by simp only [low_tup]; exact lows_ints _)]
  simp
theorem least_way_ev {a b : List Bool} {d : Int} {st : Store} (ha : (wd a).2.length ≤ 1990) (hb : (wd b).2.length ≤ 1990) (hab : a.length = b.length) (hal : a.length ≤ 10 ^ 4) :
    F_least_way [wdD a, wdD b, .int d] st = .ok (.int (((waysR a b d).map fun w => (w.natAbs : Int)).sum)) st := by
  obtain ⟨_, s, e, n, rfl, K, g, _⟩ := wp_ex (ways_of_wp (d := d) (st := st) ha hb hab hal)
  have hsz := waysR_size (a := a) (b := b) (d := d) hab
  refine (fn_rt (st' := st) (d := .int (((waysR a b d).map fun w => (w.natAbs : Int)).sum)) ?_).trans swept_same
  have eL := sLc_all (f := iSeq (sCB F_ways_of (sCons (sVar 0) (sCons (sVar 1) (sCons (sVar 2) sNil))))) (t := .nm 3) (elt := sCB bAbs (sCons (sVar 3) sNil)) (vs := [3]) (ρ := [some (wdD a), some (wdD b), some (.int d), none]) (st := st) (src := .lst n ((waysR a b d).map .int)) (st1 := s) D.int (fun w => .int (w.natAbs : Int)) (waysR a b d) (by simp [e, srcOf_of g]) rfl g (fun x _ => ⟨_, rfl, by simp⟩) (by have := sizeLine_eq; omega)
  have e2 : (waysR a b d).map (fun w => D.int (w.natAbs : Int)) = ((waysR a b d).map fun w => (w.natAbs : Int)).map D.int := by simp [Function.comp_def]
  rw [e2] at eL
  simp [b_least_way, -sLc_ev, eL, -List.map_map]
  rw [(K.push).swept (by simp)]
  simp
end Ap

/-! words: moved -/
namespace Ap
open PySem L2 L3
def MvI (bs : List Bool) (way : Int) (w : Bool) (st : Store) (V : List Bool) (ys : List Run) (ρ : Envr) (s : Store) : Prop :=
  ∃ (left taken : Nat) (rest : List Run) (l6 l7 l8 : Option D), ρ = [some (wdD bs), some (.int way), some (.int (bi w)), some (.int left), some (.int taken), some (.ref st.length), l6, l7, l8] ∧ s = st ++ [.lst (rest.map encR), .lst ((rle bs).map encR)] ∧
    List.replicate taken w ++ (flat rest ++ flipN (!w) left (flat ys)) = V ∧ (left ≠ 0 → flat rest = []) ∧ rest.length + ys.length ≤ (rle bs).length
theorem moved_ev {bs : List Bool} {way : Int} {st : Store} (hl : (wd bs).2.length ≤ 10 ^ 4) : F_moved [wdD bs, .int way] st = .ok (wdD (movL bs way)) st := by
  refine fn_eq ?_
  by_cases hw : way = 0
  · subst hw; simp [b_moved]
  have hrl := rle_length bs
  simp [b_moved, hw, -wps_ite, -bind_ite, -thn_ite, -wp_ite, -sthn_ite]
  have eW : (if 0 < way then (Res.ok (D.int 1) st) else Res.ok (D.int 0) st) = .ok (.int (bi (decide (0 < way)))) st := by
    by_cases h : 0 < way <;> simp [h, bi]
  rw [eW]
  simp
  refine wps_xswp ?_
  have er := runs_of_ev (b := (wd bs).1) (ns := (wd bs).2) (st := st ++ [.lst []]) (by omega)
  rw [← rle_alt] at er
  simp only [List.length_append, List.length_singleton, List.append_assoc, List.cons_append, List.nil_append] at er
  simp [show F_runs_of [wdD bs] (st ++ [SO.lst []]) = _ from er, srcOf_of get_a1]
  have hV : flipN (!decide (0 < way)) way.natAbs (flat (rle bs)) = movL bs way := by
    have : (!decide (0 < way)) = decide (way < 0) := by
      by_cases h : 0 < way
      · rw [decide_eq_true h, decide_eq_false (show ¬ way < 0 by omega)]; rfl
      · rw [decide_eq_false h, decide_eq_true (show way < 0 by omega)]; rfl
    rw [this, flat_rle]; rfl
  generalize decide (0 < way) = w at hV
  refine wp_for (enc := encR) (xs := rle bs) (MvI bs way w st (movL bs way)) ⟨way.natAbs, 0, [], none, none, none, by simp, by simp, by simpa using hV, by simp, by simp⟩ ?_ ?_
  · rintro ρ s ⟨left, taken, rest, l6, l7, l8, rfl, rfl, e, hz, hs⟩
    refine ⟨get_a1, ?_⟩
    simp at e hs
    have key : ∀ more : Store, ∀ l6 l7 l8 : Option D, wps ((xRet (sSwp (sCB F_word_of_runs (sCons (s2 vAdd (sLst (sCons (sTup (sCons (sVar 2) (sCons (sVar 4) sNil))) sNil)) (sVar 5)) sNil)))) [some (wdD bs), some (.int way), some (.int (bi w)), some (.int left), some (.int taken), some (.ref st.length), l6, l7, l8] (st ++ .lst (rest.map encR) :: more)) (fun _ st' => swept st (.ok .non st') = .ok (wdD (movL bs way)) st) (fun _ _ => False) (fun _ _ => False) (fun d st' => swept st (.ok d st') = .ok (wdD (movL bs way)) st) := by
      intro more l6 l7 l8
      generalize hS : st ++ .lst (rest.map encR) :: more = S
      have h0 : S[st.length]? = some (.lst (rest.map encR)) := by rw [← hS]; exact get_a0
      have ea := vAdd_lst (st := S ++ [.lst [.tup [.int (bi w), .int taken]]]) (n := S.length) (m := st.length) (xs := [.tup [.int (bi w), .int taken]]) (ys := rest.map encR) get_a0 (get_push h0) (by simp; omega)
      simp at ea
      have ew := word_of_runs_ev (n := S.length + 1) (rs := (w, taken) :: rest) (st := S ++ [.lst [.tup [.int (bi w), .int taken]], .lst (.tup [.int (bi w), .int taken] :: rest.map encR)]) (by rw [get_a1]; simp [encR]) (by simp; omega)
      rw [show flat ((w, taken) :: rest) = movL bs way by simpa using e] at ew
      simp [ea, ew]
      rw [← hS]
      simp
    refine ⟨by simpa using key [.lst ((rle bs).map encR)] l6 l7 l8, ?_⟩
    rw [take_push1]
    simpa using key [] l6 l7 l8
  · rintro ⟨c, m⟩ ys ρ s hx ⟨left, taken, rest, l6, l7, l8, rfl, rfl, e, hz, hs⟩
    refine ⟨get_a1, _, by simp [encR]; rfl, ?_⟩
    simp at hs
    by_cases h0 : left = 0
    · subst h0
      simp [isLst]
      rw [mAppend_ev get_a0 (by simp; omega)]
      simp
      refine ⟨0, taken, rest ++ [(c, m)], _, _, _, rfl, by simp [encR], by rw [← e]; simp, by simp, by simp; omega⟩
    · have h0' : ¬ ((left : Int) = 0) := by omega
      have hf := hz h0
      by_cases hc : c = w
      · subst hc
        simp [h0]
        refine ⟨left, taken + m, rest, some (.int (bi c)), some (.int m), l8, by simp, rfl, ?_, hz, by omega⟩
        rw [← e, flat_cons, hf]
        have := flipN_rep_other (old := !c) (n := left) (m := m) (bs := flat ys)
        rw [Bool.not_not] at this
        simp only [this, List.nil_append]
        rw [← List.append_assoc, List.replicate_append_replicate]
      · have hc' : ¬ (bi c = bi w) := fun q => hc (bi_inj.mp q)
        have hcw : c = !w := by cases c <;> cases w <;> simp_all
        simp [h0, hc', isLst]
        rw [mAppend_ev get_a0 (by simp; omega)]
        simp
        have e1 : ((left : Int) - min (m : Int) left) = ((left - min m left : Nat) : Int) := by omega
        have e2 : ((taken : Int) + min (m : Int) left) = ((taken + min m left : Nat) : Int) := by omega
        have e3 : ((m : Int) - min (m : Int) left) = ((m - min m left : Nat) : Int) := by omega
        rw [e1, e2, e3]
        refine ⟨left - min m left, taken + min m left, rest ++ [(c, m - min m left)], _, _, _, rfl, by simp [encR], ?_, ?_, by simp; omega⟩
        · rw [← e, flat_cons, flat_append, hf, hcw]
          have := flipN_rep_same (old := !w) left m (flat ys)
          rw [Bool.not_not] at this
          rw [this, ← List.replicate_append_replicate]
          simp only [flat_cons, flat_nil, List.append_assoc, List.nil_append, List.append_nil]
        · intro hne
          have : m - min m left = 0 := by omega
          rw [flat_append, hf, this]; simp
end Ap

/-! kinds: is_whole, whole_within -/
namespace Ap
open PySem L2 L3
/-- what stands for something -/
def Typed (st : Store) : D → Prop
  | .ref n => ∃ xs, st[n]? = some (.lst xs)
  | _ => True
def isInt : D → Bool
  | .int _ => true
  | _ => false
theorem is_whole_ev {d : D} {st : Store} (h : Typed st d) : F_is_whole [d] st = .ok (.bl (isInt d)) st := by
  refine (fn_rt (st' := st) (d := .bl (isInt d)) ?_).trans swept_same
  cases d with
  | ref n =>
    obtain ⟨xs, e⟩ := h
    simp [b_is_whole, isInt, tyName_ref e]
  | _ => simp [b_is_whole, isInt]
end Ap

/-! things: lists stay lists -/
namespace Ap
open PySem L2 L3
/-- lists stay lists -/
def Lsts (S S' : Store) : Prop := ∀ (n : Nat) (xs : List D), S[n]? = some (.lst xs) → ∃ ys, S'[n]? = some (.lst ys)
theorem Lsts.refl {S : Store} : Lsts S S := fun n xs h => ⟨xs, h⟩
theorem Lsts.trans {a b c : Store} (h : Lsts a b) (h' : Lsts b c) : Lsts a c := fun n xs e => by
  obtain ⟨ys, e⟩ := h n xs e
  exact h' n ys e
theorem Lsts.keep {S S' : Store} (K : Keep S S') : Lsts S S' := fun n xs e => ⟨xs, K.get e⟩
theorem Lsts.set {S : Store} {i : Nat} {xs : List D} : Lsts S (S.set i (.lst xs)) := fun n ys e => by
  by_cases h : i = n
  · subst h
    exact ⟨xs, by rw [List.getElem?_set_self (lt_of_get e)]⟩
  · exact ⟨ys, by rw [List.getElem?_set_ne h]; exact e⟩
theorem Typed.mono {S S' : Store} {d : D} (h : Typed S d) (K : Lsts S S') : Typed S' d := by
  cases d with
  | ref n => obtain ⟨xs, e⟩ := h; exact K n xs e
  | _ => trivial
theorem keep_sweptL {st s : Store} {d : D} (h : Keep st s) (hd : d.low st.length = true) : L3.swept st (.ok d s) = .ok d st := by
  unfold L3.swept
  simp only
  rw [if_pos ⟨h.len, hd, fun i o hi e => .inl (by rw [← h.at_ i hi]; exact e)⟩, h.take]
theorem wp_forD {src : Src} {t : Tgt} {body : SS} {N C B : Envr → Store → Prop} {R : D → Store → Prop} {st : Store} {ρ : Envr} (I : List D → Envr → Store → Prop) {xs : List D} (h0 : I xs ρ st) (hend : ∀ ρ st, I [] ρ st → src.ok st ∧ N ρ st)
    (step : ∀ x ys ρ st, x ∈ xs → I (x :: ys) ρ st → src.ok st ∧ ∃ ρ1, t.ev x ρ = some ρ1 ∧ wps (body ρ1 st) (I ys) (I ys) N R) : wps (forL src t body xs ρ st) N C B R := by
  have := wp_for (t := t) (body := body) (N := N) (C := C) (B := B) (R := R) (enc := fun d : D => d) I h0 hend step
  rwa [List.map_id'] at this
end Ap

/-! words: is_way -/
namespace Ap
open PySem L2 L3
def valI : D → Int
  | .int n => n
  | _ => 0
theorem all_ints : ∀ {zs : List D}, zs.all isInt = true → zs = (zs.map valI).map .int
  | [], _ => rfl
  | z :: zs, h => by
    simp only [List.all_cons, Bool.and_eq_true] at h
    rw [List.map_cons, List.map_cons, ← all_ints h.2]
    cases z <;> simp [isInt] at h
    rfl
def wayB (a b : List Bool) (d most : Int) (ws : List Int) : Bool := decide (ws.foldl movL a = b) && (decide (ws.sum = d) && decide ((ws.map fun w => (w.natAbs : Int)).sum ≤ most))
/-- whether a thing is a way -/
def wayD (a b : List Bool) (d most : Int) : D → Bool
  | .tup zs => zs.all isInt && wayB a b d most (zs.map valI)
  | _ => false
/-- a thing that is or is not a way -/
def Thing (S : Store) (z : D) : Prop := Typed S z ∧ ∀ zs, z = .tup zs → zs.length ≤ 10 ^ 5 ∧ ∀ y ∈ zs, Typed S y
theorem Thing.mono {S S' : Store} {z : D} (h : Thing S z) (K : Lsts S S') : Thing S' z := ⟨h.1.mono K, fun zs e => ⟨(h.2 zs e).1, fun y hy => ((h.2 zs e).2 y hy).mono K⟩⟩
def IyI (a b : List Bool) (d most : Int) (ws : List Int) (st : Store) (ys : List Int) (ρ : Envr) (s : Store) : Prop :=
  ∃ (now : List Bool) (l6 : Option D), ρ = [some (wdD a), some (wdD b), some (.int d), some (.int most), some (.tup (ws.map .int)), some (wdD now), l6] ∧ s = st ∧ ys.foldl movL now = ws.foldl movL a ∧ now.length = a.length
theorem is_way_ev {a b : List Bool} {d most : Int} {z : D} {st : Store} (hal : a.length ≤ 10 ^ 4) (hz : Thing st z) : F_is_way [wdD a, wdD b, .int d, .int most, z] st = .ok (.bl (wayD a b d most z)) st := by
  have hsl := sizeLine_eq
  obtain ⟨h1, h2⟩ := hz
  refine fn_eq ?_
  cases z with
  | tup zs =>
    obtain ⟨hl, ht⟩ := h2 zs rfl
    have eL := sLc_its (f := iSeq (sVar 4)) (t := .nm 6) (test := sNot (sTruth (sCB F_is_whole (sCons (sVar 6) sNil)))) (elt := sVar 6) (vs := [6]) (ρ := [some (wdD a), some (wdD b), some (.int d), some (.int most), some (.tup zs), none, none]) (st := st) (fun d : D => d) (fun d => !isInt d) (fun d => d) zs (by simp) (by omega) (fun z hz => ⟨_, rfl, by
      simp [is_whole_ev (ht z hz)], fun _ => by simp⟩)
    simp only [List.map_id'] at eL
    by_cases ha : zs.all isInt = true
    · have hf : zs.filter (fun d => !isInt d) = [] := by
        rw [List.filter_eq_nil_iff]
        intro z hz
        have := List.all_eq_true.mp ha z hz
        simp [this]
      rw [hf] at eL
      have hws := all_ints ha
      simp only [wayD, ha, Bool.true_and]
      generalize zs.map valI = ws at hws
      subst hws
      simp [b_is_way, -sLc_ev, eL, truth, -xFor_ev, -sSwp_ev, -List.map_map]
      have hlw : ws.length ≤ 10 ^ 5 := by simpa using hl
      rw [xFor_ev]
      simp [-xFor_ev, -sSwp_ev, -List.map_map, -Kn_ev]
      refine wp_for (enc := D.int) (xs := ws) (IyI a b d most ws st) ⟨a, none, rfl, rfl, rfl, rfl⟩ ?_ ?_
      · rintro ρ s ⟨now, l6, rfl, rfl, e, hn⟩
        refine ⟨trivial, ?_⟩
        have e' : now = ws.foldl movL a := e
        have eL := sLc_itsA (f := iSeq (sVar 4)) (t := .nm 6) (elt := sCB bAbs (sCons (sVar 6) sNil)) (vs := [6]) (ρ := [some (wdD a), some (wdD b), some (.int d), some (.int most), some (.tup (ws.map .int)), some (wdD now), l6]) (st := s) D.int (fun w => .int (w.natAbs : Int)) ws (by simp) (by omega) (fun x _ => ⟨_, rfl, by simp⟩)
        have e2 : ws.map (fun w => D.int (w.natAbs : Int)) = (ws.map fun w => (w.natAbs : Int)).map D.int := by simp [Function.comp_def]
        rw [e2] at eL
        simp [-sLc_ev, eL, vEq_wd, -List.map_map, wayB, ← e']
        by_cases hq : now = b <;> by_cases hq2 : ws.sum = d <;> simp [hq, hq2]
      · rintro w ys ρ s hx ⟨now, l6, rfl, rfl, e, hn⟩
        refine ⟨trivial, _, rfl, ?_⟩
        have := wd_len now
        simp [moved_ev (bs := now) (way := w) (by omega)]
        exact ⟨movL now w, _, rfl, rfl, e, by simpa using hn⟩
    · have hf : zs.filter (fun d => !isInt d) ≠ [] := by
        intro q
        rw [List.filter_eq_nil_iff] at q
        apply ha
        rw [List.all_eq_true]
        intro z hz
        have := q z hz
        simpa using this
      have hb : (zs.filter (fun d => !isInt d)).isEmpty = false := by
        cases hh : zs.filter (fun d => !isInt d) with
        | nil => exact absurd hh hf
        | cons a t => rfl
      have ha' : zs.all isInt = false := by simpa using ha
      simp [b_is_way, -sLc_ev, eL, truth, -xFor_ev, -sSwp_ev, -List.map_map, hb, wayD, ha']
  | ref n =>
    obtain ⟨xs, e⟩ := h1
    simp [b_is_way, tyName_ref e, wayD]
  | _ => simp [b_is_way, wayD]
end Ap

/-! _law_same of the family with `due is None`, bool, tuple, str, int -/
namespace Ap
open PySem L2 L3
theorem sm_int {n : Nat} {i : Int} {st : Store} : F_law_same (n + 1) [.int i, .int i] st = .ok (.bl true) st := by
  refine (fn_rt (st' := st) (d := .bl true) ?_).trans swept_same
  simp [b_law_same, vIs, kit_1, kit_4, kit_6, kit_11, kit_16]
def SmI (x : D) (st : Store) (i : Nat) (ρ : Envr) (s : Store) : Prop := s = st ∧ ∃ l : Option D, ρ = [some x, some x, l]
theorem sm_tup {n : Nat} {xs : List D} {st : Store} (hl : xs.length < 10 ^ 7) (h : ∀ x ∈ xs, F_law_same n [x, x] st = .ok (.bl true) st) : F_law_same (n + 1) [.tup xs, .tup xs] st = .ok (.bl true) st := by
  refine fn_eq ?_
  simp [b_law_same, vIs, kit_9, kit_19, show -4611686018427387904 ≤ (xs.length : Int) ∧ (xs.length : Int) < 4611686018427387904 by omega, rangeD_zero]
  refine wp_forR (SmI (.tup xs) st) ⟨rfl, none, rfl⟩ ?_ ?_
  · rintro ρ s ⟨rfl, l, rfl⟩
    simp
  · rintro i ρ s hi ⟨rfl, l, rfl⟩
    refine ⟨_, rfl, ?_⟩
    simp [hi, h xs[i] (by simp)]
    exact ⟨rfl, _, rfl⟩
theorem sm_wd {n : Nat} {bs : List Bool} {st : Store} (hl : (wd bs).2.length < 10 ^ 7) : F_law_same (n + 3) [wdD bs, wdD bs] st = .ok (.bl true) st := by
  refine sm_tup (by simp) fun x hx => ?_
  simp at hx
  rcases hx with rfl | rfl
  · exact sm_int
  · refine sm_tup (by simpa using hl) fun x hx => ?_
    obtain ⟨m, _, rfl⟩ := List.mem_map.mp hx
    exact sm_int
theorem sm_wds {n : Nat} {ws : List (List Bool)} {st : Store} (hl : ws.length < 10 ^ 7) (h : ∀ w ∈ ws, (wd w).2.length < 10 ^ 7) : F_law_same (n + 4) [.tup (ws.map wdD), .tup (ws.map wdD)] st = .ok (.bl true) st := by
  refine sm_tup (by simpa using hl) fun x hx => ?_
  obtain ⟨m, hm, rfl⟩ := List.mem_map.mp hx
  exact sm_wd (h m hm)
end Ap

/-! texts of letters 0 and 1 -/
namespace Ap
open PySem L2 L3 PySem.StrLaws PySem.Builtin PySem.Builtin.Str
theorem occ_all (x : Str) (c limit : Nat) : ∀ (m a : Nat) (st : Array Nat × Nat), st.2 ≤ a → st.1.size + m ≤ limit →
    (forIn (List.range' a m) st (occBody x ⟨#[c]⟩ x.length limit)).run.fst.size = st.1.size + (List.range' a m).countP (fun i => decide (x.cps.toList[i]? = some c))
  | 0, a, st, _, _ => by simp
  | m + 1, a, st, hf, hl => by
    rw [List.range'_succ, List.forIn_cons]
    unfold occBody
    have h1 := subAt_one x c a
    by_cases hc : x.cps.toList[a]? = some c
    · have := h1.mpr hc
      rw [if_pos ⟨⟨⟨by omega, hf⟩, this.1⟩, this.2⟩]
      have ih := occ_all x c limit m (a + 1) (st.1.push a, a + (⟨#[c]⟩ : Str).length) (by simp [Str.length]) (by simp; omega)
      refine ih.trans ?_
      rw [List.countP_cons_of_pos (by simpa using hc), Array.size_push]; omega
    · rw [if_neg (fun q => hc (h1.mp ⟨q.1.2, q.2⟩))]
      have ih := occ_all x c limit m (a + 1) (st.1, st.2) (by simp; omega) (by simp; omega)
      refine ih.trans ?_
      rw [List.countP_cons_of_neg (by simpa using hc)]
theorem countP_range (l : List Nat) (c : Nat) : ∀ (m a : Nat), l.length + 1 ≤ a + m → (List.range' a m).countP (fun i => decide (l[i]? = some c)) = (l.drop a).count c
  | 0, a, h => by rw [List.drop_eq_nil_of_le (by omega)]; simp
  | m + 1, a, h => by
    rw [List.range'_succ]
    have ih := countP_range l c m (a + 1) (by omega)
    by_cases ha : a < l.length
    · rw [List.drop_eq_getElem_cons ha]
      by_cases hc : l[a] = c
      · rw [List.countP_cons_of_pos (by simp [ha, hc]), ih, hc, List.count_cons_self]
      · rw [List.countP_cons_of_neg (by simp [ha, hc]), ih, List.count_cons_of_ne hc]
    · rw [List.countP_cons_of_neg (by rw [List.getElem?_eq_none (by omega)]; simp), ih, List.drop_eq_nil_of_le (by omega), List.drop_eq_nil_of_le (by omega)]
theorem count_one (x : Str) (c : Nat) : Txt.count x ⟨#[c]⟩ = ((x.cps.toList.count c : Nat) : Int) := by
  unfold Txt.count
  congr 1
  rw [occ_eq, Array.length_toList, occ_all x c (x.length + 1) (x.length + 1 - 0) 0 (#[], 0) (by simp) (by simp)]
  have := countP_range x.cps.toList c (x.length + 1 - 0) 0 (by simp [Str.length])
  rw [this]; simp
/-- the text of letters -/
def cp (b : Bool) : Nat := if b then 49 else 48
def txt (bs : List Bool) : Str := ⟨(bs.map cp).toArray⟩
theorem cp_inj {a b : Bool} : cp a = cp b ↔ a = b := by cases a <;> cases b <;> simp [cp]
theorem txt_0 : Str.ofString "0" = txt [false] := by decide +kernel
theorem txt_1 : Str.ofString "1" = txt [true] := by decide +kernel
theorem txt_01 : Str.ofString "01" = txt [false, true] := by decide +kernel
theorem txt_10 : Str.ofString "10" = txt [true, false] := by decide +kernel
theorem txt_e : Str.ofString "" = txt [] := by decide +kernel
@[simp] theorem txt_list {bs : List Bool} : (txt bs).cps.toList = bs.map cp := by simp [txt]
@[simp] theorem txt_length {bs : List Bool} : (txt bs).length = bs.length := by simp [txt, Str.length]
theorem map_cp_inj : ∀ {a b : List Bool}, a.map cp = b.map cp → a = b
  | [], [], _ => rfl
  | [], _ :: _, h => by simp at h
  | _ :: _, [], h => by simp at h
  | x :: a, y :: b, h => by
    simp only [List.map_cons, List.cons.injEq] at h
    rw [cp_inj.mp h.1, map_cp_inj h.2]
theorem txt_inj {a b : List Bool} : txt a = txt b ↔ a = b := by
  constructor
  · intro h
    have := congrArg (fun z : Str => z.cps.toList) h
    simp only [txt_list] at this
    exact map_cp_inj this
  · rintro rfl; rfl
theorem txt_append {a b : List Bool} : txt a ++ txt b = txt (a ++ b) := by
  show Str.append (txt a) (txt b) = _
  simp [Str.append, txt]
theorem chars_txt {bs : List Bool} : chars (txt bs) = bs.map fun b => D.str (txt [b]) := by
  simp [chars, txt, Function.comp_def]
def encC (b : Bool) : D := .str (txt [b])
theorem chars_txt' {bs : List Bool} : chars (txt bs) = bs.map encC := chars_txt
theorem count_1 {bs : List Bool} : Txt.count (txt bs) (txt [true]) = ((bs.count true : Nat) : Int) := by
  rw [show txt [true] = ⟨#[cp true]⟩ from rfl, count_one, txt_list]
  congr 1
  induction bs with
  | nil => rfl
  | cons b bs ih => cases b <;> simp [cp] at ih ⊢ <;> exact ih
theorem count_0 {bs : List Bool} : Txt.count (txt bs) (txt [false]) = ((bs.count false : Nat) : Int) := by
  rw [show txt [false] = ⟨#[cp false]⟩ from rfl, count_one, txt_list]
  congr 1
  induction bs with
  | nil => rfl
  | cons b bs ih => cases b <;> simp [cp] at ih ⊢ <;> exact ih
theorem vAdd_txt {a b : List Bool} {st : Store} (h : a.length + b.length < 10 ^ 6) : vAdd (.str (txt a)) (.str (txt b)) st = .ok (.str (txt (a ++ b))) st := by
  unfold vAdd
  simp only [txt_length]
  rw [if_pos (by have := sizeLine_eq; omega), txt_append]
theorem bLen_txt {a : List Bool} {st : Store} (h : a.length < 10 ^ 6) : bLen [.str (txt a)] st = .ok (.int a.length) st := by
  unfold bLen
  simp only [txt_length]
  rw [if_pos (by have := sizeLine_eq; omega)]
theorem foldl_rep (b : Bool) : ∀ (n : Nat) (acc : Array Nat), (List.replicate n (txt [b]).cps).foldl (· ++ ·) acc = acc ++ ((List.replicate n b).map cp).toArray
  | 0, acc => by simp
  | n + 1, acc => by
    rw [List.replicate_succ, List.foldl_cons, foldl_rep b n, List.replicate_succ, List.map_cons]
    apply Array.ext'
    simp [txt]
theorem vMul_txt {b : Bool} {k : Int} {st : Store} (h : -1000000 ≤ k ∧ k ≤ 1000000) : vMul (.str (txt [b])) (.int k) st = .ok (.str (txt (List.replicate k.toNat b))) st := by
  unfold vMul
  simp only [txt_length]
  rw [if_pos (by have := sizeLine_eq; simp; omega)]
  congr 2
  rw [foldl_rep]
  simp [txt]
theorem vSlice_txt {bs : List Bool} {k : Nat} {st : Store} (h : bs.length < 10 ^ 6) (hk : k ≤ bs.length) : vSlice (.str (txt bs)) none (some (k : Int)) st = .ok (.str (txt (bs.take k))) st := by
  unfold vSlice
  simp only [txt_length]
  rw [if_pos (by have := sizeLine_eq; omega)]
  congr 2
  unfold cutS
  rw [HT.sIx_none, HT.sIx_nat, txt_length, Nat.min_eq_left hk, List.drop_zero, txt_list, Nat.sub_zero, ← List.map_take]
  rfl
theorem vSlice_txt' {bs : List Bool} {k : Nat} {st : Store} (h : bs.length < 10 ^ 6) : vSlice (.str (txt bs)) none (some (k : Int)) st = .ok (.str (txt (bs.take k))) st := by
  unfold vSlice
  simp only [txt_length]
  rw [if_pos (by have := sizeLine_eq; omega)]
  congr 2
  unfold cutS
  rw [HT.sIx_none, HT.sIx_nat, txt_length, List.drop_zero, txt_list, Nat.sub_zero, ← List.map_take]
  show txt _ = txt _
  congr 1
  by_cases hk : k ≤ bs.length
  · rw [Nat.min_eq_left hk]
  · rw [Nat.min_eq_right (by omega), List.take_of_length_le (by omega), List.take_of_length_le (by omega)]
theorem vIx_txt {bs : List Bool} {i : Nat} {b : Bool} {st : Store} (h : bs.length < 10 ^ 6) (hb : bs[i]? = some b) : vIx (.str (txt bs)) (.int i) st = .ok (.str (txt [b])) st := by
  unfold vIx
  simp only [txt_length]
  rw [if_pos (by have := sizeLine_eq; omega), txt_list, atI_ofNat, List.getElem?_map, hb]
  rfl
theorem vIx_txt_bl {bs : List Bool} {c b : Bool} {st : Store} (h : bs.length < 10 ^ 6) (hb : bs[c.toNat]? = some b) : vIx (.str (txt bs)) (.bl c) st = .ok (.str (txt [b])) st := by
  unfold vIx
  simp only [txt_length]
  rw [if_pos (by have := sizeLine_eq; omega), txt_list, List.getElem?_map, hb]
  rfl
theorem glued_txt : ∀ (ps : List (List Bool)), Txt.join (txt []) (ps.map txt) = txt ps.flatten
  | [] => rfl
  | p :: ps => by
    unfold Txt.join glued
    have key : ∀ (qs : List (List Bool)) (acc : List Bool), (qs.map txt).foldl (fun a p => a ++ (txt []).cps ++ p.cps) (txt acc).cps = (txt (acc ++ qs.flatten)).cps := by
      intro qs
      induction qs with
      | nil => intro acc; simp
      | cons q qs ih =>
        intro acc
        rw [List.map_cons, List.foldl_cons, show (txt acc).cps ++ (txt []).cps ++ (txt q).cps = (txt (acc ++ q)).cps by simp [txt], ih]
        simp
    simp only [List.map_cons, List.drop_succ_cons, List.drop_zero, List.headD_cons]
    rw [key ps p]
    simp [txt]
end Ap

/-! words: _law_word of letters -/
namespace Ap
open PySem L2 L3
theorem head_rle (bs : List Bool) : headB (rle bs) = bs.headD false := by
  have h := flat_rle bs
  have ha := rle_alt bs
  have hp := wd_pos bs
  generalize rle bs = t at *
  cases t with
  | nil => simp at h; subst h; rfl
  | cons r t =>
    obtain ⟨b, n⟩ := r
    have hn : n ≠ 0 := by
      have h2 : n ∈ (wd bs).2 := by
        generalize (wd bs).1 = c at ha
        generalize (wd bs).2 = ms at ha
        cases ms with
        | nil => simp at ha
        | cons m ms => simp at ha; simp [ha.1.2]
      exact hp n h2
    obtain ⟨k, rfl⟩ : ∃ k, n = k + 1 := ⟨n - 1, by omega⟩
    rw [← h]
    simp [headB, List.replicate_succ]
def lastT (t : List Run) : Str := match t.getLast? with
  | none => txt []
  | some r => txt [r.1]
def LwI (bs : List Bool) (st : Store) (ys : List Bool) (ρ : Envr) (s : Store) : Prop :=
  ∃ (t : List Run) (l3 : Option D), ρ = [some (.str (txt bs)), some (.ref st.length), some (.str (lastT t)), l3] ∧ s = st ++ [.lst ((t.map Prod.snd).map encN)] ∧ (ys.map fun c => (c, 1)).foldl addRun t = rle bs ∧ t.length + ys.length ≤ bs.length
theorem law_word_ev {bs : List Bool} {st : Store} (hl : bs.length < 10 ^ 5) : F_law_word [.str (txt bs)] st = .ok (wdD bs) st := by
  refine fn_eq ?_
  simp [b_law_word, chars_txt', -List.map_map]
  refine wp_for (enc := encC) (xs := bs) (LwI bs st) ⟨[], none, by simp [lastT, txt_e], by simp, rfl, by simp⟩ ?_ ?_
  · rintro ρ s ⟨t, l3, rfl, rfl, e, hs⟩
    refine ⟨trivial, ?_⟩
    simp at e
    subst e
    have e1 := vSlice_txt' (bs := bs) (k := 1) (st := st ++ [.lst ((rle bs).map (encN ∘ Prod.snd))]) (by omega)
    have e1' : vSlice (.str (txt bs)) none (some 1) (st ++ [.lst ((rle bs).map (encN ∘ Prod.snd))]) = _ := e1
    simp [e1', txt_1, txt_inj]
    have hh := head_rle bs
    have : (if bs.take 1 = [true] then (1 : Int) else 0) = bi (wd bs).1 := by
      show _ = bi (headB (rle bs))
      rw [hh]
      cases bs with
      | nil => simp [bi]
      | cons b bs => cases b <;> simp [bi]
    rw [this]
    simp only [wdD, encW, wd, List.map_map]
  · rintro b ys ρ s hx ⟨t, l3, rfl, rfl, e, hs⟩
    refine ⟨trivial, _, rfl, ?_⟩
    simp at hs e
    rcases List.eq_nil_or_concat t with rfl | ⟨t, ⟨c, m⟩, rfl⟩
    · have : ¬ ([b] = ([] : List Bool)) := by simp
      simp [encC, lastT, txt_inj, isLst]
      rw [mAppend_ev get_a0 (by simp)]
      simp
      exact ⟨[(b, 1)], some (.str (txt [b])), by simp [lastT], by simp [encN], by rw [← e, addRun_nil (by simp)], by simp; omega⟩
    · rw [List.concat_eq_append] at e hs ⊢
      simp at hs
      by_cases hb : b = c
      · subst hb
        have hlen : ((t.length : Int) + 1 - 1) = (t.length : Int) := by omega
        have hix : ixN (t.length + 1) ((t.length : Int) + 1 - 1) = some t.length := by rw [hlen]; exact ixN_nat (by omega)
        simp [encC, lastT, bLen, hlen, ixN_nat (show t.length < t.length + 1 by omega), encN]
        refine ⟨t ++ [(b, m + 1)], some (.str (txt [b])), by simp [lastT], by simp [encN], by rw [← e, addRun_snoc (by simp), if_pos rfl], by simp; omega⟩
      · simp [encC, lastT, txt_inj, hb, isLst]
        rw [mAppend_ev get_a0 (by simp; omega)]
        simp
        refine ⟨t ++ [(c, m), (b, 1)], some (.str (txt [b])), by simp [lastT], by simp [encN], by rw [← e, addRun_snoc (by simp), if_neg (fun q => hb q.symm)], by simp; omega⟩
end Ap

namespace Ap
open PySem L2 L3
def LbI (bs : List Bool) (w : Int) (ys : List Bool) (ρ : Envr) (s st : Store) : Prop :=
  ∃ (left : Nat) (out : List Bool) (l5 : Option D), ρ = [some (.str (txt bs)), some (.int w), some (.int left), some (.str (txt out)), l5] ∧ s = st ∧ out ++ flipN (decide (w < 0)) left ys = movL bs w ∧ out.length + ys.length = bs.length
theorem law_moved_ev {bs : List Bool} {w : Int} {st : Store} (hl : bs.length < 10 ^ 5) : F_law_moved [.str (txt bs), .int w] st = .ok (.str (txt (movL bs w))) st := by
  refine fn_eq ?_
  have e0 := fun st => vIx_txt_bl (bs := [false, true]) (c := decide (w < 0)) (b := decide (w < 0)) (st := st) (by simp) (by by_cases h : w < 0 <;> simp [h])
  have e1 := fun st => vIx_txt_bl (bs := [true, false]) (c := decide (w < 0)) (b := !decide (w < 0)) (st := st) (by simp) (by by_cases h : w < 0 <;> simp [h])
  simp [b_law_moved, txt_01, txt_e, chars_txt']
  refine wp_for (enc := encC) (xs := bs) (fun ys ρ s => LbI bs w ys ρ s st) ⟨w.natAbs, [], none, by simp, rfl, rfl, by simp⟩ ?_ ?_
  · rintro ρ s ⟨left, out, l5, rfl, rfl, e, hs⟩
    simp at e
    simp [e]
  · rintro b ys ρ s hx ⟨left, out, l5, rfl, rfl, e, hs⟩
    refine ⟨trivial, _, rfl, ?_⟩
    simp at hs
    have e2 : vAdd (.str (txt out)) (.str (txt [!decide (w < 0)])) s = .ok (.str (txt (out ++ [!decide (w < 0)]))) s := vAdd_txt (by simp; omega)
    have e3 : vAdd (.str (txt out)) (.str (txt [b])) s = .ok (.str (txt (out ++ [b]))) s := vAdd_txt (by simp; omega)
    by_cases h0 : left = 0
    · subst h0
      simp [encC]
      rw [e3]
      simp
      exact ⟨0, out ++ [b], some (.str (txt [b])), by simp, rfl, by rw [← e]; simp, by simp; omega⟩
    · obtain ⟨k, rfl⟩ : ∃ k, left = k + 1 := ⟨left - 1, by omega⟩
      have hp : (0 : Int) < (k : Int) + 1 := by omega
      by_cases hb : b = decide (w < 0)
      · rw [← hb] at e0 e1 e2 e
        simp [encC, txt_inj, txt_01, txt_10, hp, ← hb, e0, e1, e2]
        exact ⟨k, out ++ [!b], some (.str (txt [b])), by simp, rfl, by rw [← e, ← hb, flipN_same]; simp, by simp; omega⟩
      · have hb' : b = !decide (w < 0) := by cases b <;> cases h : decide (w < 0) <;> simp_all
        have hb2 : ¬ ([b] = [decide (w < 0)]) := by simpa using hb
        simp [encC, txt_inj, txt_01, txt_10, hp, e0, hb]
        rw [e3]
        simp
        refine ⟨k + 1, out ++ [b], some (.str (txt [b])), by simp, rfl, ?_, by simp; omega⟩
        rw [← e, hb', flipN_other]
        simp
def LeI (a b : List Bool) (d most : Int) (ws : List D) (st : Store) (ys : List D) (ρ : Envr) (s : Store) : Prop :=
  ∃ (now : List Bool) (hd : List Int) (l7 : Option D), ρ = [some (.str (txt now)), some (.str (txt b)), some (.int d), some (.int most), some (.tup ws), some (.int ((hd.map fun w => (w.natAbs : Int)).sum)), some (.int hd.sum), l7] ∧ s = st ∧ ws = hd.map .int ++ ys ∧ now = hd.foldl movL a ∧ now.length = a.length
theorem leads_ev {a b : List Bool} {d most : Int} {z : D} {st : Store} (hal : a.length ≤ 10 ^ 4) (hz : Thing st z) : F_law_leads [.str (txt a), .str (txt b), .int d, .int most, z] st = .ok (.bl (wayD a b d most z)) st := by
  obtain ⟨h1, h2⟩ := hz
  refine fn_eq ?_
  cases z with
  | tup zs =>
    obtain ⟨hl, ht⟩ := h2 zs rfl
    simp [b_law_leads]
    refine wp_forD (LeI a b d most zs st) ⟨a, [], none, rfl, rfl, rfl, rfl, rfl⟩ ?_ ?_
    · rintro ρ s ⟨now, hd, l7, rfl, rfl, e, hn, hnl⟩
      rw [List.append_nil] at e
      subst e
      have e1 : (hd.map D.int).all isInt = true := by simp [isInt]
      have e2 : (hd.map D.int).map valI = hd := by rw [List.map_map]; exact List.map_id' _
      refine ⟨trivial, ?_⟩
      simp only [wayD, e1, e2, Bool.true_and, wayB, ← hn]
      by_cases hq : now = b <;> by_cases hq2 : hd.sum = d <;> simp [hq, hq2, txt_inj]
    · rintro x ys ρ s hx ⟨now, hd, l7, rfl, rfl, e, hn, hnl⟩
      refine ⟨trivial, _, rfl, ?_⟩
      have tx := ht x hx
      by_cases hi : isInt x = true
      · obtain ⟨w, rfl⟩ : ∃ w, x = .int w := by cases x <;> simp [isInt] at hi; exact ⟨_, rfl⟩
        simp [law_moved_ev (bs := now) (w := w) (by omega)]
        exact ⟨movL now w, hd ++ [w], some (.int w), by simp, rfl, by rw [e]; simp, by rw [hn]; simp, by simpa using hnl⟩
      · have ha' : zs.all isInt = false := by
          rw [e, List.all_append, List.all_cons]; simp [hi]
        simp only [wayD, ha', Bool.false_and]
        cases x with
        | int w => exact absurd rfl hi
        | ref n =>
          obtain ⟨xs, e⟩ := tx
          simp [tyName_ref e]
        | _ => simp
  | ref n =>
    obtain ⟨xs, e⟩ := h1
    simp [b_law_leads, tyName_ref e, wayD]
  | _ => simp [b_law_leads, wayD]
end Ap

namespace Ap
open PySem L2 L3
theorem wp_forF {f : Nat → D} {src : Src} {N C B : Envr → Store → Prop} {R : D → Store → Prop} {st : Store} {ρ : Envr} {t : Tgt} {body : SS} {n : Nat} (I : Nat → Envr → Store → Prop) (h0 : I 0 ρ st) (hend : ∀ ρ st, I n ρ st → src.ok st ∧ N ρ st)
    (step : ∀ i ρ st, i < n → I i ρ st → src.ok st ∧ ∃ ρ1, t.ev (f i) ρ = some ρ1 ∧ wps (body ρ1 st) (I (i + 1)) (I (i + 1)) N R) : wps (forL src t body ((List.range n).map f) ρ st) N C B R := by
  refine wp_for (enc := f) (fun ys ρ s => ∃ i, i ≤ n ∧ ys = List.range' i (n - i) ∧ I i ρ s) ⟨0, by omega, by rw [List.range_eq_range']; simp, h0⟩ ?_ ?_
  · rintro ρ s ⟨i, hi, e, h⟩
    have : n - i = 0 := by
      cases hh : n - i with
      | zero => rfl
      | succ m => rw [hh] at e; simp [List.range'_succ] at e
    have : i = n := by omega
    subst this
    exact hend _ _ h
  · rintro x ys ρ s hx ⟨i, hi, e, h⟩
    have hlt : i < n := by
      by_cases hh : i < n
      · exact hh
      · rw [show n - i = 0 by omega] at e; simp at e
    obtain ⟨m, hm⟩ : ∃ m, n - i = m + 1 := ⟨n - i - 1, by omega⟩
    rw [hm, List.range'_succ, List.cons.injEq] at e
    obtain ⟨rfl, rfl⟩ := e
    obtain ⟨a, ρ1, b, c⟩ := step x ρ s hlt h
    have em : m = n - (x + 1) := by omega
    refine ⟨a, ρ1, b, wps_mono c ?_ ?_ (fun _ _ q => q) (fun _ _ q => q)⟩
    · intro ρ s q; exact ⟨x + 1, by omega, by rw [em], q⟩
    · intro ρ s q; exact ⟨x + 1, by omega, by rw [em], q⟩
theorem count_c {bs : List Bool} {c : Bool} : Txt.count (txt bs) (txt [c]) = ((bs.count c : Nat) : Int) := by
  cases c
  · exact count_0
  · exact count_1
def RoA (a b : List Bool) (d more : Int) (st : Store) (ρ : Envr) (s : Store) : Prop :=
  ∃ (a' : List Bool) (hd : List Int), ρ = [some (.str (txt a')), some (.str (txt b)), some (.int d), some (.ref st.length), some (.int more), none, none, none, none] ∧ s = st ++ [.lst (hd.map .int)] ∧ a'.length = a.length ∧ ((0 < more ∧ waysR a b d = hd ++ plainW a' b ∧ hd.length = 1) ∨ (¬ 0 < more ∧ a' = a ∧ hd = []))
def RoB (a b : List Bool) (d more : Int) (st : Store) (ρ : Envr) (s : Store) : Prop :=
  ∃ (a' : List Bool) (hd : List Int), ρ = [some (.str (txt a')), some (.str (txt b)), some (.int d), some (.ref st.length), some (.int more), none, none, none, none] ∧ s = st ++ [.lst (hd.map .int)] ∧ a'.length = a.length ∧ waysR a b d = hd ++ plainW a' b ∧ hd.length ≤ 1
def RoC (a' b : List Bool) (d more : Int) (hd : List Int) (st : Store) (i : Nat) (ρ : Envr) (s : Store) : Prop :=
  ∃ (k : Nat) (l6 : Option D), ρ = [some (.str (txt a')), some (.str (txt b)), some (.int d), some (.ref st.length), some (.int more), some (.int k), l6, none, none] ∧ s = st ++ [.lst (hd.map .int)] ∧ k + i = a'.length ∧ lastU a' b a'.length = lastU a' b k
def RoD (a' b : List Bool) (d more : Int) (hd : List Int) (st : Store) (ρ : Envr) (s : Store) : Prop :=
  ∃ (k : Nat) (l6 : Option D), ρ = [some (.str (txt a')), some (.str (txt b)), some (.int d), some (.ref st.length), some (.int more), some (.int k), l6, none, none] ∧ s = st ++ [.lst (hd.map .int)] ∧ k ≤ a'.length ∧ lastU a' b a'.length = k
def RoE (a' b : List Bool) (d more : Int) (k : Nat) (T : List Int) (st : Store) (i : Nat) (ρ : Envr) (s : Store) : Prop :=
  ∃ (acc : List Int) (l6 l8 : Option D), ρ = [some (.str (txt a')), some (.str (txt b)), some (.int d), some (.ref st.length), some (.int more), some (.int k), l6, some (.int (sg (lat b (k - i)))), l8] ∧ s = st ++ [.lst (acc.map .int)] ∧ acc ++ tailR (lat b (k - i)) (b.take (k - 1 - i)).reverse = T ∧ acc.length ≤ 2 + i
theorem road_ev {a b : List Bool} {d : Int} {st : Store} (hab : a.length = b.length) (hal : a.length ≤ 10 ^ 4) : F_law_road [.str (txt a), .str (txt b), .int d] st = .ok (.ref st.length) (st ++ [.lst ((waysR a b d).map .int)]) := by
  refine fn_eq ?_
  have ct := count_tf a
  simp [b_law_road, txt_1, txt_0, tCount, count_1, count_0, -xFor_ev, -xIf_ev]
  obtain ⟨more, hm⟩ : ∃ more, more = d - ((b.count true : Int) - a.count true) := ⟨_, rfl⟩
  rw [show d + (a.count true : Int) - (b.count true : Int) = more by omega]
  refine wps_mono (N := RoA a b d more st) (C := fun _ _ => False) (B := fun _ _ => False) (R := fun _ _ => False) ?_ ?_ (fun _ _ q => q.elim) (fun _ _ q => q.elim) (fun _ _ q => q.elim)
  · rw [xIf_ev]
    by_cases h1 : 0 < more
    · have em := fun s => vMul_txt (b := true) (k := (a.length : Int)) (st := s) (by omega)
      have el := fun s => bLen_txt (a := a) (st := s) (by omega)
      simp [h1, tCount, count_0, isLst, el, em]
      rw [mAppend_ev get_last (by simp)]
      simp
      refine ⟨List.replicate a.length true, [(a.count false : Int) + more], rfl, by simp, by simp, .inl ⟨h1, ?_, rfl⟩⟩
      unfold waysR
      rw [← hm, if_pos h1]; rfl
    · simp [h1]
      exact ⟨a, [], rfl, by simp, rfl, .inr ⟨h1, rfl, rfl⟩⟩
  rintro ρ s ⟨a', hd, rfl, rfl, hl', hc⟩
  rw [Kn_ev, xSeq_ev, wps_seq]
  refine wps_mono (N := RoB a b d more st) (C := fun _ _ => False) (B := fun _ _ => False) (R := fun _ _ => False) ?_ ?_ (fun _ _ q => q.elim) (fun _ _ q => q.elim) (fun _ _ q => q.elim)
  · rw [xIf_ev]
    rcases hc with ⟨h1, h2, h3⟩ | ⟨h1, rfl, rfl⟩
    · have : ¬ more < 0 := by omega
      simp [this]
      exact ⟨a', hd, rfl, by simp, hl', h2, by omega⟩
    · by_cases h2 : more < 0
      · have em := fun s => vMul_txt (b := false) (k := (a'.length : Int)) (st := s) (by omega)
        have el := fun s => bLen_txt (a := a') (st := s) (by omega)
        simp [h2, tCount, count_1, isLst, el, em]
        rw [mAppend_ev get_last (by simp)]
        simp
        refine ⟨List.replicate a'.length false, [more - (a'.count true : Int)], rfl, by simp, by simp, ?_, by simp⟩
        unfold waysR
        rw [← hm, if_neg h1, if_pos h2]; rfl
      · simp [h2]
        refine ⟨a', [], rfl, by simp, rfl, ?_, by simp⟩
        unfold waysR
        rw [← hm, if_neg h1, if_neg h2]; rfl
  rintro ρ s ⟨a', hd, rfl, rfl, hl', hW, hd1⟩
  have el := fun s => bLen_txt (a := a') (st := s) (by omega)
  rw [Kn_ev]
  simp [el, -xFor_ev, -xIf_ev]
  refine wps_mono (N := RoD a' b d more hd st) (C := fun _ _ => False) (B := fun _ _ => False) (R := fun _ _ => False) ?_ ?_ (fun _ _ q => q.elim) (fun _ _ q => q.elim) (fun _ _ q => q.elim)
  · rw [xFor_ev]
    simp [el, show -4611686018427387904 ≤ (a'.length : Int) ∧ (a'.length : Int) < 4611686018427387904 by omega, rangeD_zero, -xIf_ev]
    refine wp_forR (RoC a' b d more hd st) ⟨a'.length, none, rfl, rfl, by omega, rfl⟩ ?_ ?_
    · rintro ρ s ⟨k, l6, rfl, rfl, hk, hu⟩
      have : k = 0 := by omega
      subst this
      exact ⟨0, l6, rfl, rfl, by omega, hu⟩
    · rintro i ρ s hi ⟨k, l6, rfl, rfl, hk, hu⟩
      refine ⟨_, rfl, ?_⟩
      obtain ⟨q, rfl⟩ : ∃ q, k = q + 1 := ⟨k - 1, by omega⟩
      have e1 := fun s => vIx_txt (bs := a') (i := q) (b := lat a' (q + 1)) (st := s) (by omega) (lat_get (by omega))
      have e2 := fun s => vIx_txt (bs := b) (i := q) (b := lat b (q + 1)) (st := s) (by omega) (lat_get (by omega))
      rw [xSeq_ev, wps_seq, xIf_ev]
      simp [show ((q : Int) + 1 - 1) = (q : Int) by omega, e1, e2, txt_inj]
      by_cases hq : lat a' (q + 1) = lat b (q + 1)
      · rw [if_pos hq]
        exact ⟨q, _, rfl, rfl, by omega, hu.trans (by rw [lastU, if_pos hq])⟩
      · rw [if_neg hq]
        exact ⟨q + 1, _, rfl, rfl, by omega, hu.trans (by rw [lastU, if_neg hq])⟩
  rintro ρ s ⟨k, l6, rfl, rfl, hk, hu⟩
  rw [Kn_ev, xSeq_ev, wps_seq, xIf_ev]
  simp [-xFor_ev]
  by_cases hk0 : k = 0
  · subst hk0
    have : waysR a b d = hd := by
      rw [hW]
      unfold plainW plainR
      rw [hu, if_pos rfl, List.append_nil]
    simp [this]
  simp [hk0, -xFor_ev]
  obtain ⟨q, rfl⟩ : ∃ q, k = q + 1 := ⟨k - 1, by omega⟩
  have e2 := fun s => vIx_txt (bs := b) (i := q) (b := lat b (q + 1)) (st := s) (by omega) (lat_get (by omega))
  simp [show ((q : Int) + 1 - 1) = (q : Int) by omega, e2, txt_0, txt_inj, -xFor_ev]
  have hsg : (if lat b (q + 1) = false then (-1 : Int) else 1) = sg (lat b (q + 1)) := by cases lat b (q + 1) <;> rfl
  have evs := fun s => vSlice_txt (bs := a') (k := q + 1) (st := s) (by omega) (by omega)
  have ct' := count_tf (a'.take (q + 1))
  have hlt : (a'.take (q + 1)).length = q + 1 := by simp; omega
  have hcc : ((q : Int) + 1) - ((a'.take (q + 1)).count (lat b (q + 1)) : Int) = ((a'.take (q + 1)).count (!lat b (q + 1)) : Nat) := by cases lat b (q + 1) <;> simp <;> omega
  have hcb : (a'.take (q + 1)).count (!lat b (q + 1)) ≤ 10 ^ 4 := by
    have := List.count_le_length (l := a'.take (q + 1)) (a := !lat b (q + 1)); omega
  have hsb : (sg (lat b (q + 1))).natAbs ≤ 10 ^ 30 := by cases lat b (q + 1) <;> simp [sg]
  refine ⟨by simp [isLst], ?_⟩
  rw [show ((q : Int) + 1) = ((q + 1 : Nat) : Int) by omega, evs, wp_ok]
  simp only [tCount, count_c, wp_ok, vSub_int, hsg]
  rw [show (((q + 1 : Nat) : Int) - ((a'.take (q + 1)).count (lat b (q + 1)) : Int)) = ((a'.take (q + 1)).count (!lat b (q + 1)) : Nat) by omega, mul_ev hsb (by omega), wp_ok, mAppend_ev get_last (by simp; omega), wp_ok]
  have hW' : waysR a b d = hd ++ firstW a' (q + 1) (lat b (q + 1)) :: tailR (lat b (q + 1)) (b.take q).reverse := by
    rw [hW]
    unfold plainW plainR
    rw [hu, if_neg (by omega), Nat.add_sub_cancel]
  rw [show sg (lat b (q + 1)) * (((a'.take (q + 1)).count (!lat b (q + 1)) : Nat) : Int) = firstW a' (q + 1) (lat b (q + 1)) from rfl, xFor_ev]
  simp [show ((q : Int) + 1 - 1) = (q : Int) by omega, show -4611686018427387904 ≤ (q : Int) ∧ (q : Int) < 4611686018427387904 by omega, iDown, downD, -xIf_ev]
  refine wp_forF (f := fun k : Nat => D.int ((q : Int) - k)) (RoE a' b d more (q + 1) (waysR a b d) st) ⟨hd ++ [firstW a' (q + 1) (lat b (q + 1))], l6, none, by simp, by simp, by rw [hW']; simp, by simp; omega⟩ ?_ ?_
  · rintro ρ s ⟨acc, l6, l8, rfl, rfl, e, _⟩
    refine ⟨trivial, ?_⟩
    have : acc = waysR a b d := by rw [← e]; simp
    subst this
    simp
  · rintro i ρ s hi ⟨acc, l6, l8, rfl, rfl, e, hal'⟩
    refine ⟨trivial, _, rfl, ?_⟩
    obtain ⟨w, hw⟩ : ∃ w, q = i + 1 + w := ⟨q - (i + 1), by omega⟩
    subst hw
    have e3 := fun s => vIx_txt (bs := b) (i := w) (b := lat b (w + 1)) (st := s) (by omega) (lat_get (by omega))
    have e4 := fun s => vIx_txt (bs := b) (i := w + 1) (b := lat b (w + 2)) (st := s) (by omega) (lat_get (by omega))
    have c1 : (((i + 1 + w : Nat) : Int) - (i : Int)) = ((w + 1 : Nat) : Int) := by omega
    have c2 : (((w + 1 : Nat) : Int) - 1) = (w : Int) := by omega
    have ek : i + 1 + w + 1 - i = w + 2 := by omega
    have ek2 : i + 1 + w + 1 - 1 - i = w + 1 := by omega
    have ek3 : i + 1 + w + 1 - (i + 1) = w + 1 := by omega
    have ek4 : i + 1 + w + 1 - 1 - (i + 1) = w := by omega
    rw [ek, ek2, take_lat (by omega), List.reverse_append] at e
    rw [c1, ek]
    rw [xIf_ev]
    have e3' : ∀ s, vIx (.str (txt b)) (.int ((w : Int) + 1 - 1)) s = .ok (.str (txt [lat b (w + 1)])) s := fun s => by rw [show ((w : Int) + 1 - 1) = (w : Int) by omega]; exact e3 s
    have e4' : ∀ s, vIx (.str (txt b)) (.int ((w : Int) + 1)) s = .ok (.str (txt [lat b (w + 2)])) s := e4
    by_cases hq : lat b (w + 1) = lat b (w + 2)
    · simp [e3, e3', e4', txt_inj, hq]
      refine ⟨acc, l6, _, by rw [ek3, hq]; rfl, rfl, ?_, by omega⟩
      rw [ek3, ek4, ← e, ← hq]
      simp
    · have hn : lat b (w + 2) = !lat b (w + 1) := by cases h1 : lat b (w + 1) <;> cases h2 : lat b (w + 2) <;> simp_all
      have hneg : -sg (lat b (w + 2)) = sg (lat b (w + 1)) := by rw [hn]; cases lat b (w + 1) <;> rfl
      have hmul := fun s => mul_ev (a := sg (lat b (w + 1))) (b := (w : Int) + 1) (st := s) (by cases lat b (w + 1) <;> simp [sg]) (by omega)
      simp [e3, e3', e4', txt_inj, hq, isLst, hneg, hmul, -vMul_int]
      rw [mAppend_ev get_last (by simp; omega)]
      simp
      refine ⟨acc ++ [sg (lat b (w + 1)) * ((w : Int) + 1)], l6, _, by rw [ek3]; rfl, by simp, ?_, by simp; omega⟩
      rw [ek3, ek4, ← e, hn]
      have := tailR_other (x := !lat b (w + 1)) (ys := (b.take w).reverse)
      have hwl : (b.take w).reverse.length = w := by simp; omega
      rw [hwl] at this
      simp only [Bool.not_not] at this
      simp [this]
end Ap

namespace Ap
open PySem L2 L3
theorem bi_of {r : Int} (h0 : 0 ≤ r) (h1 : r < 2) : ∃ b, r = bi b := by
  rcases (show r = 0 ∨ r = 1 by omega) with rfl | rfl
  · exact ⟨false, rfl⟩
  · exact ⟨true, rfl⟩
theorem ix_01 {b : Bool} {st : Store} : vIx (.str (txt [false, true])) (.int (bi b)) st = .ok (.str (txt [b])) st := by
  cases b
  · exact vIx_txt (i := 0) (by simp) rfl
  · exact vIx_txt (i := 1) (by simp) rfl
theorem bi_neg {b : Bool} : 1 - bi b = bi (!b) := by cases b <;> rfl
theorem drS {k : Nat} {o : SO} {L : Store} {many : Int} {Q : D → Store → Prop} (A : Gd k o) (hk : k ≤ 10 ^ 12) (hm : 1 ≤ many ∧ many ≤ 10 ^ 30)
    (h : ∀ r o', Gd (k + 1) o' → 0 ≤ r → r < many → Q (.int r) (o' :: L)) : wp (swept (o :: L) (F_law_draw [.ref 0, .int many] (o :: L))) Q := by
  obtain ⟨_, _, e, r, o', rfl, rfl, A', p, q⟩ := wp_ex (dr (L := L) A hk hm (Q := fun a s => ∃ r o', a = .int r ∧ s = o' :: L ∧ Gd (k + 1) o' ∧ 0 ≤ r ∧ r < many) fun r o' A p q => ⟨r, o', rfl, rfl, A, p, q⟩)
  rw [e, A'.swp rfl .refl, wp_ok]
  exact h r o' A' p q
def LettI (k : Nat) (many : Nat) (kind : Int) (L : Store) (i : Nat) (ρ : Envr) (s : Store) : Prop :=
  ∃ (bs : List Bool) (b : Bool) (o : SO) (l5 : Option D), ρ = [some (.ref 0), some (.int many), some (.int kind), some (.str (txt bs)), some (.int (bi b)), l5] ∧ s = o :: L ∧ Gd (k + 3 + i) o ∧ min i many ≤ bs.length ∧ bs.length ≤ 2 * many + 4
theorem letters_wp {k many : Nat} {o : SO} {L : Store} {Q : D → Store → Prop} (A : Gd k o) (hk : k ≤ 10 ^ 11) (hm : many ≤ 100)
    (h : ∀ (bs : List Bool) o', Gd (k + 200) o' → bs.length = many → Q (.str (txt bs)) (o' :: L)) : wp (F_law_letters [.ref 0, .int many] (o :: L)) Q := by
  refine wp_fn ?_
  simp [b_law_letters, txt_01, txt_e, -xIf_ev, -xFor_ev]
  refine dr A (by omega) (by omega) fun kind o1 A1 p1 q1 => ?_
  try simp [-xFor_ev, -xIf_ev]
  rw [xIf_ev]
  simp [-xFor_ev]
  by_cases h0 : kind = 0
  · simp [h0]
    refine dr A1 (by omega) (by omega) fun r o2 A2 p2 q2 => ?_
    obtain ⟨b, rfl⟩ := bi_of p2 q2
    simp [ix_01, vMul_txt (b := b) (k := (many : Int)) (st := o2 :: L) (by omega)]
    rw [A2.swp rfl .refl, wp_ok]
    exact h _ o2 (A2.mono (by omega)) (by simp)
  simp [h0, -xFor_ev]
  refine dr A1 (by omega) (by omega) fun r o2 A2 p2 q2 => ?_
  obtain ⟨b, rfl⟩ := bi_of p2 q2
  rw [xFor_ev]
  simp [show -4611686018427387904 ≤ (many : Int) ∧ (many : Int) < 4611686018427387904 by omega, rangeD_zero, -xIf_ev]
  refine wp_forR (LettI k many kind L) ⟨[], b, o2, none, rfl, rfl, A2.mono (by omega), by simp, by simp⟩ ?_ ?_
  · rintro ρ s ⟨bs, b, o3, l5, rfl, rfl, A3, h1, h2⟩
    simp [vSlice_txt' (bs := bs) (k := many) (st := o3 :: L) (by omega)]
    rw [A3.swp rfl .refl, wp_ok]
    exact h _ o3 (A3.mono (by omega)) (by simp; omega)
  · rintro i ρ s hi ⟨bs, b, o3, l5, rfl, rfl, A3, h1, h2⟩
    refine ⟨_, rfl, ?_⟩
    rw [xIf_ev]
    have el := fun s => bLen_txt (a := bs) (st := s) (by omega)
    by_cases hlt : bs.length < many
    · obtain ⟨d, ed, v, rfl, hv⟩ := atI_all (P := fun d : D => ∃ v : Int, d = .int v ∧ 1 ≤ v ∧ v ≤ many + 4) (xs := [D.int 1, .int 2, .int 4, .int ((many : Int) + 1)]) (i := kind - 1) (by simp; omega) (by simp; omega)
      simp [el, hlt, ix_01, ed]
      refine drS A3 (by omega) (by omega) fun r o4 A4 p4 q4 => ?_
      have em := fun s => vMul_txt (b := b) (k := 1 + r) (st := s) (by omega)
      have ea := fun s => vAdd_txt (a := bs) (b := List.replicate (1 + r).toNat b) (st := s) (by simp; omega)
      simp [em, ea, bi_neg]
      exact ⟨_, !b, o4, _, rfl, rfl, A4.mono (by omega), by simp; omega, by simp; omega⟩
    · simp [el, hlt]
      exact ⟨bs, b, o3, _, rfl, rfl, A3.mono (by omega), by omega, h2⟩
end Ap

namespace Ap
open PySem L2 L3
theorem vSlice_txt_fr {bs : List Bool} {k : Nat} {st : Store} (h : bs.length < 10 ^ 6) : vSlice (.str (txt bs)) (some (k : Int)) none st = .ok (.str (txt (bs.drop k))) st := by
  unfold vSlice
  simp only [txt_length]
  rw [if_pos (by have := sizeLine_eq; omega)]
  congr 2
  unfold cutS
  rw [HT.sIx_none, HT.sIx_nat, txt_length, txt_list, ← List.map_drop, ← List.map_take]
  show txt _ = txt _
  congr 1
  by_cases hk : k ≤ bs.length
  · rw [Nat.min_eq_left hk, List.take_of_length_le (by simp)]
  · rw [Nat.min_eq_right (by omega), List.drop_eq_nil_of_le (by omega), List.drop_eq_nil_of_le (by omega)]; simp
theorem pair_wp {k : Nat} {o : SO} {L : Store} {Q : D → Store → Prop} (A : Gd k o) (hk : k ≤ 10 ^ 10)
    (h : ∀ (a b : List Bool) (d : Int) o', Gd (k + 600) o' → a.length ≤ 31 → b.length = a.length → d.natAbs ≤ 100 → Q (.ref (L.length + 1)) (o' :: (L ++ [.lst [.str (txt a), .str (txt b), .int d]]))) : wp (F_law_pair [.ref 0] (o :: L)) Q := by
  refine wp_fn ?_
  simp [b_law_pair, -xIf_ev, -xFor_ev]
  refine dr A (by omega) (by omega) fun r1 o1 A1 p1 q1 => ?_
  try simp
  refine dr A1 (by omega) (by omega) fun r2 o2 A2 p2 q2 => ?_
  try simp
  refine pk (P := fun d => ∃ v : Nat, d = .int v ∧ v ≤ 31) A2 (by omega) (by simp) rfl (by simp) (by
    simp
    exact ⟨⟨0, rfl, by omega⟩, ⟨1, rfl, by omega⟩, ⟨(2 + r1).toNat, by omega, by omega⟩, ⟨(1 + r2).toNat, by omega, by omega⟩⟩) fun d o3 hd A3 => ?_
  obtain ⟨n, rfl, hn⟩ := hd
  obtain ⟨_, _, e, a, o4, rfl, rfl, A4, hal⟩ := wp_ex (letters_wp (L := L) A3 (by omega) (show n ≤ 100 by omega) (Q := fun z s => ∃ a o', z = .str (txt a) ∧ s = o' :: L ∧ Gd (k + 1 + 1 + 1 + 200) o' ∧ a.length = n) fun a o' A p => ⟨a, o', rfl, rfl, A, p⟩)
  rw [e, A4.swp rfl .refl, wp_ok]
  have el := fun s => bLen_txt (a := a) (st := s) (by omega)
  simp only [el, wp_ok]
  refine letters_wp A4 (by omega) (by omega) fun b o5 A5 hb => ?_
  simp only [el, wp_ok, vAdd_int]
  refine dr A5 (by omega) (by omega) fun r6 o6 A6 p6 q6 => ?_
  obtain ⟨at_, rfl⟩ := Int.eq_ofNat_of_zero_le p6
  have s1 := fun s => vSlice_txt' (bs := b) (k := at_) (st := s) (by omega)
  have s2 := fun s => vSlice_txt' (bs := a) (k := at_) (st := s) (by omega)
  have s3 := fun s => vSlice_txt_fr (bs := b) (k := at_) (st := s) (by omega)
  have s4 := fun s => vSlice_txt_fr (bs := a) (k := at_) (st := s) (by omega)
  have a1 := fun s => vAdd_txt (a := b.take at_) (b := a.drop at_) (st := s) (by simp; omega)
  have a2 := fun s => vAdd_txt (a := a.take at_) (b := b.drop at_) (st := s) (by simp; omega)
  simp only [s1, s2, s3, s4, a1, a2, wp_ok]
  refine pk (P := fun d => ∃ b' : List Bool, d = .str (txt b') ∧ b'.length = a.length) A6 (by omega) (by simp) rfl (by simp) (by
    simp
    exact ⟨⟨b, rfl, by omega⟩, ⟨a, rfl, rfl⟩, ⟨b.take at_ ++ a.drop at_, rfl, by simp; omega⟩, ⟨a.take at_ ++ b.drop at_, rfl, by simp; omega⟩⟩) fun d o7 hd A7 => ?_
  obtain ⟨b', rfl, hb'⟩ := hd
  have ct := count_tf a
  have ct2 := count_tf b'
  simp [tCount, txt_1, count_1]
  refine dr A7 (by omega) (by omega) fun r8 o8 A8 p8 q8 => ?_
  simp
  refine dr A8 (by omega) (by omega) fun r9 o9 A9 p9 q9 => ?_
  simp
  refine pk (P := fun d => ∃ d' : Int, d = .int d' ∧ d'.natAbs ≤ 100) A9 (by omega) (by simp) rfl (by simp) (by
    simp
    exact ⟨by omega, by omega, by omega⟩) fun d o10 hd A10 => ?_
  obtain ⟨d', rfl, hd'⟩ := hd
  simp
  refine wp_swept_up (by simp) ?_
  exact h a b' d' o10 (A10.mono (by omega)) (by omega) hb' hd'
end Ap

namespace Ap
open PySem L2 L3
def sumA (ws : List Int) : Int := (ws.map fun w => (w.natAbs : Int)).sum
/-- the same road in other parts -/
def Like (ws vs : List Int) : Prop := (∀ a, ws.foldl movL a = vs.foldl movL a) ∧ ws.sum = vs.sum ∧ sumA ws = sumA vs
theorem sumA_append {a b : List Int} : sumA (a ++ b) = sumA a + sumA b := by simp [sumA]
theorem Like.refl {a : List Int} : Like a a := ⟨fun _ => rfl, rfl, rfl⟩
theorem Like.app {a b c d : List Int} (h : Like a b) (h' : Like c d) : Like (a ++ c) (b ++ d) :=
  ⟨fun x => by rw [List.foldl_append, List.foldl_append, h.1, h'.1], by rw [List.sum_append, List.sum_append, h.2.1, h'.2.1], by rw [sumA_append, sumA_append, h.2.2, h'.2.2]⟩
theorem Like.zero {a b : List Int} (h : Like a b) : Like (a ++ [0]) b := by
  have := h.app (c := [0]) (d := []) ⟨fun x => by simp, by simp, by simp [sumA]⟩
  simpa using this
theorem like_two {w : Int} {f : Nat} (h : f ≤ w.natAbs) : Like [(if w < 0 then -1 else 1) * (f : Int), w - (if w < 0 then -1 else 1) * (f : Int)] [w] := by
  refine ⟨fun a => movL_two h, ?_, ?_⟩
  · simp; omega
  · simp only [sumA, List.map_cons, List.map_nil, List.sum_cons, List.sum_nil]
    by_cases hw : w < 0
    · rw [if_pos hw]; omega
    · rw [if_neg hw]; omega
def PaI (k : Nat) (ws : List Int) (L : Store) (ys : List Int) (ρ : Envr) (s : Store) : Prop :=
  ∃ (hd out : List Int) (o : SO) (S : Store) (m : Nat) (l3 l4 l5 : Option D), ws = hd ++ ys ∧ ρ = [some (.ref 0), some (.tup (ws.map .int)), some (.ref (m + 1)), l3, l4, l5] ∧ s = o :: S ∧ Keep L S ∧ S[m]? = some (.lst (out.map .int)) ∧ L.length ≤ m ∧ Gd (k + 2 * hd.length) o ∧ Like out hd ∧ out.length ≤ 3 * hd.length
theorem parted_wp {k : Nat} {o : SO} {L : Store} {ws : List Int} {Q : D → Store → Prop} (A : Gd k o) (hk : k ≤ 10 ^ 10) (hw : ∀ w ∈ ws, w.natAbs ≤ 10 ^ 6) (hl : ws.length ≤ 1000)
    (h : ∀ (vs : List Int) o', Gd (k + 2 * ws.length) o' → Like vs ws → vs.length ≤ 3 * ws.length → Q (.tup (vs.map .int)) (o' :: L)) : wp (F_law_parted [.ref 0, .tup (ws.map .int)] (o :: L)) Q := by
  refine wp_fn ?_
  simp [b_law_parted, -xIf_ev, -List.map_map]
  refine wp_for (enc := D.int) (xs := ws) (PaI k ws L) ⟨[], [], o, L ++ [.lst []], L.length, none, none, none, rfl, rfl, rfl, .app, by simp, by simp, A, .refl, by simp⟩ ?_ ?_
  · rintro ρ s ⟨hd, out, o1, S, m, l3, l4, l5, e, rfl, rfl, K, g, hm, A1, hlk, hol⟩
    rw [List.append_nil] at e
    subst e
    refine ⟨trivial, ?_⟩
    have g' : (o1 :: S)[m + 1]? = some (.lst (out.map .int)) := by simpa using g
    simp [bTuple_ref g', -List.map_map]
    rw [A1.swp (by simp) K, wp_ok]
    exact h out o1 A1 hlk hol
  · rintro w ys ρ s hx ⟨hd, out, o1, S, m, l3, l4, l5, e, rfl, rfl, K, g, hm, A1, hlk, hol⟩
    refine ⟨trivial, _, rfl, ?_⟩
    have hwb := hw w hx
    have hdl : hd.length + (ys.length + 1) ≤ 1000 := by rw [e] at hl; simpa using hl
    simp [-xIf_ev, -List.map_map]
    refine dr A1 (by omega) (by omega) fun r o2 A2 p2 q2 => ?_
    obtain ⟨f, rfl⟩ := Int.eq_ofNat_of_zero_le p2
    have hf : f ≤ w.natAbs := by omega
    have g' : (o2 :: S)[m + 1]? = some (.lst (out.map .int)) := by simpa using g
    have hsb : (if w < 0 then (-1 : Int) else 1).natAbs ≤ 10 ^ 30 := by split <;> decide
    simp only [mul_ev hsb (show (f : Int).natAbs ≤ 10 ^ 30 by omega), wp_ok, vSub_int]
    have hlt := like_two hf
    generalize (if w < 0 then (-1 : Int) else 1) * (f : Int) = p at hlt
    have ea := vAdd_lst (st := (o2 :: S) ++ [.lst [.int p, .int (w - p)]]) (n := m + 1) (m := (o2 :: S).length) (get_push g') get_last (by simp; omega)
    rw [ea, wp_ok]
    obtain ⟨S', hS', K', g2, hm'⟩ : ∃ S', S' = S ++ [.lst [.int p, .int (w - p)], .lst ((out ++ [p, w - p]).map .int)] ∧ Keep L S' ∧ S'[S.length + 1]? = some (.lst ((out ++ [p, w - p]).map .int)) ∧ L.length ≤ S.length + 1 :=
      ⟨_, rfl, K.push, get_a1, by have := K.len; omega⟩
    have hlk' : Like (out ++ [p, w - p]) (hd ++ [w]) := hlk.app hlt
    have hS2 : ((o2 :: S) ++ [.lst [.int p, .int (w - p)]]) ++ [.lst (out.map .int ++ [.int p, .int (w - p)])] = o2 :: S' := by rw [hS']; simp
    have hS3 : ((o2 :: S) ++ [SO.lst [.int p, .int (w - p)]]).length = S.length + 1 + 1 := by simp
    rw [hS2, hS3, xIf_ev]
    simp
    refine dr A2 (by omega) (by omega) fun r3 o3 A3 p3 q3 => ?_
    have g3 : (o3 :: S')[S.length + 1 + 1]? = some (.lst ((out ++ [p, w - p]).map .int)) := by simpa using g2
    by_cases h3 : r3 = 0
    · simp [h3]
      refine ⟨by simp [isLst, g2], ?_⟩
      rw [mAppend_ev g3 (by simp; omega), wp_ok]
      refine ⟨hd ++ [w], out ++ [p, w - p] ++ [0], o3, S'.set (S.length + 1) (.lst ((out ++ [p, w - p]).map .int ++ [.int 0])), S.length + 1, _, _, _, by rw [e]; simp, rfl, by simp, K'.set hm', ?_, hm', A3.mono (by simp; omega), hlk'.zero, by simp; omega⟩
      rw [List.getElem?_set_self (lt_of_get g2)]
      simp
    · simp [h3]
      exact ⟨hd ++ [w], out ++ [p, w - p], o3, S', S.length + 1, _, _, _, by rw [e]; simp, rfl, rfl, K', g2, hm', A3.mono (by simp; omega), hlk', by simp; omega⟩
end Ap

namespace Ap
open PySem L2 L3
theorem vAdd_tt {a b : List D} {st : Store} (h : a.length + b.length ≤ 10 ^ 6) : vAdd (.tup a) (.tup b) st = .ok (.tup (a ++ b)) st := by
  have := sizeLine_eq
  unfold vAdd
  simp only
  rw [if_pos (by omega)]
theorem vSlice_tt {xs : List D} {i j : Option Int} {st : Store} : vSlice (.tup xs) i j st = .ok (.tup (cutD xs i j)) st := by
  unfold vSlice
  rfl
theorem cut_mem {xs : List D} {i j : Option Int} {z : D} (h : z ∈ cutD xs i j) : z ∈ xs := by
  unfold cutD at h
  exact List.mem_of_mem_drop (List.mem_of_mem_take h)
def El (S : Store) (y : D) : Prop := Typed S y ∧ y.low S.length = true
def ThP (S : Store) (z : D) : Prop := Thing S z ∧ z.low S.length = true
theorem ThP.tup {S : Store} {xs : List D} (hl : xs.length ≤ 10 ^ 5) (h : ∀ y ∈ xs, El S y) : ThP S (.tup xs) :=
  ⟨⟨trivial, fun zs e => by cases e; exact ⟨hl, fun y hy => (h y hy).1⟩⟩, by rw [low_tup, lows_iff]; exact fun y hy => (h y hy).2⟩
theorem ThP.el {S : Store} {z : D} (h : El S z) (hz : ∀ zs, z ≠ .tup zs) : ThP S z := ⟨⟨h.1, fun zs e => absurd e (hz zs)⟩, h.2⟩
theorem El.mono {S S' : Store} {y : D} (h : El S y) (K : Lsts S S') (hl : S.length ≤ S'.length) : El S' y := ⟨h.1.mono K, D.low_mono hl _ h.2⟩
theorem ThP.mono {S S' : Store} {y : D} (h : ThP S y) (K : Lsts S S') (hl : S.length ≤ S'.length) : ThP S' y := ⟨h.1.mono K, D.low_mono hl _ h.2⟩
theorem El.ref {S : Store} {n : Nat} {xs : List D} (h : S[n]? = some (.lst xs)) : El S (.ref n) := ⟨⟨xs, h⟩, by simpa using lt_of_get h⟩
theorem el_int {S : Store} {n : Int} : El S (.int n) := ⟨trivial, rfl⟩
theorem el_bl {S : Store} {n : Bool} : El S (.bl n) := ⟨trivial, rfl⟩
theorem el_str {S : Store} {n : Str} : El S (.str n) := ⟨trivial, rfl⟩
theorem el_non {S : Store} : El S .non := ⟨trivial, rfl⟩
theorem el_tup {S : Store} {xs : List D} (h : D.lows S.length xs = true) : El S (.tup xs) := ⟨trivial, by simpa using h⟩
theorem el_ints {S : Store} {ws : List Int} : ∀ y ∈ ws.map D.int, El S y := fun y hy => by
  obtain ⟨n, _, rfl⟩ := List.mem_map.mp hy
  exact el_int
def ThB (S : Store) (n : Nat) (c : Nat) : Prop := ∃ ys : List D, S[n]? = some (.lst ys) ∧ (∀ z ∈ ys, ThP S z) ∧ ys.length ≤ c
def BeI (ws : List Int) (k c : Nat) (L : Store) (n : Nat) (ρ : Envr) (s : Store) : Prop :=
  ∃ (l3 l4 : Option D) (o : SO) (S : Store), ρ = [some (.ref 0), some (.tup (ws.map .int)), some (.ref n), l3, l4] ∧ s = o :: S ∧ Keep L S ∧ Gd k o ∧ ThB s n c ∧ L.length + 1 ≤ n
theorem Gd.lst {k : Nat} {o : SO} (A : Gd k o) : ∃ xs, o = .lst xs := by
  obtain ⟨c, cs, e, _⟩ := A
  exact ⟨_, (List.cons.inj e).1⟩
theorem lsts_head {o o' : SO} {S : Store} (h : ∃ xs, o' = .lst xs) : Lsts (o :: S) (o' :: S) := fun n zs e => by
  cases n with
  | zero => obtain ⟨xs, rfl⟩ := h; exact ⟨xs, rfl⟩
  | succ n => exact ⟨zs, e⟩
theorem set_self {S : Store} {m : Nat} {x : SO} (h : S[m]? = some x) : S.set m x = S := by
  apply List.ext_getElem?
  intro i
  by_cases hi : m = i
  · subst hi; rw [List.getElem?_set_self (lt_of_get h), h]
  · rw [List.getElem?_set_ne hi]
def BwI (ws : List Int) (i m : Nat) (o : SO) (S4 : Store) (ps : List D) (ys : List D) (ρ : Envr) (s : Store) : Prop :=
  ∃ (zs : List D) (l4 : Option D), ρ = [some (.ref 0), some (.tup (ws.map .int)), some (.ref (m + 1)), some (.int i), l4] ∧ s = o :: (S4.set m (.lst zs) ++ [.lst ps]) ∧ (∀ z ∈ zs, ThP (o :: S4) z) ∧ zs.length + ys.length ≤ 40 ∧ ∀ d, l4 = some d → d.low 0 = true
theorem bent_wp {k : Nat} {o : SO} {L : Store} {ws : List Int} {Q : D → Store → Prop} (A : Gd k o) (hk : k ≤ 10 ^ 10) (hw : ∀ w ∈ ws, w.natAbs ≤ 1000) (hl : ws.length ≤ 1000)
    (h : ∀ n o' S, Gd (k + 2) o' → Keep L S → ThB (o' :: S) n 100 → L.length + 1 ≤ n → Q (.ref n) (o' :: S)) : wp (F_law_bent [.ref 0, .tup (ws.map .int)] (o :: L)) Q := by
  refine wp_fn ?_
  have hsl := sizeLine_eq
  have eL : ∀ st ρ, ρ[1]? = some (some (.tup (ws.map .int))) → ρ.length = 5 → sLc (iSeq (sVar 1)) (.nm 4) sYes (sCB bStr (sCons (sVar 4) sNil)) [4] ρ st = .ok (.ref st.length) (st ++ [.lst (ws.map fun w => .str (toString w))]) := fun st ρ h h5 => by
    refine sLc_itsA (f := iSeq (sVar 1)) (t := .nm 4) (elt := sCB bStr (sCons (sVar 4) sNil)) (vs := [4]) D.int (fun w => .str (toString w)) ws (by simp [h]) (by omega) (fun x hx => ?_)
    have hx := hw x hx
    have : x.natAbs.log2 < 1920 := Nat.lt_of_le_of_lt (Nat.log2_le_self _) (by omega)
    obtain ⟨e1, he1⟩ : ∃ e1, (Tgt.nm 4).ev (.int x) (wipeE ρ [4]) = some e1 ∧ e1[4]? = some (some (.int x)) := by
      refine ⟨_, rfl, ?_⟩
      simp [wipeE, h5]
    refine ⟨e1, he1.1, ?_⟩
    simp [he1.2, bStr, this]
  have t1 := fun ds st (h : ds.length ≤ 2) => vAdd_tt (a := ws.map D.int) (b := ds) (st := st) (by simp; omega)
  have t2 := fun ds st (h : ds.length ≤ 2) => vAdd_tt (a := ds) (b := ws.map D.int) (st := st) (by simp; omega)
  have t3 := fun st => vAdd_tt (a := ws.map D.int) (b := ws.map D.int) (st := st) (by simp; omega)
  have t4 := fun st => vAdd_tt (a := ws.map (fun w => D.str (Str.ofString w.repr))) (b := [D.str (Str.ofString "0")]) (st := st) (by simp; omega)
  simp [b_law_bent, -xIf_ev, -xFor_ev, -List.map_map, -sLc_ev, eL, t1, t2, t3, t4, vSlice_tt, vBack_tup]
  have hTy : ∀ (S : Store), ∀ z ∈ ws.map D.int, Typed S z := fun S z hz => by
    obtain ⟨n, _, rfl⟩ := List.mem_map.mp hz
    trivial
  have hLo : ∀ n, D.lows n (ws.map D.int) = true := fun n => lows_map (fun _ => rfl) _
  have hcut : ∀ (S : Store) (i j : Option Int), ∀ z ∈ cutD (ws.map D.int) i j, Typed S z := fun S i j z hz => hTy S z (cut_mem hz)
  generalize hw1 : [D.ref (List.length L + 1), D.non, D.int 0, D.bl true, D.str (Str.ofString ""), D.tup (List.map (fun w => D.str (Str.ofString w.repr)) ws ++ [D.str (Str.ofString "0")]), D.tup (List.map D.int ws ++ [D.bl true]), D.tup (List.map D.int ws ++ [D.bl false]), D.tup [D.tup (List.map D.int ws)]] = w1
  generalize hw2 : [D.tup (List.map D.int ws ++ [D.non]), D.tup (List.map D.int ws ++ [D.int 1, D.int (-1)]), D.tup (List.map D.int ws ++ [D.int (-1), D.int 1]), D.tup (D.int 1 :: D.int (-1) :: List.map D.int ws), D.tup (D.int (-1) :: D.int 1 :: List.map D.int ws), D.tup (List.map D.int ws ++ [D.int 1]), D.tup (List.map D.int ws ++ [D.int (-1)]), D.tup (cutD (List.map D.int ws) (some 1) none)] = w2
  have hl1 : w1.length = 9 := by rw [← hw1]; rfl
  have hl2 : w2.length = 8 := by rw [← hw2]; rfl
  obtain ⟨S1, hS1, KS1, u0, u1, u2⟩ : ∃ S1 : Store, S1 = L ++ [.lst (ws.map D.int), .lst w1, .lst w2] ∧ Keep L S1 ∧ S1[L.length]? = some (.lst (ws.map D.int)) ∧ S1[L.length + 1]? = some (.lst w1) ∧ S1[L.length + 2]? = some (.lst w2) :=
    ⟨_, rfl, .app, get_a0, get_a1, get_a2⟩
  rw [← hS1]
  have ea := vAdd_lst (st := o :: S1) (n := L.length + 1 + 1) (m := L.length + 2 + 1) (by simpa using u1) (by simpa using u2) (by omega)
  rw [ea, wp_ok]
  obtain ⟨S2, hS2, KS2, v0, v1⟩ : ∃ S2 : Store, S2 = S1 ++ [.lst (w1 ++ w2)] ∧ Keep S1 S2 ∧ S2[L.length]? = some (.lst (ws.map D.int)) ∧ S2[S1.length]? = some (.lst (w1 ++ w2)) :=
    ⟨_, rfl, .app, get_push u0, get_last⟩
  rw [List.cons_append, ← hS2]
  simp only [List.length_cons]
  generalize hw3 : [D.tup (List.map D.int ws).reverse, D.tup (cutD (List.map D.int ws) none (some (↑ws.length - 1))), D.tup (List.map D.int ws ++ List.map D.int ws), D.tup [], D.tup [D.int 0], D.tup (List.map D.int ws ++ [D.tup [D.int 0, D.int 0]]), D.tup (List.map D.int ws ++ [D.ref (S2.length + 1)])] = w3
  have hl3 : w3.length = 7 := by rw [← hw3]; rfl
  obtain ⟨S3, hS3, KS3, x0, x1, x2, x3⟩ : ∃ S3 : Store, S3 = S2 ++ [.lst [], .lst w3] ∧ Keep S2 S3 ∧ S3[L.length]? = some (.lst (ws.map D.int)) ∧ S3[S1.length]? = some (.lst (w1 ++ w2)) ∧ S3[S2.length]? = some (.lst []) ∧ S3[S2.length + 1]? = some (.lst w3) :=
    ⟨_, rfl, .app, get_push v0, get_push v1, get_a0, get_a1⟩
  rw [List.cons_append, ← hS3]
  have ea := vAdd_lst (st := o :: S3) (n := S1.length + 1) (m := S2.length + 1 + 1) (by simpa using x1) (by simpa using x3) (by simp; omega)
  rw [ea, wp_ok]
  obtain ⟨S4, hS4, KS4, y0, y1, y2⟩ : ∃ S4 : Store, S4 = S3 ++ [.lst (w1 ++ w2 ++ w3)] ∧ Keep S3 S4 ∧ S4[L.length]? = some (.lst (ws.map D.int)) ∧ S4[S2.length]? = some (.lst []) ∧ S4[S3.length]? = some (.lst (w1 ++ w2 ++ w3)) :=
    ⟨_, rfl, .app, get_push x0, get_push x2, get_last⟩
  rw [List.cons_append, ← hS4]
  simp only [List.length_cons]
  have K4 : Keep L S4 := ((KS1.trans KS2).trans KS3).trans KS4
  have hB : ThB (o :: S4) (S3.length + 1) 24 := by
    refine ⟨_, by simpa using y2, fun z hz => ?_, by simp; omega⟩
    have z0 : (o :: S4)[L.length + 1]? = some (.lst (ws.map D.int)) := by simpa using y0
    have z1 : (o :: S4)[S2.length + 1]? = some (.lst []) := by simpa using y1
    have c0 := lt_of_get z0
    have c1 := lt_of_get z1
    have e0 : ∀ y ∈ ws.map D.int, El (o :: S4) y := el_ints
    have ec : ∀ i j, ∀ y ∈ cutD (ws.map D.int) i j, El (o :: S4) y := fun i j y hy => e0 y (cut_mem hy)
    have es : ∀ y ∈ ws.map (fun w => D.str (Str.ofString w.repr)), El (o :: S4) y := fun y hy => by
      obtain ⟨n, _, rfl⟩ := List.mem_map.mp hy
      exact el_str
    have hcl : ∀ i j, (cutD (ws.map D.int) i j).length ≤ 10 ^ 5 := fun i j => by unfold cutD; simp; omega
    have hA : ∀ z ∈ w1, ThP (o :: S4) z := by
      rw [← hw1]
      simp only [List.forall_mem_cons]
      refine ⟨.el (.ref z0) (by simp), .el el_non (by simp), .el el_int (by simp), .el el_bl (by simp), .el el_str (by simp), .tup (by simp; omega) ?_, .tup (by simp; omega) ?_, .tup (by simp; omega) ?_, .tup (by simp) ?_, by simp⟩
      all_goals simp only [List.forall_mem_append, List.forall_mem_cons]
      · exact ⟨es, el_str, by simp⟩
      · exact ⟨e0, el_bl, by simp⟩
      · exact ⟨e0, el_bl, by simp⟩
      · exact ⟨el_tup (hLo _), by simp⟩
    have hB : ∀ z ∈ w2, ThP (o :: S4) z := by
      rw [← hw2]
      simp only [List.forall_mem_cons]
      refine ⟨.tup (by simp; omega) ?_, .tup (by simp; omega) ?_, .tup (by simp; omega) ?_, .tup (by simp; omega) ?_, .tup (by simp; omega) ?_, .tup (by simp; omega) ?_, .tup (by simp; omega) ?_, .tup (hcl _ _) (ec _ _), by simp⟩
      all_goals simp only [List.forall_mem_append, List.forall_mem_cons]
      · exact ⟨e0, el_non, by simp⟩
      · exact ⟨e0, el_int, el_int, by simp⟩
      · exact ⟨e0, el_int, el_int, by simp⟩
      · exact ⟨el_int, el_int, e0⟩
      · exact ⟨el_int, el_int, e0⟩
      · exact ⟨e0, el_int, by simp⟩
      · exact ⟨e0, el_int, by simp⟩
    have hC : ∀ z ∈ w3, ThP (o :: S4) z := by
      rw [← hw3]
      simp only [List.forall_mem_cons]
      refine ⟨.tup (by simp; omega) ?_, .tup (hcl _ _) (ec _ _), .tup (by simp; omega) ?_, .tup (by simp) (by simp), .tup (by simp) ?_, .tup (by simp; omega) ?_, .tup (by simp; omega) ?_, by simp⟩
      all_goals try simp only [List.forall_mem_append, List.forall_mem_cons]
      · exact fun y hy => e0 y (List.mem_reverse.mp hy)
      · exact ⟨e0, e0⟩
      · exact ⟨el_int, by simp⟩
      · exact ⟨e0, el_tup (by simp), by simp⟩
      · exact ⟨e0, .ref z1, by simp⟩
    rcases (by simpa [List.mem_append] using hz : z ∈ w1 ∨ z ∈ w2 ∨ z ∈ w3) with hz | hz | hz
    · exact hA z hz
    · exact hB z hz
    · exact hC z hz
  have hL3 : L.length ≤ S3.length := ((KS1.trans KS2).trans KS3).len
  clear hS1 hS2 hS3 hS4 u0 u1 u2 v0 v1 x0 x1 x2 x3 y0 y1 ea
  refine wps_mono (N := BeI ws (k + 1) 40 L (S3.length + 1)) (C := fun _ _ => False) (B := fun _ _ => False) (R := fun _ _ => False) ?_ ?_ (fun _ _ q => q.elim) (fun _ _ q => q.elim) (fun _ _ q => q.elim)
  · rw [xIf_ev]
    by_cases h0 : 0 < ws.length
    · have h0' : (0 : Int) < (ws.length : Int) := by omega
      simp [-xFor_ev, h0', h0]
      refine dr A (by omega) (by omega) fun r o2 A2 p2 q2 => ?_
      obtain ⟨i, rfl⟩ := Int.eq_ofNat_of_zero_le p2
      have hi : i < ws.length := by omega
      have hwi := hw ws[i] (by simp)
      have hix : ∀ s, vIx (.tup (ws.map D.int)) (.int i) s = .ok (.int ws[i]) s := fun s => by simp [hi]
      have hm2 := fun s => mul_ev (a := ws[i]) (b := 2) (st := s) (by omega) (by decide)
      refine wps_xswpT ?_
      rw [xFor_ev]
      simp [hix, hm2, -vMul_int, -vIx_tup]
      generalize hps : [D.int (ws[i] + 1), D.int (ws[i] - 1), D.int (-ws[i]), D.int (ws[i] * 2), D.int 0, D.int 100000000000000000000000000000000000000000000000000, D.int (-100000000000000000000000000000000000000000000000000)] = ps
      have hpi : ∀ d ∈ ps, ∃ n, d = D.int n := by
        rw [← hps]
        simp only [List.forall_mem_cons]
        exact ⟨⟨_, rfl⟩, ⟨_, rfl⟩, ⟨_, rfl⟩, ⟨_, rfl⟩, ⟨_, rfl⟩, ⟨_, rfl⟩, ⟨_, rfl⟩, by simp⟩
      have hpl : ps.length = 7 := by rw [← hps]; rfl
      have gs : (o2 :: (S4 ++ [SO.lst ps]))[S4.length + 1]? = some (.lst ps) := by simp
      rw [srcOf_of gs]
      simp only [wp_ok, Src.all]
      obtain ⟨ys0, b1, b2, b3⟩ := hB
      have b1' : S4[S3.length]? = some (.lst ys0) := by simpa using b1
      have hS34 := lt_of_get b1'
      refine wp_forD (BwI ws i S3.length o2 S4 ps) ⟨ys0, none, rfl, by rw [set_self b1'], fun z hz => (b2 z hz).mono (lsts_head A2.lst) (by simp), by omega, by simp⟩ ?_ ?_
      · rintro ρ s ⟨zs, l4, rfl, rfl, hz, hzl, hlow⟩
        refine ⟨by simp [Src.ok], ⟨by simp, fun d hd => ?_, ?_⟩, ?_⟩
        · simp only [List.mem_cons, Option.some.injEq, List.not_mem_nil, or_false] at hd
          rcases hd with rfl | rfl | rfl | rfl | hd
          · simp
          · simpa using hLo _
          · simpa using hS34
          · simp
          · exact D.low_mono (Nat.zero_le _) d (hlow d hd.symm)
        · intro j x hj e
          cases j with
          | zero => exact .inl e
          | succ j =>
            simp only [List.getElem?_cons_succ] at e ⊢
            rw [List.getElem?_append_left (by simp; omega)] at e
            by_cases hjm : S3.length = j
            · subst hjm
              rw [List.getElem?_set_self hS34] at e
              right
              cases e
              simp only [SO.low]
              rw [lows_iff]
              exact fun d hd => by simpa using (hz d hd).2
            · rw [List.getElem?_set_ne hjm] at e
              exact .inl e
        · have e : (o2 :: (S4.set S3.length (SO.lst zs) ++ [SO.lst ps])).take (S4.length + 1) = o2 :: S4.set S3.length (.lst zs) := by
            rw [List.take_succ_cons, List.take_append_of_le_length (by simp), List.take_of_length_le (by simp)]
          rw [e]
          have hK : Lsts (o2 :: S4) (o2 :: S4.set S3.length (.lst zs)) := by
            have := Lsts.set (S := o2 :: S4) (i := S3.length + 1) (xs := zs)
            simpa using this
          refine ⟨_, l4, o2, S4.set S3.length (.lst zs), rfl, rfl, K4.set hL3, A2, ⟨zs, ?_, fun z hz' => (hz z hz').mono hK (by simp), by simpa using hzl⟩, by omega⟩
          simp only [List.getElem?_cons_succ]
          rw [List.getElem?_set_self hS34]
      · rintro x ys ρ s hx ⟨zs, l4, rfl, rfl, hz, hzl, hlow⟩
        obtain ⟨x, rfl⟩ := hpi x hx
        refine ⟨?_, _, rfl, ?_⟩
        · simp [Src.ok]
        have gz : (o2 :: (S4.set S3.length (SO.lst zs) ++ [SO.lst ps]))[S3.length + 1]? = some (.lst zs) := by
          simp only [List.getElem?_cons_succ]
          rw [List.getElem?_append_left (by simpa using hS34), List.getElem?_set_self hS34]
        have hcl : ∀ i j, (cutD (ws.map D.int) i j).length ≤ 1000 := fun i j => by unfold cutD; simp; omega
        have c1 := hcl none (some (i : Int))
        have c2 := hcl (some ((i : Int) + 1)) none
        simp [vSlice_tt]
        refine ⟨by simp only [isLst, gz], ?_⟩
        rw [vAdd_tt (by simp; omega), wp_ok, vAdd_tt (by simp; omega), wp_ok, mAppend_ev gz (by simp at hzl; omega), wp_ok]
        refine ⟨zs ++ [.tup (cutD (List.map D.int ws) none (some ↑i) ++ [D.int x] ++ cutD (List.map D.int ws) (some (↑i + 1)) none)], _, rfl, ?_, fun z hz' => ?_, by simp at hzl ⊢; omega, by simp⟩
        · rw [List.set_cons_succ, List.set_append_left _ _ (by simpa using hS34), List.set_set]
        · rcases List.mem_append.mp hz' with hz' | hz'
          · exact hz z hz'
          · rw [List.mem_singleton.mp hz']
            refine .tup (by simp; omega) fun y hy => ?_
            simp only [List.mem_append, List.mem_singleton] at hy
            rcases hy with (hy | rfl) | hy
            · exact el_ints y (cut_mem hy)
            · exact el_int
            · exact el_ints y (cut_mem hy)
    · have h0' : ¬ (0 : Int) < (ws.length : Int) := by omega
      simp [h0, h0']
      exact ⟨none, none, o, S4, rfl, rfl, K4, A.mono (by omega), by obtain ⟨ys, a, b, c⟩ := hB; exact ⟨ys, a, b, by omega⟩, by omega⟩
  · rintro ρ s ⟨l3, l4, o1, S, rfl, rfl, K, A1, B1, hn⟩
    rw [Kn_ev]
    simp [-xIf_ev]
    refine wps_mono (N := BeI ws (k + 2) 100 L (S3.length + 1)) (C := fun _ _ => False) (B := fun _ _ => False) (R := fun _ _ => False) ?_ ?_ (fun _ _ q => q.elim) (fun _ _ q => q.elim) (fun _ _ q => q.elim)
    · rw [xIf_ev]
      by_cases h0 : 1 < ws.length
      · have h0' : (1 : Int) < (ws.length : Int) := by omega
        simp [h0, h0']
        refine dr A1 (by omega) (by omega) fun r o2 A2 p2 q2 => ?_
        obtain ⟨i, rfl⟩ := Int.eq_ofNat_of_zero_le p2
        have hi : i < ws.length := by omega
        have hi1 : i + 1 < ws.length := by omega
        have hix : (ws.map D.int)[i]? = some (.int ws[i]) := by simp [hi]
        have hix1 : (ws.map D.int)[i + 1]? = some (.int ws[i + 1]) := by simp [hi1]
        have hcl : ∀ i j, (cutD (ws.map D.int) i j).length ≤ 1000 := fun i j => by unfold cutD; simp; omega
        have c1 := hcl none (some (i : Int))
        have c2 := hcl (some ((i : Int) + 2)) none
        obtain ⟨ys, b1, b2, b3⟩ := B1
        have hix' : atI (ws.map D.int) (i : Int) = some (.int ws[i]) := by simp only [atI_nat', hix]
        have hix1' : atI (ws.map D.int) ((i : Int) + 1) = some (.int ws[i + 1]) := by rw [show (i : Int) + 1 = ((i + 1 : Nat) : Int) by omega]; simp only [atI_nat', hix1]
        have b1' : S[S3.length]? = some (.lst ys) := by simpa using b1
        simp [vSlice_tt, hix', hix1']
        have g1 : (o2 :: S)[S3.length + 1]? = some (.lst ys) := by simpa using b1'
        have hS := lt_of_get b1'
        refine ⟨by simp only [isLst, g1], ?_⟩
        rw [vAdd_tt (by simp; omega), wp_ok, vAdd_tt (by simp; omega), wp_ok, mAppend_ev g1 (by omega), wp_ok]
        generalize hz1 : D.tup (cutD (List.map D.int ws) none (some ↑i) ++ [D.int ws[i + 1], D.int ws[i]] ++ cutD (List.map D.int ws) (some (↑i + 2)) none) = z1
        have g2 : ((o2 :: S).set (S3.length + 1) (.lst (ys ++ [z1])))[S3.length + 1]? = some (.lst (ys ++ [z1])) := by rw [List.getElem?_set_self (lt_of_get g1)]
        refine ⟨by simp only [isLst, g2], ?_⟩
        rw [vAdd_tt (by simp; omega), wp_ok, vAdd_tt (by simp; omega), wp_ok, mAppend_ev g2 (by simp; omega), wp_ok]
        generalize hz2 : D.tup (cutD (List.map D.int ws) none (some ↑i) ++ [D.int (ws[i] + ws[i + 1])] ++ cutD (List.map D.int ws) (some (↑i + 2)) none) = z2
        rw [List.set_set]
        have hK : Lsts (o1 :: S) ((o2 :: S).set (S3.length + 1) (.lst (ys ++ [z1] ++ [z2]))) := (lsts_head A2.lst).trans .set
        refine ⟨_, l4, o2, S.set S3.length (.lst (ys ++ [z1] ++ [z2])), rfl, by rw [List.set_cons_succ], K.set hL3, A2, ⟨ys ++ [z1] ++ [z2], by rw [List.getElem?_set_self (lt_of_get g1)], fun z hz => ?_, by simp; omega⟩, by omega⟩
        simp only [List.mem_append, List.mem_singleton] at hz
        rcases hz with (hz | rfl) | rfl
        · exact (b2 z hz).mono hK (by simp)
        · rw [← hz1]
          refine .tup (by simp; omega) fun y hy => ?_
          simp only [List.mem_append, List.mem_cons, List.not_mem_nil, or_false] at hy
          rcases hy with (hy | rfl | rfl) | hy
          · exact el_ints y (cut_mem hy)
          · exact el_int
          · exact el_int
          · exact el_ints y (cut_mem hy)
        · rw [← hz2]
          refine .tup (by simp; omega) fun y hy => ?_
          simp only [List.mem_append, List.mem_cons, List.not_mem_nil, or_false] at hy
          rcases hy with (hy | rfl) | hy
          · exact el_ints y (cut_mem hy)
          · exact el_int
          · exact el_ints y (cut_mem hy)
      · have h0' : ¬ (1 : Int) < (ws.length : Int) := by omega
        simp [h0, h0']
        obtain ⟨ys, b1, b2, b3⟩ := B1
        exact ⟨l3, l4, o1, S, rfl, rfl, K, A1.mono (by omega), ⟨ys, b1, b2, by omega⟩, by omega⟩
    · rintro ρ s ⟨l3, l4, o1, S, rfl, rfl, K, A1, B1, hn⟩
      simp
      exact wp_swept_up (by simp; omega) (h _ o1 S A1 K B1 hn)
end Ap

namespace Ap
open PySem L2 L3
theorem keep_cons {o : SO} {M S : Store} (K : Keep (o :: M) S) : ∃ R, S = o :: R ∧ Keep M R := by
  cases S with
  | nil => have := K.len; simp at this
  | cons x R =>
    have h0 := K.at_ 0 (by simp)
    simp at h0
    subst h0
    refine ⟨R, rfl, ⟨by have := K.len; simpa using this, fun i hi => ?_⟩⟩
    have := K.at_ (i + 1) (by simpa using hi)
    simpa using this
theorem keep_cons' {o : SO} {M R : Store} (K : Keep M R) : Keep (o :: M) (o :: R) := ⟨by simpa using K.len, fun i hi => by
  cases i with
  | zero => rfl
  | succ i => simpa using K.at_ i (by simpa using hi)⟩
theorem keep_take {M R : Store} {n : Nat} (K : Keep M R) (hn : M.length ≤ n) : Keep M (R.take n) := ⟨by have := K.len; simp; omega, fun i hi => by rw [List.getElem?_take, if_pos (by omega)]; exact K.at_ i hi⟩
/-- the first ten slots -/
def AsA (n1 : Nat) (a b : List Bool) (d : Int) (W : List Int) (S : Store) (ρ : Envr) (s : Store) : Prop :=
  ∃ l10 l11 l12 l13 l14 l15 l16 l17 l18, ρ = [some (.ref 0), some (.ref n1), some (.str (txt a)), some (.str (txt b)), some (.int d), some (wdD a), some (wdD b), some (.tup (W.map .int)), some (.int (sumA W)), some (.int (sumA W)), l10, l11, l12, l13, l14, l15, l16, l17, l18] ∧ Keep S s
def AsB (n1 : Nat) (a b : List Bool) (d : Int) (W : List Int) (z : D) (S : Store) (ρ : Envr) (s : Store) : Prop :=
  ∃ l11 l12 l13 l14 l15 l16 l17 l18, ρ = [some (.ref 0), some (.ref n1), some (.str (txt a)), some (.str (txt b)), some (.int d), some (wdD a), some (wdD b), some (.tup (W.map .int)), some (.int (sumA W)), some (.int (sumA W)), some z, l11, l12, l13, l14, l15, l16, l17, l18] ∧ Keep S s
def AsR (n1 : Nat) (a b : List Bool) (d : Int) (W : List Int) (o : SO) (M : Store) (ρ : Envr) (s : Store) : Prop := AsA n1 a b d W (o :: M) ρ s
def AsC (n1 : Nat) (a b : List Bool) (d : Int) (W : List Int) (lg most : D) (S : Store) (ρ : Envr) (s : Store) : Prop :=
  ∃ l10 l12 l13 l15 l16 l17 l18, ρ = [some (.ref 0), some (.ref n1), some (.str (txt a)), some (.str (txt b)), some (.int d), some (wdD a), some (wdD b), some (.tup (W.map .int)), some (.int (sumA W)), some (.int (sumA W)), l10, some most, l12, l13, some lg, l15, l16, l17, l18] ∧ Keep S s
def AsD (n1 : Nat) (a b : List Bool) (d : Int) (W : List Int) (lg most z : D) (S : Store) (ρ : Envr) (s : Store) : Prop :=
  ∃ l10 l12 l13 l16 l17 l18, ρ = [some (.ref 0), some (.ref n1), some (.str (txt a)), some (.str (txt b)), some (.int d), some (wdD a), some (wdD b), some (.tup (W.map .int)), some (.int (sumA W)), some (.int (sumA W)), l10, some most, l12, l13, some lg, some z, l16, l17, l18] ∧ Keep S s
theorem thing_ints {S : Store} {ws : List Int} (h : ws.length ≤ 10 ^ 5) : Thing S (.tup (ws.map .int)) :=
  ⟨trivial, fun zs e => by cases e; exact ⟨by simpa using h, fun y hy => by obtain ⟨n, _, rfl⟩ := List.mem_map.mp hy; trivial⟩⟩
theorem wayD_ints {a b : List Bool} {d m : Int} {ws : List Int} : wayD a b d m (.tup (ws.map .int)) = wayB a b d m ws := by
  have e1 : (ws.map D.int).all isInt = true := by simp [isInt]
  have e2 : (ws.map D.int).map valI = ws := by rw [List.map_map]; exact List.map_id' _
  simp only [wayD, e1, e2, Bool.true_and]
theorem like_way {a b : List Bool} {d m : Int} {vs : List Int} (hab : a.length = b.length) (h : Like vs (waysR a b d)) : wayB a b d m vs = decide (sumA (waysR a b d) ≤ m) := by
  obtain ⟨h1, h2⟩ := waysR_leads (a := a) (b := b) (d := d) hab
  obtain ⟨l1, l2, l3⟩ := h
  unfold wayB
  rw [l1, l2, h1, h2, show (vs.map fun w => (w.natAbs : Int)).sum = sumA vs from rfl, l3]
  simp
theorem sumA_nonneg (ws : List Int) : 0 ≤ sumA ws := by
  unfold sumA
  induction ws with
  | nil => simp
  | cons w ws ih => simp only [List.map_cons, List.sum_cons]; omega
theorem sumA_le {ws : List Int} {c : Nat} (h : ∀ w ∈ ws, w.natAbs ≤ c) : sumA ws ≤ ws.length * c := by
  unfold sumA
  induction ws with
  | nil => simp
  | cons w ws ih =>
    have := h w (by simp)
    have := ih fun v hv => h v (by simp [hv])
    simp only [List.map_cons, List.sum_cons, List.length_cons]
    rw [Int.natCast_add, Int.add_mul]
    omega
def AsN (k n1 : Nat) (a b : List Bool) (d : Int) (W : List Int) (M : Store) (ρ : Envr) (s : Store) : Prop := ∃ o3, Gd k o3 ∧ AsA n1 a b d W (o3 :: M) ρ s
theorem inner_lp {n1 : Nat} {a b : List Bool} {d : Int} {W : List Int} {z : D} {S : Store} {ρ : Envr} {s : Store} {f : SE} {xs : List Int} {c : Bool} (hρ : AsB n1 a b d W z S ρ s) (hf : f ρ s = .ok (.ref s.length) (s ++ [.lst (xs.map .int)]))
    (hb : ∀ x ∈ xs, ∀ st, F_is_way [wdD a, wdD b, .int d, .int x, z] st = .ok (.bl c) st) :
    wps (xSwp (xFor (iSeq f) (.nm 11) (xIf (sBool (s2 vIsNot (sCB F_is_way (sCons (sVar 5) (sCons (sVar 6) (sCons (sVar 4) (sCons (sVar 11) (sCons (sVar 10) sNil)))))) (sC (.bl c)))) (xRet (sC (.bl false))) xNil)) ρ s) (AsB n1 a b d W z S) (fun _ _ => False) (fun _ _ => False) (fun _ _ => False) := by
  have hK : Keep S s := by obtain ⟨_, _, _, _, _, _, _, _, _, K⟩ := hρ; exact K
  refine wps_xswp ?_
  rw [xFor_ev]
  simp [hf, srcOf_of get_last]
  refine wp_for (enc := D.int) (xs := xs) (fun _ => AsB n1 a b d W z (s ++ [.lst (xs.map .int)])) ?_ ?_ ?_
  · obtain ⟨l11, l12, l13, l14, l15, l16, l17, l18, rfl, K⟩ := hρ
    exact ⟨l11, l12, l13, l14, l15, l16, l17, l18, rfl, .refl⟩
  · rintro ρ s' ⟨l11, l12, l13, l14, l15, l16, l17, l18, rfl, K⟩
    have K' : Keep S s' := (hK.push).trans K
    exact ⟨K.get get_last, ⟨l11, l12, l13, l14, l15, l16, l17, l18, rfl, K'⟩, ⟨l11, l12, l13, l14, l15, l16, l17, l18, rfl, keep_take K' hK.len⟩⟩
  · rintro x ys ρ s' hx ⟨l11, l12, l13, l14, l15, l16, l17, l18, rfl, K⟩
    refine ⟨K.get get_last, _, rfl, ?_⟩
    simp [hb x hx, vIsNot]
    exact ⟨_, _, _, _, _, _, _, _, rfl, K⟩
theorem yes_ev {c : Bool} {st : Store} : F_law_yes [.bl c, .bl c] st = .ok (.bl true) st := by
  refine (fn_rt (st' := st) (d := .bl true) ?_).trans swept_same
  cases c <;> simp [b_law_yes, truth, vIs]
theorem bars_lp {n1 : Nat} {a b : List Bool} {d : Int} {W : List Int} {lg z : D} {mo : Int} {S : Store} {ρ : Envr} {s : Store} (hal : a.length ≤ 10 ^ 4) (hz : Thing S z) (hρ : AsD n1 a b d W lg (.int mo) z S ρ s) :
    wps (xSwp (xFor (iSeq (sLst (sCons (sVar 11) (sCons (sVar 8) (sCons (s2 vAdd (sVar 8) (sC (.int 2))) sNil))))) (.nm 16) (xSeq (xAsg (.nm 17) (sCB F_law_leads (sCons (sVar 2) (sCons (sVar 3) (sCons (sVar 4) (sCons (sVar 16) (sCons (sVar 15) sNil)))))))
    (xIf (sNot (sTruth (sCB F_law_yes (sCons (sCB F_is_way (sCons (sVar 5) (sCons (sVar 6) (sCons (sVar 4) (sCons (sVar 16) (sCons (sVar 15) sNil)))))) (sCons (sVar 17) sNil))))) (xRet (sC (.bl false))) xNil))) ρ s) (AsC n1 a b d W lg (.int mo) S) (fun _ _ => False) (fun _ _ => False) (fun _ _ => False) := by
  obtain ⟨l10, l12, l13, l16, l17, l18, rfl, hK⟩ := hρ
  refine wps_xswp ?_
  rw [xFor_ev]
  simp [srcOf_of get_last, -xIf_ev]
  refine wp_for (enc := D.int) (xs := [mo, sumA W, sumA W + 2]) (fun _ => AsD n1 a b d W lg (.int mo) z (s ++ [.lst [.int mo, .int (sumA W), .int (sumA W + 2)]])) ?_ ?_ ?_
  · exact ⟨l10, l12, l13, l16, l17, l18, rfl, .refl⟩
  · rintro ρ s' ⟨l10, l12, l13, l16, l17, l18, rfl, K⟩
    have K' : Keep S s' := (hK.push).trans K
    exact ⟨K.get get_last, ⟨l10, l12, l13, _, l16, l17, l18, rfl, K'⟩, ⟨l10, l12, l13, _, l16, l17, l18, rfl, keep_take K' hK.len⟩⟩
  · rintro x ys ρ s' hx ⟨l10, l12, l13, l16, l17, l18, rfl, K⟩
    refine ⟨K.get get_last, _, rfl, ?_⟩
    have hz' : Thing s' z := hz.mono (.keep ((hK.push).trans K))
    simp [leads_ev hal hz', is_way_ev hal hz', yes_ev]
    exact ⟨_, _, _, _, _, _, rfl, K⟩
theorem asked_wp {k : Nat} {o : SO} {L : Store} {Q : D → Store → Prop} (A : Gd k o) (hk : k ≤ 10 ^ 9)
    (h : ∀ o', Gd (k + 3000) o' → Q (.bl true) (o' :: L)) : wp (F_law_asked [.ref 0] (o :: L)) Q := by
  have hsl := sizeLine_eq
  refine wp_fn ?_
  simp [b_law_asked, -xIf_ev, -xFor_ev, -sLc_ev]
  refine pair_wp A (by omega) fun a b d o1 A1 ha hb hd => ?_
  have hwa := wd_len a
  have hwb := wd_len b
  have hsz := waysR_size (a := a) (b := b) (d := d) hb.symm
  obtain ⟨W, hW⟩ : ∃ W, W = waysR a b d := ⟨_, rfl⟩
  rw [← hW] at hsz
  have hWl : W.length ≤ 32 := by omega
  have hWb : ∀ w ∈ W, w.natAbs ≤ 193 := fun w hw => by have := hsz.2 w hw; omega
  have hsA := sumA_le hWb
  have hs0 := sumA_nonneg W
  have hs1 : sumA W ≤ 6176 := by have : (W.length : Int) * (193 : Nat) ≤ 32 * (193 : Nat) := Int.mul_le_mul_of_nonneg_right (by omega) (by omega); omega
  have elw := fun s => law_word_ev (bs := a) (st := s) (by omega)
  have elw2 := fun s => law_word_ev (bs := b) (st := s) (by omega)
  have er := fun s => road_ev (a := a) (b := b) (d := d) (st := s) hb.symm (by omega)
  rw [← hW] at er
  have elw3 := fun s => least_way_ev (a := a) (b := b) (d := d) (st := s) (by omega) (by omega) hb.symm (by omega)
  rw [← hW] at elw3
  obtain ⟨M, hM⟩ : ∃ M : Store, M = L ++ [SO.lst [D.str (txt a), D.str (txt b), D.int d]] := ⟨_, rfl⟩
  have hKM : Keep L M := by rw [hM]; exact .app
  simp [elw, elw2, -xIf_ev, -xFor_ev, -sLc_ev, -List.map_map]
  rw [← hM]
  obtain ⟨S1, hS1⟩ : ∃ S1 : Store, S1 = o1 :: M := ⟨_, rfl⟩
  rw [← hS1, er, wp_ok, bTuple_ref get_last, swept_push (by simp), wp_ok]
  have eSL : ∀ (ρ : Envr) (j : Nat) (vs : List Int) (st : Store), vs.length ≤ 1000 → j < 18 → ρ.length = 19 → ρ[j]? = some (some (.tup (vs.map .int))) → sLc (iSeq (sVar j)) (.nm 18) sYes (sCB bAbs (sCons (sVar 18) sNil)) [18] ρ st = .ok (.ref st.length) (st ++ [.lst ((vs.map fun w => (w.natAbs : Int)).map D.int)]) := fun ρ j vs st hv hj h19 e => by
    have e2 : (vs.map fun w => (w.natAbs : Int)).map D.int = vs.map (fun w => D.int (w.natAbs : Int)) := by simp [Function.comp_def]
    rw [e2]
    have hj' : (wipeE ρ [18])[j]? = some (some (.tup (vs.map .int))) := by
      simp only [wipeE]
      rw [List.getElem?_set_ne (by omega), e]
    refine sLc_itsA (f := iSeq (sVar j)) (t := .nm 18) (elt := sCB bAbs (sCons (sVar 18) sNil)) (vs := [18]) D.int (fun w => .int (w.natAbs : Int)) vs (by simp [e]) (by omega) (fun x hx => ?_)
    obtain ⟨e1, he1⟩ : ∃ e1, (Tgt.nm 18).ev (.int x) (wipeE ρ [18]) = some e1 ∧ e1[18]? = some (some (.int x)) := by
      refine ⟨_, rfl, ?_⟩
      simp [wipeE, h19]
    exact ⟨e1, he1.1, by simp [he1.2]⟩
  rw [eSL _ 7 W _ (by omega) (by omega) rfl rfl, wp_ok, bSum_push, swept_push (by simp), wp_ok, show (W.map fun w => (w.natAbs : Int)).sum = sumA W from rfl]
  have eld : ∀ (m : Int) (vs : List Int) st, vs.length ≤ 10 ^ 5 → F_law_leads [.str (txt a), .str (txt b), .int d, .int m, .tup (vs.map .int)] st = .ok (.bl (wayB a b d m vs)) st := fun m vs st hv => by rw [leads_ev (by omega) (thing_ints hv), wayD_ints]
  have eiw : ∀ (m : Int) (vs : List Int) st, vs.length ≤ 10 ^ 5 → F_is_way [wdD a, wdD b, .int d, .int m, .tup (vs.map .int)] st = .ok (.bl (wayB a b d m vs)) st := fun m vs st hv => by rw [is_way_ev (by omega) (thing_ints hv), wayD_ints]
  have hlW : Like W (waysR a b d) := by rw [hW]; exact .refl
  have hwB : ∀ (m : Int) (vs : List Int), Like vs W → wayB a b d m vs = decide (sumA W ≤ m) := fun m vs hv => by rw [hW] at hv ⊢; exact like_way hb.symm hv
  rw [xIf_ev]
  simp [eld _ W _ (by omega), hwB _ W .refl, -xFor_ev, -xIf_ev, -sLc_ev, -List.map_map]
  rw [show (W.map fun w => (w.natAbs : Int)).sum = sumA W from rfl] at elw3
  simp [elw3, -xFor_ev, -xIf_ev, -sLc_ev, -List.map_map]
  rw [xIf_ev]
  simp [-xFor_ev, -xIf_ev, -sLc_ev, -List.map_map]
  refine wps_mono (N := AsN (k + 1000) (L.length + 1) a b d W M) (C := fun _ _ => False) (B := fun _ _ => False) (R := fun _ _ => False) ?_ ?_ (fun _ _ q => q.elim) (fun _ _ q => q.elim) (fun _ _ q => q.elim)
  · refine wps_xswp ?_
    rw [xFor_ev, hS1]
    simp [-xFor_ev, -xIf_ev, -List.map_map]
    refine parted_wp A1 (by omega) (fun w hw => by have := hWb w hw; omega) (by omega) fun v1 o2 A2 hv1 hl1 => ?_
    try simp [-xFor_ev, -xIf_ev, -List.map_map]
    refine parted_wp A2 (by omega) (fun w hw => by have := hWb w hw; omega) (by omega) fun v2 o3 A3 hv2 hl2 => ?_
    generalize hps : [D.tup (W.map .int), D.tup (v1.map .int), D.tup (v2.map .int)] = ps
    have hps' : ∀ z ∈ ps, ∃ vs : List Int, z = .tup (vs.map .int) ∧ Like vs W ∧ vs.length ≤ 10 ^ 5 := by
      rw [← hps]
      simp only [List.forall_mem_cons]
      exact ⟨⟨W, rfl, .refl, by omega⟩, ⟨v1, rfl, hv1, by omega⟩, ⟨v2, rfl, hv2, by omega⟩, by simp⟩
    have gp : (o3 :: (M ++ [SO.lst ps]))[M.length + 1]? = some (.lst ps) := by simp
    simp [srcOf_of gp, -xFor_ev, -xIf_ev]
    obtain ⟨S3, hS3⟩ : ∃ S3 : Store, S3 = o3 :: (M ++ [SO.lst ps]) := ⟨_, rfl⟩
    rw [← hS3] at gp ⊢
    have hK3 : Keep (o3 :: M) S3 := by rw [hS3]; exact keep_cons' .app
    refine wp_forD (fun _ => AsA (L.length + 1) a b d W S3) ⟨none, none, none, none, none, none, none, none, none, rfl, .refl⟩ ?_ ?_
    · rintro ρ s ⟨l10, l11, l12, l13, l14, l15, l16, l17, l18, rfl, K⟩
      refine ⟨K.get gp, ⟨o3, A3.mono (by omega), l10, l11, l12, l13, l14, l15, l16, l17, l18, rfl, hK3.trans K⟩, ⟨o3, A3.mono (by omega), l10, l11, l12, l13, l14, l15, l16, l17, l18, rfl, keep_take (hK3.trans K) (by simp)⟩⟩
    · rintro z ys ρ s hz ⟨l10, l11, l12, l13, l14, l15, l16, l17, l18, rfl, K⟩
      refine ⟨K.get gp, _, rfl, ?_⟩
      obtain ⟨vs, rfl, hvs, hvl⟩ := hps' z hz
      rw [xSeq_ev, wps_seq]
      refine wps_mono (inner_lp (xs := [sumA W, sumA W + 1, 10 ^ 59]) (c := true) (z := .tup (vs.map .int)) (S := S3) ⟨l11, l12, l13, l14, l15, l16, l17, l18, rfl, K⟩ (by simp) fun x hx st => ?_) ?_ (fun _ _ q => q.elim) (fun _ _ q => q.elim) (fun _ _ q => q.elim)
      · rw [eiw x vs st hvl, hwB x vs hvs]
        simp only [List.mem_cons, List.not_mem_nil, or_false] at hx
        congr 2
        rcases hx with rfl | rfl | rfl
        · simp
        · simp; omega
        · simp; omega
      rintro ρ s ⟨l11, l12, l13, l14, l15, l16, l17, l18, rfl, K⟩
      rw [Kn_ev]
      refine wps_mono (inner_lp (xs := [sumA W - 1, -1, -sumA W - 1]) (c := false) (z := .tup (vs.map .int)) (S := S3) ⟨l11, l12, l13, l14, l15, l16, l17, l18, rfl, K⟩ (by simp) fun x hx st => ?_) ?_ (fun _ _ q => q.elim) (fun _ _ q => q.elim) (fun _ _ q => q.elim)
      · rw [eiw x vs st hvl, hwB x vs hvs]
        simp only [List.mem_cons, List.not_mem_nil, or_false] at hx
        congr 2
        rcases hx with rfl | rfl | rfl
        · simp; omega
        · simp; omega
        · simp; omega
      rintro ρ s ⟨l11, l12, l13, l14, l15, l16, l17, l18, rfl, K⟩
      exact ⟨_, l11, l12, l13, l14, l15, l16, l17, l18, rfl, K⟩
  · rintro ρ s ⟨o3, A3, l10, l11, l12, l13, l14, l15, l16, l17, l18, rfl, K3⟩
    obtain ⟨R, rfl, KR⟩ := keep_cons K3
    have hKR : Keep L R := hKM.trans KR
    rw [Kn_ev]
    have el := fun s => bLen_txt (a := a) (st := s) (by omega)
    simp [el, -xFor_ev, -xIf_ev, -sLc_ev, -List.map_map]
    refine dr A3 (by omega) (by omega) fun r4 o4 A4 p4 q4 => ?_
    simp [-xFor_ev, -xIf_ev, -sLc_ev, -List.map_map]
    refine pk (P := fun d => ∃ v : Int, d = .int v ∧ (v = 1 ∨ v = -1)) A4 (by omega) (by simp) rfl (by simp) (by simp) fun d o5 hd A5 => ?_
    obtain ⟨v, rfl, hv⟩ := hd
    have hpm : ∀ s, vMul (.int v) (.int ((a.length : Int) + 1 + r4)) s = .ok (.int (v * ((a.length : Int) + 1 + r4))) s := fun s => mul_ev (by rcases hv with rfl | rfl <;> decide) (by omega)
    have hpb : (v * ((a.length : Int) + 1 + r4)).natAbs ≤ 40 := by rcases hv with rfl | rfl <;> omega
    generalize v * ((a.length : Int) + 1 + r4) = p at hpm hpb
    have hml : (movL a p).length = a.length := movL_length
    have elm := fun s => law_moved_ev (bs := a) (w := p) (st := s) (by omega)
    have er2 := fun s => road_ev (a := movL a p) (b := b) (d := d - p) (st := s) (by omega) (by omega)
    have hsz2 := waysR_size (a := movL a p) (b := b) (d := d - p) (by omega)
    generalize waysR (movL a p) b (d - p) = V at er2 hsz2
    have hVl : V.length ≤ 32 := by omega
    rw [hpm, wp_ok, hpm, wp_ok, elm, wp_ok, hpm, wp_ok, vSub_int, wp_ok, er2, wp_ok, bTuple_ref get_last, swept_push (by simp), wp_ok, vAdd_tt (by simp; omega), wp_ok]
    rw [show [D.int p] ++ V.map D.int = (p :: V).map D.int from rfl, eSL _ 14 (p :: V) _ (by simp; omega) (by omega) rfl rfl, wp_ok, bSum_push, swept_push (by simp), wp_ok]
    obtain ⟨mo, hmo⟩ : ∃ mo, mo = ((p :: V).map fun w => (w.natAbs : Int)).sum := ⟨_, rfl⟩
    rw [← hmo]
    refine wps_mono (N := AsN (k + 2000) (L.length + 1) a b d W R) (C := fun _ _ => False) (B := fun _ _ => False) (R := fun _ _ => False) ?_ ?_ (fun _ _ q => q.elim) (fun _ _ q => q.elim) (fun _ _ q => q.elim)
    · refine wps_xswp ?_
      rw [xFor_ev]
      simp [-xFor_ev, -xIf_ev, -List.map_map, -List.map_cons]
      refine bent_wp A5 (by omega) (fun w hw => by have := hWb w hw; omega) (by omega) fun n o6 S A6 KS hB hn => ?_
      obtain ⟨ys, b1, b2, b3⟩ := hB
      have b0 : (o6 :: S)[R.length + 1]? = some (.lst [.tup ((p :: V).map .int)]) := by
        simp only [List.getElem?_cons_succ]
        exact KS.get get_last
      rw [vAdd_lst b0 b1 (by simp; omega), wp_ok]
      obtain ⟨S6, hS6, g6, K6⟩ : ∃ S6 : Store, S6 = (o6 :: S) ++ [.lst ([.tup ((p :: V).map .int)] ++ ys)] ∧ S6[(o6 :: S).length]? = some (.lst ([.tup ((p :: V).map .int)] ++ ys)) ∧ Keep (o6 :: S) S6 := ⟨_, rfl, get_last, .app⟩
      rw [← hS6, srcOf_of g6]
      simp only [wp_ok, Src.all]
      have hK6 : Keep (o6 :: R) S6 := (keep_cons' ((Keep.refl.push).trans KS)).trans K6
      have hT6 : ∀ z ∈ [.tup ((p :: V).map .int)] ++ ys, Thing S6 z := fun z hz => by
        rcases List.mem_append.mp hz with hz | hz
        · rw [List.mem_singleton.mp hz]; exact thing_ints (by simp; omega)
        · exact (b2 z hz).1.mono (.keep K6)
      refine wp_forD (fun _ => AsC (L.length + 1) a b d W (.tup ((p :: V).map .int)) (.int mo) S6) ⟨_, _, _, _, _, _, _, rfl, .refl⟩ ?_ ?_
      · rintro ρ s ⟨l10, l12, l13, l15, l16, l17, l18, rfl, K⟩
        refine ⟨K.get g6, ⟨o6, A6.mono (by omega), _, _, _, _, _, _, _, _, _, rfl, hK6.trans K⟩, ⟨o6, A6.mono (by omega), _, _, _, _, _, _, _, _, _, rfl, keep_take (hK6.trans K) (by simp)⟩⟩
      · rintro z ys ρ s hz ⟨l10, l12, l13, l15, l16, l17, l18, rfl, K⟩
        refine ⟨K.get g6, _, rfl, ?_⟩
        exact wps_mono (bars_lp (S := S6) (by omega) (hT6 z hz) ⟨l10, l12, l13, l16, l17, l18, rfl, K⟩) (fun _ _ q => q) (fun _ _ q => q.elim) (fun _ _ q => q.elim) (fun _ _ q => q.elim)
    · rintro ρ s ⟨o6, A6, l10, l11, l12, l13, l14, l15, l16, l17, l18, rfl, K6⟩
      obtain ⟨R', rfl, KR'⟩ := keep_cons K6
      have ewb := fun s => way_between_ev (a := a) (b := b) (d := d) (st := s) (by omega) (by omega) hb.symm (by omega)
      rw [← hW] at ewb
      have esm : ∀ s, F_law_same 20 [.tup (W.map .int), .tup (W.map .int)] s = .ok (.bl true) s := fun s => sm_tup (by simp; omega) fun x hx => by
        obtain ⟨m, _, rfl⟩ := List.mem_map.mp hx
        exact sm_int
      rw [Kn_ev]
      simp [ewb, esm]
      rw [A6.swp rfl (hKR.trans KR'), wp_ok]
      exact h o6 (A6.mono (by omega))
end Ap

namespace Ap
open PySem L2 L3
def LaI (x : D) (L : Store) (i : Nat) (ρ : Envr) (s : Store) : Prop := ∃ (o : SO) (l2 l3 : Option D), ρ = [some x, some (.ref 0), l2, l3] ∧ s = o :: L ∧ Gd (10000 * i) o
def LbI3 (x : D) (S : Store) (ρ : Envr) (s : Store) : Prop := ∃ (l2 l3 : Option D), ρ = [some x, some (.ref 0), l2, l3] ∧ s = S
theorem law_true (ns : List Int) (hns : ns.length ≤ 63) : ∃ st, F_law [.rl (ns.map D.int)] [] = .ok (.bl true) st := by
  refine ok_of_wp ?_
  refine wp_fn ?_
  simp [b_law, -xFor_ev]
  refine poolg hns fun o L A => ?_
  rw [xFor_ev]
  try simp [-xFor_ev]
  rw [show rangeD 0 4 = (List.range 4).map ofN from rangeD_zero 4]
  refine wp_forR (LaI (.rl (ns.map .int)) L) ⟨o, none, none, rfl, rfl, A⟩ ?_ ?_
  · rintro ρ s ⟨o, l2, l3, rfl, rfl, A⟩
    rw [Kn_ev, xSeq_ev, wps_seq]
    refine wps_mono (N := fun _ _ => True) (C := fun _ _ => False) (B := fun _ _ => False) (R := fun _ _ => False) ?_ ?_ (fun _ _ q => q.elim) (fun _ _ q => q.elim) (fun _ _ q => q.elim)
    · refine wps_xswp ?_
      rw [xFor_ev]
      simp [-xFor_ev, -xIf_ev]
      generalize hps : [D.tup [D.int 0, D.tup []], D.tup [D.int 0, D.tup [D.int 3]], D.tup [D.int 1, D.tup [D.int 2, D.int 1]]] = ps
      have hw : ∀ x ∈ ps, ∃ bs : List Bool, x = wdD bs ∧ bs.length ≤ 3 := by
        rw [← hps]
        simp only [List.forall_mem_cons]
        exact ⟨⟨[], rfl, by simp⟩, ⟨[false, false, false], by rfl, by simp⟩, ⟨[true, true, false], by rfl, by simp⟩, by simp⟩
      have gp : (o :: (L ++ [SO.lst ps]))[L.length + 1]? = some (.lst ps) := by simp
      rw [srcOf_of gp]
      simp only [wp_ok, Src.all]
      refine wp_forD (fun _ => LbI3 (.rl (ns.map .int)) (o :: (L ++ [SO.lst ps]))) ⟨l2, l3, rfl, rfl⟩ ?_ ?_
      · rintro ρ s ⟨l2, l3, rfl, rfl⟩
        exact ⟨gp, trivial⟩
      · rintro x ys ρ s hx ⟨l2, l3, rfl, rfl⟩
        obtain ⟨bs, rfl, hbs⟩ := hw x hx
        refine ⟨gp, _, rfl, ?_⟩
        have e : ∀ (m : Int) st, F_is_way [wdD bs, wdD bs, .int 0, .int m, .tup []] st = .ok (.bl (decide (0 ≤ m))) st := fun m st => by
          have := is_way_ev (a := bs) (b := bs) (d := 0) (most := m) (st := st) (by omega) (thing_ints (ws := []) (by simp))
          simp only [List.map_nil] at this
          rw [this]
          simp [wayD, wayB]
        simp [e, vIsNot]
        exact ⟨_, _, rfl, rfl⟩
    · rintro ρ s _
      rw [Kn_ev]
      simp
      exact wp_swept_any rfl
  · rintro i ρ s hi ⟨o, l2, l3, rfl, rfl, A⟩
    refine ⟨_, rfl, ?_⟩
    simp
    refine asked_wp A (by omega) fun o1 A1 => ?_
    simp
    exact ⟨o1, _, _, rfl, rfl, A1.mono (by omega)⟩
end Ap

namespace Ap
open PySem L2 L3
/-! the end -/
def spLaw (K : PySem.W.Frag) : Sp := fun vs H Q _ => ∃ (a : Addr) (ns : List Int), vs = [.ref a] ∧ SqL K H a (ns.map V.int) ∧ ns.length ≤ 63 ∧ Only H ∧ ∀ H1, Q (.bl true) H1
set_option maxHeartbeats 4000000 in
theorem all_mk {l : PySem.W.OpenLaw} {w : World} {K : PySem.W.Frag} {h : Heap} {mg : Str → Option Value} {fa : Addr} (X : K.In h) (G : h.Ns mainGlobals mg) (hfa : mg "law" = some (.ref fa))
    (a_is_whole : FnAt K "is_whole" s_is_whole)
    (a_runs_of : FnAt K "runs_of" s_runs_of)
    (a_word_of_runs : FnAt K "word_of_runs" s_word_of_runs)
    (a_word_length : FnAt K "word_length" s_word_length)
    (a_cut_runs : FnAt K "cut_runs" s_cut_runs)
    (a_many_of : FnAt K "many_of" s_many_of)
    (a_ends_of : FnAt K "ends_of" s_ends_of)
    (a_letter_at : FnAt K "letter_at" s_letter_at)
    (a_both_ends : FnAt K "both_ends" s_both_ends)
    (a_letters_by_ends : FnAt K "letters_by_ends" s_letters_by_ends)
    (a_unlike_stretches : FnAt K "unlike_stretches" s_unlike_stretches)
    (a_last_unlike : FnAt K "last_unlike" s_last_unlike)
    (a_plain_word : FnAt K "plain_word" s_plain_word)
    (a_moved : FnAt K "moved" s_moved)
    (a_plain_ways : FnAt K "plain_ways" s_plain_ways)
    (a_ones_of : FnAt K "ones_of" s_ones_of)
    (a_ways_of : FnAt K "ways_of" s_ways_of)
    (a_way_between : FnAt K "way_between" s_way_between)
    (a_least_way : FnAt K "least_way" s_least_way)
    (a_is_way : FnAt K "is_way" s_is_way)
    (a_law_pool : FnAt K "_law_pool" s_law_pool)
    (a_law_draw : FnAt K "_law_draw" s_law_draw)
    (a_law_same : FnAt K "_law_same" s_law_same)
    (a_law_word : FnAt K "_law_word" s_law_word)
    (a_law_moved : FnAt K "_law_moved" s_law_moved)
    (a_law_leads : FnAt K "_law_leads" s_law_leads)
    (a_law_road : FnAt K "_law_road" s_law_road)
    (a_law_parted : FnAt K "_law_parted" s_law_parted)
    (a_law_letters : FnAt K "_law_letters" s_law_letters)
    (a_law_pair : FnAt K "_law_pair" s_law_pair)
    (a_law_bent : FnAt K "_law_bent" s_law_bent)
    (a_law_yes : FnAt K "_law_yes" s_law_yes)
    (a_law_asked : FnAt K "_law_asked" s_law_asked)
    (a_law : FnAt K "law" s_law)
    (z_abs : PySem.W.nsIn K mainGlobals "abs" = some none)
    (z_bool : PySem.W.nsIn K mainGlobals "bool" = some none)
    (z_int : PySem.W.nsIn K mainGlobals "int" = some none)
    (z_isinstance : PySem.W.nsIn K mainGlobals "isinstance" = some none)
    (z_len : PySem.W.nsIn K mainGlobals "len" = some none)
    (z_list : PySem.W.nsIn K mainGlobals "list" = some none)
    (z_min : PySem.W.nsIn K mainGlobals "min" = some none)
    (z_range : PySem.W.nsIn K mainGlobals "range" = some none)
    (z_set : PySem.W.nsIn K mainGlobals "set" = some none)
    (z_sorted : PySem.W.nsIn K mainGlobals "sorted" = some none)
    (z_str : PySem.W.nsIn K mainGlobals "str" = some none)
    (z_sum : PySem.W.nsIn K mainGlobals "sum" = some none)
    (z_tuple : PySem.W.nsIn K mainGlobals "tuple" = some none)
    : ∃ fd : FuncData, (∀ (s : Shared) (v : Value), BindsTo s fd ⟨[v], []⟩ [("script", v)]) ∧ ∀ base : Heap, K.In base → base.Ns mainGlobals mg → FnOk l.prog w K mg base CX0 23 fa fd ["script"] (spLaw K) := by
  have T : Txt K mg := ⟨PySem.W.mg_none_of X G z_abs, PySem.W.mg_none_of X G z_bool, PySem.W.mg_none_of X G z_int, PySem.W.mg_none_of X G z_isinstance, PySem.W.mg_none_of X G z_len, PySem.W.mg_none_of X G z_list, PySem.W.mg_none_of X G z_min, PySem.W.mg_none_of X G z_range, PySem.W.mg_none_of X G z_set, PySem.W.mg_none_of X G z_sorted, PySem.W.mg_none_of X G z_str, PySem.W.mg_none_of X G z_sum, PySem.W.mg_none_of X G z_tuple⟩
  obtain ⟨f_is_whole, fd_is_whole, F_is_whole', m_is_whole⟩ := a_is_whole.get X G
  obtain ⟨f_runs_of, fd_runs_of, F_runs_of', m_runs_of⟩ := a_runs_of.get X G
  obtain ⟨f_word_of_runs, fd_word_of_runs, F_word_of_runs', m_word_of_runs⟩ := a_word_of_runs.get X G
  obtain ⟨f_word_length, fd_word_length, F_word_length', m_word_length⟩ := a_word_length.get X G
  obtain ⟨f_cut_runs, fd_cut_runs, F_cut_runs', m_cut_runs⟩ := a_cut_runs.get X G
  obtain ⟨f_many_of, fd_many_of, F_many_of', m_many_of⟩ := a_many_of.get X G
  obtain ⟨f_ends_of, fd_ends_of, F_ends_of', m_ends_of⟩ := a_ends_of.get X G
  obtain ⟨f_letter_at, fd_letter_at, F_letter_at', m_letter_at⟩ := a_letter_at.get X G
  obtain ⟨f_both_ends, fd_both_ends, F_both_ends', m_both_ends⟩ := a_both_ends.get X G
  obtain ⟨f_letters_by_ends, fd_letters_by_ends, F_letters_by_ends', m_letters_by_ends⟩ := a_letters_by_ends.get X G
  obtain ⟨f_unlike_stretches, fd_unlike_stretches, F_unlike_stretches', m_unlike_stretches⟩ := a_unlike_stretches.get X G
  obtain ⟨f_last_unlike, fd_last_unlike, F_last_unlike', m_last_unlike⟩ := a_last_unlike.get X G
  obtain ⟨f_plain_word, fd_plain_word, F_plain_word', m_plain_word⟩ := a_plain_word.get X G
  obtain ⟨f_moved, fd_moved, F_moved', m_moved⟩ := a_moved.get X G
  obtain ⟨f_plain_ways, fd_plain_ways, F_plain_ways', m_plain_ways⟩ := a_plain_ways.get X G
  obtain ⟨f_ones_of, fd_ones_of, F_ones_of', m_ones_of⟩ := a_ones_of.get X G
  obtain ⟨f_ways_of, fd_ways_of, F_ways_of', m_ways_of⟩ := a_ways_of.get X G
  obtain ⟨f_way_between, fd_way_between, F_way_between', m_way_between⟩ := a_way_between.get X G
  obtain ⟨f_least_way, fd_least_way, F_least_way', m_least_way⟩ := a_least_way.get X G
  obtain ⟨f_is_way, fd_is_way, F_is_way', m_is_way⟩ := a_is_way.get X G
  obtain ⟨f_law_pool, fd_law_pool, F_law_pool', m_law_pool⟩ := a_law_pool.get X G
  obtain ⟨f_law_draw, fd_law_draw, F_law_draw', m_law_draw⟩ := a_law_draw.get X G
  obtain ⟨f_law_same, fd_law_same, F_law_same', m_law_same⟩ := a_law_same.get X G
  obtain ⟨f_law_word, fd_law_word, F_law_word', m_law_word⟩ := a_law_word.get X G
  obtain ⟨f_law_moved, fd_law_moved, F_law_moved', m_law_moved⟩ := a_law_moved.get X G
  obtain ⟨f_law_leads, fd_law_leads, F_law_leads', m_law_leads⟩ := a_law_leads.get X G
  obtain ⟨f_law_road, fd_law_road, F_law_road', m_law_road⟩ := a_law_road.get X G
  obtain ⟨f_law_parted, fd_law_parted, F_law_parted', m_law_parted⟩ := a_law_parted.get X G
  obtain ⟨f_law_letters, fd_law_letters, F_law_letters', m_law_letters⟩ := a_law_letters.get X G
  obtain ⟨f_law_pair, fd_law_pair, F_law_pair', m_law_pair⟩ := a_law_pair.get X G
  obtain ⟨f_law_bent, fd_law_bent, F_law_bent', m_law_bent⟩ := a_law_bent.get X G
  obtain ⟨f_law_yes, fd_law_yes, F_law_yes', m_law_yes⟩ := a_law_yes.get X G
  obtain ⟨f_law_asked, fd_law_asked, F_law_asked', m_law_asked⟩ := a_law_asked.get X G
  obtain ⟨f_law, fd_law, F_law', m_law⟩ := a_law.get X G
  have e := hfa.symm.trans m_law
  cases e
  refine ⟨fd_law, fun s v => ?_, fun base _ _ => ?_⟩
  · obtain ⟨oc, od, kV, doc, pm, an, cdv, ct, osl, e1, _, _⟩ := F_law'.ex
    subst e1
    exact .of_eq rfl
  have B_is_whole : Binds K fd_is_whole ["thing"] [] := F_is_whole'.binds (ps := ["thing"]) fun _ _ _ _ _ _ us hl => match us, hl with | [_], _ => rfl
  have K_is_whole := ok_is_whole (P := l.prog) (w := w) (base := base) T F_is_whole'  
  have H_is_whole : HasFn l.prog w K mg base "is_whole" 1 ["thing"] F_is_whole := ⟨f_is_whole, fd_is_whole, K_is_whole, m_is_whole, F_is_whole'.kp, B_is_whole⟩
  have B_runs_of : Binds K fd_runs_of ["word"] [] := F_runs_of'.binds (ps := ["word"]) fun _ _ _ _ _ _ us hl => match us, hl with | [_], _ => rfl
  have K_runs_of := ok_runs_of (P := l.prog) (w := w) (base := base) T F_runs_of'  
  have H_runs_of : HasFn l.prog w K mg base "runs_of" 1 ["word"] F_runs_of := ⟨f_runs_of, fd_runs_of, K_runs_of, m_runs_of, F_runs_of'.kp, B_runs_of⟩
  have B_word_of_runs : Binds K fd_word_of_runs ["runs"] [] := F_word_of_runs'.binds (ps := ["runs"]) fun _ _ _ _ _ _ us hl => match us, hl with | [_], _ => rfl
  have K_word_of_runs := ok_word_of_runs (P := l.prog) (w := w) (base := base) T F_word_of_runs'  
  have H_word_of_runs : HasFn l.prog w K mg base "word_of_runs" 1 ["runs"] F_word_of_runs := ⟨f_word_of_runs, fd_word_of_runs, K_word_of_runs, m_word_of_runs, F_word_of_runs'.kp, B_word_of_runs⟩
  have B_word_length : Binds K fd_word_length ["word"] [] := F_word_length'.binds (ps := ["word"]) fun _ _ _ _ _ _ us hl => match us, hl with | [_], _ => rfl
  have K_word_length := ok_word_length (P := l.prog) (w := w) (base := base) T F_word_length'  
  have H_word_length : HasFn l.prog w K mg base "word_length" 1 ["word"] F_word_length := ⟨f_word_length, fd_word_length, K_word_length, m_word_length, F_word_length'.kp, B_word_length⟩
  have B_cut_runs : Binds K fd_cut_runs ["word", "many"] [] := F_cut_runs'.binds (ps := ["word", "many"]) fun _ _ _ _ _ _ us hl => match us, hl with | [_, _], _ => rfl
  have K_cut_runs := ok_cut_runs (P := l.prog) (w := w) (base := base) T F_cut_runs' H_runs_of 
  have H_cut_runs : HasFn l.prog w K mg base "cut_runs" 2 ["word", "many"] F_cut_runs := ⟨f_cut_runs, fd_cut_runs, K_cut_runs, m_cut_runs, F_cut_runs'.kp, B_cut_runs⟩
  have B_many_of : Binds K fd_many_of ["runs", "letter"] [] := F_many_of'.binds (ps := ["runs", "letter"]) fun _ _ _ _ _ _ us hl => match us, hl with | [_, _], _ => rfl
  have K_many_of := ok_many_of (P := l.prog) (w := w) (base := base) T F_many_of'  
  have H_many_of : HasFn l.prog w K mg base "many_of" 1 ["runs", "letter"] F_many_of := ⟨f_many_of, fd_many_of, K_many_of, m_many_of, F_many_of'.kp, B_many_of⟩
  have B_ends_of : Binds K fd_ends_of ["word"] [] := F_ends_of'.binds (ps := ["word"]) fun _ _ _ _ _ _ us hl => match us, hl with | [_], _ => rfl
  have K_ends_of := ok_ends_of (P := l.prog) (w := w) (base := base) T F_ends_of'  
  have H_ends_of : HasFn l.prog w K mg base "ends_of" 1 ["word"] F_ends_of := ⟨f_ends_of, fd_ends_of, K_ends_of, m_ends_of, F_ends_of'.kp, B_ends_of⟩
  have B_letter_at : Binds K fd_letter_at ["word", "number"] [] := F_letter_at'.binds (ps := ["word", "number"]) fun _ _ _ _ _ _ us hl => match us, hl with | [_, _], _ => rfl
  have K_letter_at := ok_letter_at (P := l.prog) (w := w) (base := base) T F_letter_at' H_cut_runs 
  have H_letter_at : HasFn l.prog w K mg base "letter_at" 3 ["word", "number"] F_letter_at := ⟨f_letter_at, fd_letter_at, K_letter_at, m_letter_at, F_letter_at'.kp, B_letter_at⟩
  have B_both_ends : Binds K fd_both_ends ["one", "other"] [] := F_both_ends'.binds (ps := ["one", "other"]) fun _ _ _ _ _ _ us hl => match us, hl with | [_, _], _ => rfl
  have K_both_ends := ok_both_ends (P := l.prog) (w := w) (base := base) T F_both_ends' H_ends_of 
  have H_both_ends : HasFn l.prog w K mg base "both_ends" 2 ["one", "other"] F_both_ends := ⟨f_both_ends, fd_both_ends, K_both_ends, m_both_ends, F_both_ends'.kp, B_both_ends⟩
  have B_letters_by_ends : Binds K fd_letters_by_ends ["word", "ends"] [] := F_letters_by_ends'.binds (ps := ["word", "ends"]) fun _ _ _ _ _ _ us hl => match us, hl with | [_, _], _ => rfl
  have K_letters_by_ends := ok_letters_by_ends (P := l.prog) (w := w) (base := base) T F_letters_by_ends' H_runs_of 
  have H_letters_by_ends : HasFn l.prog w K mg base "letters_by_ends" 2 ["word", "ends"] F_letters_by_ends := ⟨f_letters_by_ends, fd_letters_by_ends, K_letters_by_ends, m_letters_by_ends, F_letters_by_ends'.kp, B_letters_by_ends⟩
  have B_unlike_stretches : Binds K fd_unlike_stretches ["one", "other"] [] := F_unlike_stretches'.binds (ps := ["one", "other"]) fun _ _ _ _ _ _ us hl => match us, hl with | [_, _], _ => rfl
  have K_unlike_stretches := ok_unlike_stretches (P := l.prog) (w := w) (base := base) T F_unlike_stretches' H_both_ends H_letters_by_ends 
  have H_unlike_stretches : HasFn l.prog w K mg base "unlike_stretches" 3 ["one", "other"] F_unlike_stretches := ⟨f_unlike_stretches, fd_unlike_stretches, K_unlike_stretches, m_unlike_stretches, F_unlike_stretches'.kp, B_unlike_stretches⟩
  have B_last_unlike : Binds K fd_last_unlike ["one", "other"] [] := F_last_unlike'.binds (ps := ["one", "other"]) fun _ _ _ _ _ _ us hl => match us, hl with | [_, _], _ => rfl
  have K_last_unlike := ok_last_unlike (P := l.prog) (w := w) (base := base) T F_last_unlike' H_unlike_stretches 
  have H_last_unlike : HasFn l.prog w K mg base "last_unlike" 4 ["one", "other"] F_last_unlike := ⟨f_last_unlike, fd_last_unlike, K_last_unlike, m_last_unlike, F_last_unlike'.kp, B_last_unlike⟩
  have B_plain_word : Binds K fd_plain_word ["letter", "many"] [] := F_plain_word'.binds (ps := ["letter", "many"]) fun _ _ _ _ _ _ us hl => match us, hl with | [_, _], _ => rfl
  have K_plain_word := ok_plain_word (P := l.prog) (w := w) (base := base) T F_plain_word' H_word_of_runs 
  have H_plain_word : HasFn l.prog w K mg base "plain_word" 2 ["letter", "many"] F_plain_word := ⟨f_plain_word, fd_plain_word, K_plain_word, m_plain_word, F_plain_word'.kp, B_plain_word⟩
  have B_moved : Binds K fd_moved ["word", "way"] [] := F_moved'.binds (ps := ["word", "way"]) fun _ _ _ _ _ _ us hl => match us, hl with | [_, _], _ => rfl
  have K_moved := ok_moved (P := l.prog) (w := w) (base := base) T F_moved' H_runs_of H_word_of_runs 
  have H_moved : HasFn l.prog w K mg base "moved" 2 ["word", "way"] F_moved := ⟨f_moved, fd_moved, K_moved, m_moved, F_moved'.kp, B_moved⟩
  have B_plain_ways : Binds K fd_plain_ways ["word", "other"] [] := F_plain_ways'.binds (ps := ["word", "other"]) fun _ _ _ _ _ _ us hl => match us, hl with | [_, _], _ => rfl
  have K_plain_ways := ok_plain_ways (P := l.prog) (w := w) (base := base) T F_plain_ways' H_last_unlike H_letter_at H_many_of H_cut_runs 
  have H_plain_ways : HasFn l.prog w K mg base "plain_ways" 5 ["word", "other"] F_plain_ways := ⟨f_plain_ways, fd_plain_ways, K_plain_ways, m_plain_ways, F_plain_ways'.kp, B_plain_ways⟩
  have B_ones_of : Binds K fd_ones_of ["word"] [] := F_ones_of'.binds (ps := ["word"]) fun _ _ _ _ _ _ us hl => match us, hl with | [_], _ => rfl
  have K_ones_of := ok_ones_of (P := l.prog) (w := w) (base := base) T F_ones_of' H_many_of H_runs_of 
  have H_ones_of : HasFn l.prog w K mg base "ones_of" 2 ["word"] F_ones_of := ⟨f_ones_of, fd_ones_of, K_ones_of, m_ones_of, F_ones_of'.kp, B_ones_of⟩
  have B_ways_of : Binds K fd_ways_of ["word", "other", "distance"] [] := F_ways_of'.binds (ps := ["word", "other", "distance"]) fun _ _ _ _ _ _ us hl => match us, hl with | [_, _, _], _ => rfl
  have K_ways_of := ok_ways_of (P := l.prog) (w := w) (base := base) T F_ways_of' H_ones_of H_word_length H_plain_ways H_plain_word 
  have H_ways_of : HasFn l.prog w K mg base "ways_of" 6 ["word", "other", "distance"] F_ways_of := ⟨f_ways_of, fd_ways_of, K_ways_of, m_ways_of, F_ways_of'.kp, B_ways_of⟩
  have B_way_between : Binds K fd_way_between ["word", "other", "distance"] [] := F_way_between'.binds (ps := ["word", "other", "distance"]) fun _ _ _ _ _ _ us hl => match us, hl with | [_, _, _], _ => rfl
  have K_way_between := ok_way_between (P := l.prog) (w := w) (base := base) T F_way_between' H_ways_of 
  have H_way_between : HasFn l.prog w K mg base "way_between" 7 ["word", "other", "distance"] F_way_between := ⟨f_way_between, fd_way_between, K_way_between, m_way_between, F_way_between'.kp, B_way_between⟩
  have B_least_way : Binds K fd_least_way ["word", "other", "distance"] [] := F_least_way'.binds (ps := ["word", "other", "distance"]) fun _ _ _ _ _ _ us hl => match us, hl with | [_, _, _], _ => rfl
  have K_least_way := ok_least_way (P := l.prog) (w := w) (base := base) T F_least_way' H_ways_of 
  have H_least_way : HasFn l.prog w K mg base "least_way" 7 ["word", "other", "distance"] F_least_way := ⟨f_least_way, fd_least_way, K_least_way, m_least_way, F_least_way'.kp, B_least_way⟩
  have B_is_way : Binds K fd_is_way ["word", "other", "distance", "way", "thing"] [] := F_is_way'.binds (ps := ["word", "other", "distance", "way", "thing"]) fun _ _ _ _ _ _ us hl => match us, hl with | [_, _, _, _, _], _ => rfl
  have K_is_way := ok_is_way (P := l.prog) (w := w) (base := base) T F_is_way' H_is_whole H_moved 
  have H_is_way : HasFn l.prog w K mg base "is_way" 3 ["word", "other", "distance", "way", "thing"] F_is_way := ⟨f_is_way, fd_is_way, K_is_way, m_is_way, F_is_way'.kp, B_is_way⟩
  have B_law_pool : Binds K fd_law_pool ["script"] [] := F_law_pool'.binds (ps := ["script"]) fun _ _ _ _ _ _ us hl => match us, hl with | [_], _ => rfl
  have K_law_pool := ok_law_pool (P := l.prog) (w := w) (base := base) T F_law_pool'  
  have H_law_pool : HasFn l.prog w K mg base "_law_pool" 1 ["script"] F_law_pool := ⟨f_law_pool, fd_law_pool, K_law_pool, m_law_pool, F_law_pool'.kp, B_law_pool⟩
  have B_law_draw : Binds K fd_law_draw ["pool", "many"] [] := F_law_draw'.binds (ps := ["pool", "many"]) fun _ _ _ _ _ _ us hl => match us, hl with | [_, _], _ => rfl
  have K_law_draw := ok_law_draw (P := l.prog) (w := w) (base := base) T F_law_draw'  
  have H_law_draw : HasFn l.prog w K mg base "_law_draw" 1 ["pool", "many"] F_law_draw := ⟨f_law_draw, fd_law_draw, K_law_draw, m_law_draw, F_law_draw'.kp, B_law_draw⟩
  have B_law_same : Binds K fd_law_same ["told", "due"] [] := F_law_same'.binds (ps := ["told", "due"]) fun _ _ _ _ _ _ us hl => match us, hl with | [_, _], _ => rfl
  have K_law_same := ok_law_same (P := l.prog) (w := w) (base := base) T F_law_same' m_law_same B_law_same   20
  have H_law_same : HasFn l.prog w K mg base "_law_same" 21 ["told", "due"] (F_law_same 20) := ⟨f_law_same, fd_law_same, K_law_same, m_law_same, F_law_same'.kp, B_law_same⟩
  have B_law_word : Binds K fd_law_word ["letters"] [] := F_law_word'.binds (ps := ["letters"]) fun _ _ _ _ _ _ us hl => match us, hl with | [_], _ => rfl
  have K_law_word := ok_law_word (P := l.prog) (w := w) (base := base) T F_law_word'  
  have H_law_word : HasFn l.prog w K mg base "_law_word" 1 ["letters"] F_law_word := ⟨f_law_word, fd_law_word, K_law_word, m_law_word, F_law_word'.kp, B_law_word⟩
  have B_law_moved : Binds K fd_law_moved ["letters", "way"] [] := F_law_moved'.binds (ps := ["letters", "way"]) fun _ _ _ _ _ _ us hl => match us, hl with | [_, _], _ => rfl
  have K_law_moved := ok_law_moved (P := l.prog) (w := w) (base := base) T F_law_moved'  
  have H_law_moved : HasFn l.prog w K mg base "_law_moved" 1 ["letters", "way"] F_law_moved := ⟨f_law_moved, fd_law_moved, K_law_moved, m_law_moved, F_law_moved'.kp, B_law_moved⟩
  have B_law_leads : Binds K fd_law_leads ["letters", "other", "distance", "most", "thing"] [] := F_law_leads'.binds (ps := ["letters", "other", "distance", "most", "thing"]) fun _ _ _ _ _ _ us hl => match us, hl with | [_, _, _, _, _], _ => rfl
  have K_law_leads := ok_law_leads (P := l.prog) (w := w) (base := base) T F_law_leads' H_law_moved 
  have H_law_leads : HasFn l.prog w K mg base "_law_leads" 2 ["letters", "other", "distance", "most", "thing"] F_law_leads := ⟨f_law_leads, fd_law_leads, K_law_leads, m_law_leads, F_law_leads'.kp, B_law_leads⟩
  have B_law_road : Binds K fd_law_road ["letters", "other", "distance"] [] := F_law_road'.binds (ps := ["letters", "other", "distance"]) fun _ _ _ _ _ _ us hl => match us, hl with | [_, _, _], _ => rfl
  have K_law_road := ok_law_road (P := l.prog) (w := w) (base := base) T F_law_road'  
  have H_law_road : HasFn l.prog w K mg base "_law_road" 1 ["letters", "other", "distance"] F_law_road := ⟨f_law_road, fd_law_road, K_law_road, m_law_road, F_law_road'.kp, B_law_road⟩
  have B_law_parted : Binds K fd_law_parted ["pool", "road"] [] := F_law_parted'.binds (ps := ["pool", "road"]) fun _ _ _ _ _ _ us hl => match us, hl with | [_, _], _ => rfl
  have K_law_parted := ok_law_parted (P := l.prog) (w := w) (base := base) T F_law_parted' H_law_draw 
  have H_law_parted : HasFn l.prog w K mg base "_law_parted" 2 ["pool", "road"] F_law_parted := ⟨f_law_parted, fd_law_parted, K_law_parted, m_law_parted, F_law_parted'.kp, B_law_parted⟩
  have B_law_letters : Binds K fd_law_letters ["pool", "many"] [] := F_law_letters'.binds (ps := ["pool", "many"]) fun _ _ _ _ _ _ us hl => match us, hl with | [_, _], _ => rfl
  have K_law_letters := ok_law_letters (P := l.prog) (w := w) (base := base) T F_law_letters' H_law_draw 
  have H_law_letters : HasFn l.prog w K mg base "_law_letters" 2 ["pool", "many"] F_law_letters := ⟨f_law_letters, fd_law_letters, K_law_letters, m_law_letters, F_law_letters'.kp, B_law_letters⟩
  have B_law_pair : Binds K fd_law_pair ["pool"] [] := F_law_pair'.binds (ps := ["pool"]) fun _ _ _ _ _ _ us hl => match us, hl with | [_], _ => rfl
  have K_law_pair := ok_law_pair (P := l.prog) (w := w) (base := base) T F_law_pair' H_law_letters H_law_draw 
  have H_law_pair : HasFn l.prog w K mg base "_law_pair" 3 ["pool"] F_law_pair := ⟨f_law_pair, fd_law_pair, K_law_pair, m_law_pair, F_law_pair'.kp, B_law_pair⟩
  have B_law_bent : Binds K fd_law_bent ["pool", "road"] [] := F_law_bent'.binds (ps := ["pool", "road"]) fun _ _ _ _ _ _ us hl => match us, hl with | [_, _], _ => rfl
  have K_law_bent := ok_law_bent (P := l.prog) (w := w) (base := base) T F_law_bent' H_law_draw 
  have H_law_bent : HasFn l.prog w K mg base "_law_bent" 2 ["pool", "road"] F_law_bent := ⟨f_law_bent, fd_law_bent, K_law_bent, m_law_bent, F_law_bent'.kp, B_law_bent⟩
  have B_law_yes : Binds K fd_law_yes ["told", "due"] [] := F_law_yes'.binds (ps := ["told", "due"]) fun _ _ _ _ _ _ us hl => match us, hl with | [_, _], _ => rfl
  have K_law_yes := ok_law_yes (P := l.prog) (w := w) (base := base) T F_law_yes'  
  have H_law_yes : HasFn l.prog w K mg base "_law_yes" 1 ["told", "due"] F_law_yes := ⟨f_law_yes, fd_law_yes, K_law_yes, m_law_yes, F_law_yes'.kp, B_law_yes⟩
  have B_law_asked : Binds K fd_law_asked ["pool"] [] := F_law_asked'.binds (ps := ["pool"]) fun _ _ _ _ _ _ us hl => match us, hl with | [_], _ => rfl
  have K_law_asked := ok_law_asked (P := l.prog) (w := w) (base := base) T F_law_asked' H_law_pair H_law_word H_law_road H_law_leads H_least_way H_law_parted H_is_way H_law_draw H_law_moved H_law_bent H_law_yes H_law_same H_way_between 
  have H_law_asked : HasFn l.prog w K mg base "_law_asked" 22 ["pool"] F_law_asked := ⟨f_law_asked, fd_law_asked, K_law_asked, m_law_asked, F_law_asked'.kp, B_law_asked⟩
  have B_law : Binds K fd_law ["script"] [] := F_law'.binds (ps := ["script"]) fun _ _ _ _ _ _ us hl => match us, hl with | [_], _ => rfl
  have K_law := ok_law (P := l.prog) (w := w) (base := base) T F_law' H_law_pool H_law_asked H_is_way 
  exact K_law.imp fun vs H Q E h => law_sp law_true h
theorem walk {l : PySem.W.OpenLaw} {q : Program} {loose : List Str} {XP : (Str → Option Value) → Heap → Prop} {YP : World → Heap → Prop} {d : DefRec} {K : Params → PySem.W.Frag} (hn : l.most = some 63) (hdf : d.params.defaults = [])
    (hY : ∀ (w : World) (h : Heap), YP w h → (K w.params).In h)
    (F : ∀ (w : World) (mg : Str → Option Value) (fa : Addr) (h : Heap), (K w.params).In h → h.Ns mainGlobals mg → mg d.name = some (.ref fa) →
      ∃ fd : FuncData, (∀ (s : Shared) (u : Value), BindsTo s fd ⟨[u], []⟩ [("script", u)]) ∧ ∀ base : Heap, (K w.params).In base → base.Ns mainGlobals mg → FnOk l.prog w (K w.params) mg base CX0 23 fa fd ["script"] (spLaw (K w.params))) :
    PySem.W.WalkO q loose XP YP l.row.toRowW d [] (fun f vs => PySem.call f vs) :=
  L2.walk_of (n := 63) (k := 23) (x := "script") (CX := fun _ => CX0) (sp := fun w => spLaw (K w.params)) hn (by decide) hdf ⟨rfl, by decide, by decide⟩ hY F (fun _ _ a ns hl hO hS => ⟨a, ns, rfl, hS, hl, hO, fun _ => rfl⟩) fun _ _ _ _ _ z => z
end Ap
open PySem PySem.W PyProof.Rows
set_option maxRecDepth 100000 in
set_option maxHeartbeats 0 in
theorem PySem.Challenge.cw_anyplay_k13_ways_judged_holds : PySem.Challenge.rw_anyplay_k13_ways_judged.Holds := by
  w_on; o_law; k_head; (case hw => w_witness2)
  k_fill
  refine Ap.walk (l := PySem.Challenge.rw_anyplay_k13_ways_judged) rfl rfl (fun w h Y => PySem.W.kIn_of Y) ?F
  case F =>
    intro w mg fa h KX G hmg
    refine' Ap.all_mk KX G hmg ?a_is_whole ?a_runs_of ?a_word_of_runs ?a_word_length ?a_cut_runs ?a_many_of ?a_ends_of ?a_letter_at ?a_both_ends ?a_letters_by_ends ?a_unlike_stretches ?a_last_unlike ?a_plain_word ?a_moved ?a_plain_ways ?a_ones_of ?a_ways_of ?a_way_between ?a_least_way ?a_is_way ?a_law_pool ?a_law_draw ?a_law_same ?a_law_word ?a_law_moved ?a_law_leads ?a_law_road ?a_law_parted ?a_law_letters ?a_law_pair ?a_law_bent ?a_law_yes ?a_law_asked ?a_law ?z_abs ?z_bool ?z_int ?z_isinstance ?z_len ?z_list ?z_min ?z_range ?z_set ?z_sorted ?z_str ?z_sum ?z_tuple
    (case a_is_whole => refine' L3.FnAt.mk ?a ?l ?c ?k; (case a => k_is); (case l => k_is); (case c => k_is); (case k => k_is))
    (case a_runs_of => refine' L3.FnAt.mk ?a ?l ?c ?k; (case a => k_is); (case l => k_is); (case c => k_is); (case k => k_is))
    (case a_word_of_runs => refine' L3.FnAt.mk ?a ?l ?c ?k; (case a => k_is); (case l => k_is); (case c => k_is); (case k => k_is))
    (case a_word_length => refine' L3.FnAt.mk ?a ?l ?c ?k; (case a => k_is); (case l => k_is); (case c => k_is); (case k => k_is))
    (case a_cut_runs => refine' L3.FnAt.mk ?a ?l ?c ?k; (case a => k_is); (case l => k_is); (case c => k_is); (case k => k_is))
    (case a_many_of => refine' L3.FnAt.mk ?a ?l ?c ?k; (case a => k_is); (case l => k_is); (case c => k_is); (case k => k_is))
    (case a_ends_of => refine' L3.FnAt.mk ?a ?l ?c ?k; (case a => k_is); (case l => k_is); (case c => k_is); (case k => k_is))
    (case a_letter_at => refine' L3.FnAt.mk ?a ?l ?c ?k; (case a => k_is); (case l => k_is); (case c => k_is); (case k => k_is))
    (case a_both_ends => refine' L3.FnAt.mk ?a ?l ?c ?k; (case a => k_is); (case l => k_is); (case c => k_is); (case k => k_is))
    (case a_letters_by_ends => refine' L3.FnAt.mk ?a ?l ?c ?k; (case a => k_is); (case l => k_is); (case c => k_is); (case k => k_is))
    (case a_unlike_stretches => refine' L3.FnAt.mk ?a ?l ?c ?k; (case a => k_is); (case l => k_is); (case c => k_is); (case k => k_is))
    (case a_last_unlike => refine' L3.FnAt.mk ?a ?l ?c ?k; (case a => k_is); (case l => k_is); (case c => k_is); (case k => k_is))
    (case a_plain_word => refine' L3.FnAt.mk ?a ?l ?c ?k; (case a => k_is); (case l => k_is); (case c => k_is); (case k => k_is))
    (case a_moved => refine' L3.FnAt.mk ?a ?l ?c ?k; (case a => k_is); (case l => k_is); (case c => k_is); (case k => k_is))
    (case a_plain_ways => refine' L3.FnAt.mk ?a ?l ?c ?k; (case a => k_is); (case l => k_is); (case c => k_is); (case k => k_is))
    (case a_ones_of => refine' L3.FnAt.mk ?a ?l ?c ?k; (case a => k_is); (case l => k_is); (case c => k_is); (case k => k_is))
    (case a_ways_of => refine' L3.FnAt.mk ?a ?l ?c ?k; (case a => k_is); (case l => k_is); (case c => k_is); (case k => k_is))
    (case a_way_between => refine' L3.FnAt.mk ?a ?l ?c ?k; (case a => k_is); (case l => k_is); (case c => k_is); (case k => k_is))
    (case a_least_way => refine' L3.FnAt.mk ?a ?l ?c ?k; (case a => k_is); (case l => k_is); (case c => k_is); (case k => k_is))
    (case a_is_way => refine' L3.FnAt.mk ?a ?l ?c ?k; (case a => k_is); (case l => k_is); (case c => k_is); (case k => k_is))
    (case a_law_pool => refine' L3.FnAt.mk ?a ?l ?c ?k; (case a => k_is); (case l => k_is); (case c => k_is); (case k => k_is))
    (case a_law_draw => refine' L3.FnAt.mk ?a ?l ?c ?k; (case a => k_is); (case l => k_is); (case c => k_is); (case k => k_is))
    (case a_law_same => refine' L3.FnAt.mk ?a ?l ?c ?k; (case a => k_is); (case l => k_is); (case c => k_is); (case k => k_is))
    (case a_law_word => refine' L3.FnAt.mk ?a ?l ?c ?k; (case a => k_is); (case l => k_is); (case c => k_is); (case k => k_is))
    (case a_law_moved => refine' L3.FnAt.mk ?a ?l ?c ?k; (case a => k_is); (case l => k_is); (case c => k_is); (case k => k_is))
    (case a_law_leads => refine' L3.FnAt.mk ?a ?l ?c ?k; (case a => k_is); (case l => k_is); (case c => k_is); (case k => k_is))
    (case a_law_road => refine' L3.FnAt.mk ?a ?l ?c ?k; (case a => k_is); (case l => k_is); (case c => k_is); (case k => k_is))
    (case a_law_parted => refine' L3.FnAt.mk ?a ?l ?c ?k; (case a => k_is); (case l => k_is); (case c => k_is); (case k => k_is))
    (case a_law_letters => refine' L3.FnAt.mk ?a ?l ?c ?k; (case a => k_is); (case l => k_is); (case c => k_is); (case k => k_is))
    (case a_law_pair => refine' L3.FnAt.mk ?a ?l ?c ?k; (case a => k_is); (case l => k_is); (case c => k_is); (case k => k_is))
    (case a_law_bent => refine' L3.FnAt.mk ?a ?l ?c ?k; (case a => k_is); (case l => k_is); (case c => k_is); (case k => k_is))
    (case a_law_yes => refine' L3.FnAt.mk ?a ?l ?c ?k; (case a => k_is); (case l => k_is); (case c => k_is); (case k => k_is))
    (case a_law_asked => refine' L3.FnAt.mk ?a ?l ?c ?k; (case a => k_is); (case l => k_is); (case c => k_is); (case k => k_is))
    (case a_law => refine' L3.FnAt.mk ?a ?l ?c ?k; (case a => k_is); (case l => k_is); (case c => k_is); (case k => k_is))
    (case z_abs => k_is)
    (case z_bool => k_is)
    (case z_int => k_is)
    (case z_isinstance => k_is)
    (case z_len => k_is)
    (case z_list => k_is)
    (case z_min => k_is)
    (case z_range => k_is)
    (case z_set => k_is)
    (case z_sorted => k_is)
    (case z_str => k_is)
    (case z_sum => k_is)
    (case z_tuple => k_is)

