import PyProof.Rows.All
import Wide.All
import OpenK.AllK
import Wide.FinOn
import HandS.ForMost
import HandS.ForExc
import HandS.Flow
import HandS.Style
import HandS.Wide
import HandS.TupAny
import HandS.TupMul
import HandS.IsInst
import HandS.Zip
import KE.KTupSum
import PySem.Challenge.RW_anyplay_k07_rows
set_option Elab.async false
set_option linter.all false
set_option maxRecDepth 100000
/-! L3: a layer of plain data over the hand layer: tuples as values, lists by numbers in a store, a def as a function. -/
namespace L3
open PySem PySem.Spec PyProof.Rows L2

/-- plain data: tuples by value, what may change by its number in the store -/
inductive D where
  | non | bl (b : Bool) | int (i : Int) | str (x : Str) | tup (xs : List D) | rl (xs : List D) | ref (n : Nat)

/-- an object of the store -/
inductive SO where
  | lst (xs : List D)
  | dK (kvs : List (Key × D))
  | ins (C : Addr) (fs : List (Str × D))
abbrev Store := List SO
abbrev Envr := List (Option D)
structure Exn where
  cls : Addr
  fs : List (Str × D)
inductive Res (α : Type) where
  | ok (a : α) (st : Store)
  | exc (x : Exn) (st : Store)
  | stuck
def Res.bind {α β : Type} (r : Res α) (f : α → Store → Res β) : Res β :=
  match r with
  | .ok a st => f a st
  | .exc x st => .exc x st
  | .stuck => .stuck
theorem bind_ok {α β : Type} {a : α} {st : Store} {f : α → Store → Res β} : (Res.ok a st).bind f = f a st := rfl
theorem bind_exc {α β : Type} {x : Exn} {st : Store} {f : α → Store → Res β} : (Res.exc x st : Res α).bind f = .exc x st := rfl
theorem bind_stuck {α β : Type} {f : α → Store → Res β} : (Res.stuck : Res α).bind f = .stuck := rfl

/-! ### what stands for what -/
def TupAt (K : PySem.W.Frag) (H : Hp) (μ : List Addr) (a : Addr) (vs : List V) : Prop := (Rd H a (.tup vs) ∧ a ∉ μ) ∨
    ∃ (o : Obj) (its : Array Value) (n : Nat), K.lookup a = some o ∧ o.cls = .type "tuple" ∧ o.data = .seq its n ∧ its.size ≤ sizeLine ∧ Vals vs its.toList
def RlAt (K : PySem.W.Frag) (H : Hp) (μ : List Addr) (a : Addr) (vs : List V) : Prop := ((∃ o, H a = some (.frz o (.lst vs))) ∧ a ∉ μ) ∨
    ∃ (o : Obj) (its : Array Value) (n : Nat), K.lookup a = some o ∧ o.cls = .type "list" ∧ o.dict = none ∧ o.data = .seq its n ∧ its.size ≤ sizeLine ∧ Vals vs its.toList
theorem TupAt.sq {K : PySem.W.Frag} {H : Hp} {μ : List Addr} {a : Addr} {vs : List V} (h : TupAt K H μ a vs) : SqT K H a vs := h.elim (fun h => .inl h.1) .inr
theorem RlAt.sq {K : PySem.W.Frag} {H : Hp} {μ : List Addr} {a : Addr} {vs : List V} (h : RlAt K H μ a vs) : SqL K H a vs := h.elim (fun h => .inl (.inr h.1)) .inr
mutual
inductive Rep (K : PySem.W.Frag) (H : Hp) (μ : List Addr) : D → V → Prop
  | non : Rep K H μ .non .non
  | bl (b : Bool) : Rep K H μ (.bl b) (.bl b)
  | int (i : Int) : Rep K H μ (.int i) (.int i)
  | str (x : Str) : Rep K H μ (.str x) (.str x)
  | tup {a : Addr} {vs : List V} {ds : List D} : TupAt K H μ a vs → Reps K H μ ds vs → Rep K H μ (.tup ds) (.ref a)
  | rl {a : Addr} {vs : List V} {ds : List D} : RlAt K H μ a vs → Reps K H μ ds vs → Rep K H μ (.rl ds) (.ref a)
  | ref {n : Nat} {a : Addr} : μ[n]? = some a → Rep K H μ (.ref n) (.ref a)
inductive Reps (K : PySem.W.Frag) (H : Hp) (μ : List Addr) : List D → List V → Prop
  | nil : Reps K H μ [] []
  | cons {d : D} {v : V} {ds : List D} {vs : List V} : Rep K H μ d v → Reps K H μ ds vs → Reps K H μ (d :: ds) (v :: vs)
end
/-- what a step may do -/
structure Ext (H : Hp) (μ : List Addr) (H' : Hp) (μ' : List Addr) : Prop where
  pre : ∃ more, μ' = μ ++ more ∧ ∀ a ∈ more, H a = none
  keep : ∀ a o, H a = some o → a ∉ μ → H' a = some o
  live : ∀ a, H' a = none → H a = none
section
variable {K : PySem.W.Frag} {H H1 H2 H' : Hp} {μ μ1 μ2 μ' : List Addr}
theorem Ext.refl (H : Hp) (μ : List Addr) : Ext H μ H μ := ⟨⟨[], by simp, by simp⟩, fun _ _ h _ => h, fun _ h => h⟩
theorem Ext.trans (a : Ext H μ H1 μ1) (b : Ext H1 μ1 H2 μ2) : Ext H μ H2 μ2 := by
  obtain ⟨m1, e1, f1⟩ := a.pre
  obtain ⟨m2, e2, f2⟩ := b.pre
  refine ⟨⟨m1 ++ m2, by rw [e2, e1, List.append_assoc], fun x hx => ?_⟩, fun x o hx hn => ?_, fun x h => a.live x (b.live x h)⟩
  · rcases List.mem_append.mp hx with h | h
    · exact f1 x h
    · exact a.live x (f2 x h)
  · refine b.keep x o (a.keep x o hx hn) ?_
    rw [e1]
    intro q
    rcases List.mem_append.mp q with h | h
    · exact hn h
    · rw [f1 x h] at hx; cases hx
theorem Ext.not_mem (x : Ext H μ H' μ') {a : Addr} {o : HO} (h : H a = some o) (n : a ∉ μ) : a ∉ μ' := by
  obtain ⟨m, e, f⟩ := x.pre
  rw [e]
  intro q
  rcases List.mem_append.mp q with z | z
  · exact n z
  · rw [f a z] at h; cases h
theorem Ext.get (x : Ext H μ H' μ') {n : Nat} {a : Addr} (h : μ[n]? = some a) : μ'[n]? = some a := by
  obtain ⟨m, e, f⟩ := x.pre
  rw [e, List.getElem?_append_left (List.getElem?_eq_some_iff.mp h).1]
  exact h
theorem TupAt.ext {a : Addr} {vs : List V} (x : Ext H μ H' μ') (h : TupAt K H μ a vs) : TupAt K H' μ' a vs := by
  rcases h with ⟨h, n⟩ | h
  · refine .inl ?_
    rcases h with h | ⟨o, h⟩
    · exact ⟨.inl (x.keep _ _ h n), x.not_mem h n⟩
    · exact ⟨.inr ⟨o, x.keep _ _ h n⟩, x.not_mem h n⟩
  · exact .inr h
theorem RlAt.ext {a : Addr} {vs : List V} (x : Ext H μ H' μ') (h : RlAt K H μ a vs) : RlAt K H' μ' a vs := by
  rcases h with ⟨⟨o, h⟩, n⟩ | h
  · exact .inl ⟨⟨o, x.keep _ _ h n⟩, x.not_mem h n⟩
  · exact .inr h
mutual
theorem Rep.ext (x : Ext H μ H' μ') : ∀ {d : D} {v : V}, Rep K H μ d v → Rep K H' μ' d v
  | _, _, .non => .non
  | _, _, .bl b => .bl b
  | _, _, .int i => .int i
  | _, _, .str i => .str i
  | _, _, .tup h r => .tup (h.ext x) (Reps.ext x r)
  | _, _, .rl h r => .rl (h.ext x) (Reps.ext x r)
  | _, _, .ref h => .ref (x.get h)
theorem Reps.ext (x : Ext H μ H' μ') : ∀ {ds : List D} {vs : List V}, Reps K H μ ds vs → Reps K H' μ' ds vs
  | _, _, .nil => .nil
  | _, _, .cons r t => .cons (Rep.ext x r) (Reps.ext x t)
end
/-! the numbers below n alone -/
mutual
def D.low (n : Nat) : D → Bool
  | .non => true | .bl _ => true | .int _ => true | .str _ => true
  | .tup xs => D.lows n xs
  | .rl xs => D.lows n xs
  | .ref k => decide (k < n)
def D.lows (n : Nat) : List D → Bool
  | [] => true
  | d :: ds => D.low n d && D.lows n ds
end
mutual
theorem Rep.cut {m : List Addr} : ∀ {d : D} {v : V}, Rep K H (μ ++ m) d v → d.low μ.length = true → Rep K H μ d v
  | _, _, .non, _ => .non
  | _, _, .bl b, _ => .bl b
  | _, _, .int i, _ => .int i
  | _, _, .str i, _ => .str i
  | _, _, .tup h r, q => .tup (h.elim (fun z => .inl ⟨z.1, fun y => z.2 (List.mem_append_left _ y)⟩) .inr) (Reps.cut r q)
  | _, _, .rl h r, q => .rl (h.elim (fun z => .inl ⟨z.1, fun y => z.2 (List.mem_append_left _ y)⟩) .inr) (Reps.cut r q)
  | _, _, .ref h, q => .ref (by rw [List.getElem?_append_left (of_decide_eq_true q)] at h; exact h)
theorem Reps.cut {m : List Addr} : ∀ {ds : List D} {vs : List V}, Reps K H (μ ++ m) ds vs → D.lows μ.length ds = true → Reps K H μ ds vs
  | _, _, .nil, _ => .nil
  | _, _, .cons r t, q => .cons (Rep.cut r (Bool.and_eq_true_iff.mp q).1) (Reps.cut t (Bool.and_eq_true_iff.mp q).2)
end
mutual
theorem Rep.lowD : ∀ {d : D} {v : V}, Rep K H μ d v → d.low μ.length = true
  | _, _, .non => rfl
  | _, _, .bl b => rfl
  | _, _, .int i => rfl
  | _, _, .str i => rfl
  | _, _, .tup h r => Reps.lows r
  | _, _, .rl h r => Reps.lows r
  | _, _, .ref h => decide_eq_true (List.getElem?_eq_some_iff.mp h).1
theorem Reps.lows : ∀ {ds : List D} {vs : List V}, Reps K H μ ds vs → D.lows μ.length ds = true
  | _, _, .nil => rfl
  | _, _, .cons r t => Bool.and_eq_true_iff.mpr ⟨Rep.lowD r, Reps.lows t⟩
end
theorem Reps.length : ∀ {ds : List D} {vs : List V}, Reps K H μ ds vs → ds.length = vs.length
  | _, _, .nil => rfl
  | _, _, .cons _ t => congrArg (· + 1) (Reps.length t)
/-! a list that is not in the store changes -/
theorem TupAt.chg {L : Addr} {xs ys : List V} (hL : H L = some (.lst xs)) {a : Addr} {vs : List V} (h : TupAt K H μ a vs) : TupAt K (upd H L (.lst ys)) μ a vs := by
  rcases h with ⟨h, n⟩ | h
  · refine .inl ⟨?_, n⟩
    rcases h with h | ⟨o, h⟩
    · exact .inl (by rw [upd_ne (ne_of h hL (fun z => nomatch z))]; exact h)
    · exact .inr ⟨o, by rw [upd_ne (ne_of h hL (fun z => nomatch z))]; exact h⟩
  · exact .inr h
theorem RlAt.chg {L : Addr} {xs ys : List V} (hL : H L = some (.lst xs)) {a : Addr} {vs : List V} (h : RlAt K H μ a vs) : RlAt K (upd H L (.lst ys)) μ a vs := by
  rcases h with ⟨⟨o, h⟩, n⟩ | h
  · exact .inl ⟨⟨o, by rw [upd_ne (ne_of h hL (fun z => nomatch z))]; exact h⟩, n⟩
  · exact .inr h
mutual
theorem Rep.chg {L : Addr} {xs ys : List V} (hL : H L = some (.lst xs)) : ∀ {d : D} {v : V}, Rep K H μ d v → Rep K (upd H L (.lst ys)) μ d v
  | _, _, .non => .non
  | _, _, .bl b => .bl b
  | _, _, .int i => .int i
  | _, _, .str i => .str i
  | _, _, .tup h r => .tup (h.chg hL) (Reps.chg hL r)
  | _, _, .rl h r => .rl (h.chg hL) (Reps.chg hL r)
  | _, _, .ref h => .ref h
theorem Reps.chg {L : Addr} {xs ys : List V} (hL : H L = some (.lst xs)) : ∀ {ds : List D} {vs : List V}, Reps K H μ ds vs → Reps K (upd H L (.lst ys)) μ ds vs
  | _, _, .nil => .nil
  | _, _, .cons r t => .cons (Rep.chg hL r) (Reps.chg hL t)
end
/-! a list enters the store -/
theorem TupAt.more {L : Addr} {xs : List V} (hL : H L = some (.lst xs)) {a : Addr} {vs : List V} (h : TupAt K H μ a vs) : TupAt K H (μ ++ [L]) a vs := by
  rcases h with ⟨h, n⟩ | h
  · refine .inl ⟨h, fun q => ?_⟩
    rcases List.mem_append.mp q with q | q
    · exact n q
    · have : a = L := by simpa using q
      subst this
      rcases h with h | ⟨o, h⟩
      · rw [hL] at h; cases h
      · rw [hL] at h; cases h
  · exact .inr h
theorem RlAt.more {L : Addr} {xs : List V} (hL : H L = some (.lst xs)) {a : Addr} {vs : List V} (h : RlAt K H μ a vs) : RlAt K H (μ ++ [L]) a vs := by
  rcases h with ⟨⟨o, h⟩, n⟩ | h
  · refine .inl ⟨⟨o, h⟩, fun q => ?_⟩
    rcases List.mem_append.mp q with q | q
    · exact n q
    · have : a = L := by simpa using q
      subst this
      rw [hL] at h; cases h
  · exact .inr h
mutual
theorem Rep.more {L : Addr} {xs : List V} (hL : H L = some (.lst xs)) : ∀ {d : D} {v : V}, Rep K H μ d v → Rep K H (μ ++ [L]) d v
  | _, _, .non => .non
  | _, _, .bl b => .bl b
  | _, _, .int i => .int i
  | _, _, .str i => .str i
  | _, _, .tup h r => .tup (h.more hL) (Reps.more hL r)
  | _, _, .rl h r => .rl (h.more hL) (Reps.more hL r)
  | _, _, .ref h => .ref (by rw [List.getElem?_append_left (List.getElem?_eq_some_iff.mp h).1]; exact h)
theorem Reps.more {L : Addr} {xs : List V} (hL : H L = some (.lst xs)) : ∀ {ds : List D} {vs : List V}, Reps K H μ ds vs → Reps K H (μ ++ [L]) ds vs
  | _, _, .nil => .nil
  | _, _, .cons r t => .cons (Rep.more hL r) (Reps.more hL t)
end
theorem Reps.get : ∀ {ds : List D} {vs : List V} {i : Nat} {d : D}, Reps K H μ ds vs → ds[i]? = some d → ∃ v, vs[i]? = some v ∧ Rep K H μ d v
  | _, _, _, _, .nil, e => by simp at e
  | _, _, 0, _, .cons r _, e => by simp at e; subst e; exact ⟨_, rfl, r⟩
  | _, _, i + 1, d, .cons _ t, e => by
    obtain ⟨u, h1, h2⟩ := Reps.get (i := i) (d := d) t (by simpa using e)
    exact ⟨u, by simpa using h1, h2⟩
theorem Reps.getV : ∀ {ds : List D} {vs : List V} {i : Nat} {v : V}, Reps K H μ ds vs → vs[i]? = some v → ∃ d, ds[i]? = some d ∧ Rep K H μ d v
  | _, _, _, _, .nil, e => by simp at e
  | _, _, 0, _, .cons r _, e => by simp at e; subst e; exact ⟨_, rfl, r⟩
  | _, _, i + 1, d, .cons _ t, e => by
    obtain ⟨u, h1, h2⟩ := Reps.getV (i := i) (v := d) t (by simpa using e)
    exact ⟨u, by simpa using h1, h2⟩
theorem Reps.append : ∀ {ds es : List D} {vs ws : List V}, Reps K H μ ds vs → Reps K H μ es ws → Reps K H μ (ds ++ es) (vs ++ ws)
  | _, _, _, _, .nil, s => s
  | _, _, _, _, .cons r t, s => .cons r (Reps.append t s)
theorem Reps.set {d : D} {v : V} (r : Rep K H μ d v) : ∀ {ds : List D} {vs : List V} (i : Nat), Reps K H μ ds vs → Reps K H μ (ds.set i d) (vs.set i v)
  | _, _, _, .nil => .nil
  | _, _, 0, .cons _ t => .cons r t
  | _, _, i + 1, .cons q t => .cons q (Reps.set r i t)
theorem Reps.take : ∀ {ds : List D} {vs : List V} (n : Nat), Reps K H μ ds vs → Reps K H μ (ds.take n) (vs.take n)
  | _, _, 0, _ => .nil
  | _, _, _ + 1, .nil => .nil
  | _, _, n + 1, .cons r t => .cons r (Reps.take n t)
theorem Reps.drop : ∀ {ds : List D} {vs : List V} (n : Nat), Reps K H μ ds vs → Reps K H μ (ds.drop n) (vs.drop n)
  | _, _, 0, r => r
  | _, _, _ + 1, .nil => .nil
  | _, _, n + 1, .cons _ t => Reps.drop n t
theorem Reps.eraseIdx : ∀ {ds : List D} {vs : List V} (i : Nat), Reps K H μ ds vs → Reps K H μ (ds.eraseIdx i) (vs.eraseIdx i)
  | _, _, _, .nil => .nil
  | _, _, 0, .cons _ t => t
  | _, _, i + 1, .cons r t => .cons r (Reps.eraseIdx i t)
theorem Reps.dropLast {ds : List D} {vs : List V} (h : Reps K H μ ds vs) : Reps K H μ ds.dropLast vs.dropLast := by
  rw [List.dropLast_eq_take, List.dropLast_eq_take, h.length]
  exact h.take _
theorem Reps.reverse {ds : List D} {vs : List V} (h : Reps K H μ ds vs) : Reps K H μ ds.reverse vs.reverse := by
  induction ds generalizing vs with
  | nil => cases h; exact .nil
  | cons d ds ih =>
    cases h with
    | cons r t => rw [List.reverse_cons, List.reverse_cons]; exact (ih t).append (.cons r .nil)
theorem Reps.rep {ds : List D} {vs : List V} (h : Reps K H μ ds vs) : ∀ k : Nat, Reps K H μ (List.replicate k ds).flatten (List.replicate k vs).flatten
  | 0 => .nil
  | k + 1 => by rw [List.replicate_succ, List.replicate_succ, List.flatten_cons, List.flatten_cons]; exact h.append (Reps.rep h k)
theorem Reps.ints : ∀ {ns : List Int} {vs : List V}, Reps K H μ (ns.map D.int) vs → vs = ns.map V.int
  | [], _, .nil => rfl
  | _ :: _, _, .cons r t => by cases r; rw [Reps.ints t]; rfl
theorem Reps.strs : ∀ {ns : List Str} {vs : List V}, Reps K H μ (ns.map D.str) vs → vs = ns.map V.str
  | [], _, .nil => rfl
  | _ :: _, _, .cons r t => by cases r; rw [Reps.strs t]; rfl
theorem reps_ints : ∀ (ns : List Int), Reps K H μ (ns.map D.int) (ns.map V.int)
  | [] => .nil
  | _ :: t => .cons (.int _) (reps_ints t)
theorem reps_strs : ∀ (ns : List Str), Reps K H μ (ns.map D.str) (ns.map V.str)
  | [] => .nil
  | _ :: t => .cons (.str _) (reps_strs t)

/-! ### the store -/
inductive RepF (K : PySem.W.Frag) (H : Hp) (μ : List Addr) {κ : Type} : List (κ × D) → List (κ × V) → Prop
  | nil : RepF K H μ [] []
  | cons {k : κ} {d : D} {v : V} {ds : List (κ × D)} {vs : List (κ × V)} : Rep K H μ d v → RepF K H μ ds vs → RepF K H μ ((k, d) :: ds) ((k, v) :: vs)
theorem RepF.ext {κ : Type} (x : Ext H μ H' μ') : ∀ {ds : List (κ × D)} {vs : List (κ × V)}, RepF K H μ ds vs → RepF K H' μ' ds vs
  | _, _, .nil => .nil
  | _, _, .cons r t => .cons (r.ext x) (RepF.ext x t)
def RepO (K : PySem.W.Frag) (H : Hp) (μ : List Addr) : SO → Addr → Prop
  | .lst ds, a => ∃ vs, H a = some (.lst vs) ∧ Reps K H μ ds vs
  | .dK kvs, a => ∃ ws, H a = some (.dK ws) ∧ RepF K H μ kvs ws
  | .ins C fs, a => ∃ dx ws, H a = some (.ins C dx ws) ∧ RepF K H μ fs ws
def fpure {κ : Type} (n : Nat) : List (κ × D) → Bool
  | [] => true
  | p :: r => p.2.low n && fpure n r
def SO.low (n : Nat) : SO → Bool
  | .lst ds => D.lows n ds
  | .dK kvs => fpure n kvs
  | .ins _ fs => fpure n fs
theorem RepF.cut {κ : Type} {m : List Addr} : ∀ {ds : List (κ × D)} {vs : List (κ × V)}, RepF K H (μ ++ m) ds vs → fpure μ.length ds = true → RepF K H μ ds vs
  | _, _, .nil, _ => .nil
  | _, _, .cons r t, q => .cons (r.cut (Bool.and_eq_true_iff.mp q).1) (RepF.cut t (Bool.and_eq_true_iff.mp q).2)
theorem RepO.cut {m : List Addr} {o : SO} {a : Addr} (h : RepO K H (μ ++ m) o a) (q : o.low μ.length = true) : RepO K H μ o a := by
  cases o with
  | lst ds => obtain ⟨vs, e, r⟩ := h; exact ⟨vs, e, r.cut q⟩
  | dK ds => obtain ⟨vs, e, r⟩ := h; exact ⟨vs, e, r.cut q⟩
  | ins C ds => obtain ⟨dx, vs, e, r⟩ := h; exact ⟨dx, vs, e, r.cut q⟩
theorem RepO.live {o : SO} {a : Addr} (h : RepO K H μ o a) : ∃ u, H a = some u := by
  cases o with
  | lst ds => obtain ⟨vs, e, r⟩ := h; exact ⟨_, e⟩
  | dK ds => obtain ⟨vs, e, r⟩ := h; exact ⟨_, e⟩
  | ins C ds => obtain ⟨dx, vs, e, r⟩ := h; exact ⟨_, e⟩
theorem RepO.ext {o : SO} {a : Addr} (h : RepO K H μ o a) (x : Ext H μ H' μ') (k : H' a = H a) : RepO K H' μ' o a := by
  cases o with
  | lst ds => obtain ⟨vs, e, r⟩ := h; exact ⟨vs, k.trans e, r.ext x⟩
  | dK ds => obtain ⟨vs, e, r⟩ := h; exact ⟨vs, k.trans e, r.ext x⟩
  | ins C ds => obtain ⟨dx, vs, e, r⟩ := h; exact ⟨dx, vs, k.trans e, r.ext x⟩
theorem RepF.lows {κ : Type} : ∀ {ds : List (κ × D)} {vs : List (κ × V)}, RepF K H μ ds vs → fpure μ.length ds = true
  | _, _, .nil => rfl
  | _, _, .cons r t => Bool.and_eq_true_iff.mpr ⟨r.lowD, RepF.lows t⟩
structure RepS (K : PySem.W.Frag) (H : Hp) (μ : List Addr) (st : Store) : Prop where
  len : μ.length = st.length
  nd : μ.Nodup
  obj : ∀ (i : Nat) (a : Addr) (o : SO), μ[i]? = some a → st[i]? = some o → RepO K H μ o a
theorem RepS.live {st : Store} (h : RepS K H μ st) {a : Addr} (m : a ∈ μ) : ∃ u, H a = some u := by
  obtain ⟨i, e⟩ := List.mem_iff_getElem?.mp m
  have hi : i < st.length := by rw [← h.len]; exact (List.getElem?_eq_some_iff.mp e).1
  exact (h.obj i a st[i] e (List.getElem?_eq_getElem hi)).live
theorem RepS.free {st : Store} (h : RepS K H μ st) {a : Addr} (m : H a = none) : a ∉ μ := fun z => by
  obtain ⟨u, e⟩ := h.live z
  rw [m] at e; cases e
/-- an address that is not in the store is filled: nothing else changes -/
theorem Ext.new {a : Addr} {o : HO} (m : H a = none) : Ext H μ (upd H a o) μ :=
  ⟨⟨[], by simp, by simp⟩, fun b u h _ => by rw [upd_ne (ne_of_none h m)]; exact h, fun b h => by
    by_cases q : b = a
    · subst q; exact m
    · rw [upd_ne q] at h; exact h⟩
theorem Ext.newS {a : Addr} {o : HO} (m : H a = none) : Ext H μ (upd H a o) (μ ++ [a]) :=
  ⟨⟨[a], rfl, by simpa using m⟩, (Ext.new (o := o) (μ := μ) m).keep, (Ext.new (o := o) (μ := μ) m).live⟩
theorem RepS.new {st : Store} {a : Addr} {o : HO} (h : RepS K H μ st) (m : H a = none) : RepS K (upd H a o) μ st :=
  ⟨h.len, h.nd, fun i b u e f => (h.obj i b u e f).ext (.new m) (upd_ne fun q => by
    subst q
    obtain ⟨z, hz⟩ := (h.obj i b u e f).live
    rw [m] at hz; cases hz)⟩
theorem RepS.push {st : Store} {a : Addr} {o : HO} {so : SO} (h : RepS K H μ st) (m : H a = none) (ho : RepO K (upd H a o) (μ ++ [a]) so a) : RepS K (upd H a o) (μ ++ [a]) (st ++ [so]) := by
  refine ⟨by simp [h.len], ?_, fun i b u e f => ?_⟩
  · rw [List.nodup_append]
    refine ⟨h.nd, by simp, fun x hx y hy => ?_⟩
    have : y = a := by simpa using hy
    subst this
    rintro rfl
    exact h.free m hx
  · by_cases hi : i < μ.length
    · rw [List.getElem?_append_left hi] at e
      rw [List.getElem?_append_left (by rw [← h.len]; exact hi)] at f
      refine (h.obj i b u e f).ext (.newS m) (upd_ne fun q => ?_)
      subst q
      obtain ⟨z, hz⟩ := (h.obj i b u e f).live
      rw [m] at hz; cases hz
    · have hj : i < (μ ++ [a]).length := (List.getElem?_eq_some_iff.mp e).1
      have : i = μ.length := by simp at hj; omega
      subst this
      rw [List.getElem?_append_right (Nat.le_refl _)] at e
      rw [h.len, List.getElem?_append_right (Nat.le_refl _)] at f
      simp at e f
      subst e f
      exact ho
/-- a store's object changes -/
theorem Ext.write {a : Addr} {o : HO} (m : a ∈ μ) : Ext H μ (upd H a o) μ :=
  ⟨⟨[], by simp, by simp⟩, fun b u h n => by rw [upd_ne (fun q => n (by rw [q]; exact m))]; exact h, fun b h => by
    by_cases q : b = a
    · subst q; rw [upd_same] at h; cases h
    · rw [upd_ne q] at h; exact h⟩
theorem RepS.write {st : Store} {i : Nat} {a : Addr} {o : HO} {so : SO} (h : RepS K H μ st) (e : μ[i]? = some a) (ho : RepO K (upd H a o) μ so a) : RepS K (upd H a o) μ (st.set i so) := by
  have hm : a ∈ μ := List.mem_of_getElem? e
  refine ⟨by simp [h.len], h.nd, fun j b u e' f => ?_⟩
  by_cases hj : j = i
  · subst hj
    rw [e] at e'; cases e'
    have hl : j < st.length := by rw [← h.len]; exact (List.getElem?_eq_some_iff.mp e).1
    rw [List.getElem?_set_self hl] at f; cases f
    exact ho
  · rw [List.getElem?_set_ne (Ne.symm hj)] at f
    refine (h.obj j b u e' f).ext (.write hm) (upd_ne fun q => hj ?_)
    subst q
    obtain ⟨h1, e1⟩ := List.getElem?_eq_some_iff.mp e
    obtain ⟨h2, e2⟩ := List.getElem?_eq_some_iff.mp e'
    exact (List.getElem_inj h.nd).mp (e2.trans e1.symm)
theorem RepS.at {st : Store} {i : Nat} {so : SO} (h : RepS K H μ st) (e : st[i]? = some so) : ∃ a, μ[i]? = some a ∧ RepO K H μ so a := by
  have hl : i < μ.length := by rw [h.len]; exact (List.getElem?_eq_some_iff.mp e).1
  exact ⟨μ[i], List.getElem?_eq_getElem hl, h.obj i _ so (List.getElem?_eq_getElem hl) e⟩
theorem RepF.chg {κ : Type} {L : Addr} {xs ys : List V} (hL : H L = some (.lst xs)) : ∀ {ds : List (κ × D)} {vs : List (κ × V)}, RepF K H μ ds vs → RepF K (upd H L (.lst ys)) μ ds vs
  | _, _, .nil => .nil
  | _, _, .cons r t => .cons (r.chg hL) (RepF.chg hL t)
theorem RepS.chg {L : Addr} {xs ys : List V} {st : Store} (hL : H L = some (.lst xs)) (n : L ∉ μ) (s : RepS K H μ st) : RepS K (upd H L (.lst ys)) μ st :=
  ⟨s.len, s.nd, fun i a o e f => by
    have ne : a ≠ L := fun q => n (q ▸ List.mem_of_getElem? e)
    have h := s.obj i a o e f
    cases o with
    | lst ds => obtain ⟨vs, e, r⟩ := h; exact ⟨vs, by rw [upd_ne ne]; exact e, r.chg hL⟩
    | dK ds => obtain ⟨vs, e, r⟩ := h; exact ⟨vs, by rw [upd_ne ne]; exact e, r.chg hL⟩
    | ins C ds => obtain ⟨dx, vs, e, r⟩ := h; exact ⟨dx, vs, by rw [upd_ne ne]; exact e, r.chg hL⟩⟩
theorem RepF.more {κ : Type} {L : Addr} {xs : List V} (hL : H L = some (.lst xs)) : ∀ {ds : List (κ × D)} {vs : List (κ × V)}, RepF K H μ ds vs → RepF K H (μ ++ [L]) ds vs
  | _, _, .nil => .nil
  | _, _, .cons r t => .cons (r.more hL) (RepF.more hL t)
theorem RepO.more {L : Addr} {xs : List V} {o : SO} {a : Addr} (h : RepO K H μ o a) (hL : H L = some (.lst xs)) : RepO K H (μ ++ [L]) o a := by
  cases o with
  | lst ds => obtain ⟨vs, e, r⟩ := h; exact ⟨vs, e, r.more hL⟩
  | dK ds => obtain ⟨vs, e, r⟩ := h; exact ⟨vs, e, r.more hL⟩
  | ins C ds => obtain ⟨dx, vs, e, r⟩ := h; exact ⟨dx, vs, e, r.more hL⟩
/-- environments -/
def RepE (K : PySem.W.Frag) (H : Hp) (μ : List Addr) (ρ : Envr) (σ : L2.St) : Prop :=
  ρ.length = σ.length ∧ ∀ (i : Nat) (d : D), ρ[i]? = some (some d) → ∃ v, σ[i]? = some (some v) ∧ Rep K H μ d v
theorem RepE.ext {ρ : Envr} {σ : L2.St} (h : RepE K H μ ρ σ) (x : Ext H μ H' μ') : RepE K H' μ' ρ σ :=
  ⟨h.1, fun i d e => let ⟨v, e1, r⟩ := h.2 i d e; ⟨v, e1, r.ext x⟩⟩
theorem RepE.set {ρ : Envr} {σ : L2.St} {i : Nat} {d : D} {v : V} (h : RepE K H μ ρ σ) (r : Rep K H μ d v) : RepE K H μ (ρ.set i (some d)) (σ.set i (some v)) := by
  refine ⟨by simp [h.1], fun j e q => ?_⟩
  by_cases hj : i = j
  · subst hj
    by_cases hl : i < ρ.length
    · rw [List.getElem?_set_self hl] at q
      cases q
      exact ⟨v, List.getElem?_set_self (by rw [← h.1]; exact hl), r⟩
    · rw [List.getElem?_eq_none (by simpa using hl)] at q; cases q
  · rw [List.getElem?_set_ne hj] at q
    obtain ⟨w, e1, r1⟩ := h.2 j e q
    exact ⟨w, by rw [List.getElem?_set_ne hj]; exact e1, r1⟩
end

/-! ### what is wanted behind -/
def RepX (K : PySem.W.Frag) (H : Hp) (μ : List Addr) (x : Exn) (c : Value) (od : Option Addr) : Prop :=
  c = .ref x.cls ∧ ((od = none ∧ x.fs = []) ∨ ∃ d ws, od = some d ∧ H d = some (.xd ws) ∧ d ∉ μ ∧ RepF K H μ x.fs ws)
def Post (K : PySem.W.Frag) (H : Hp) (μ : List Addr) (r : Res D) (Q : VK) (E : XK) : Prop :=
  match r with
  | .ok d st => ∀ v H' μ', Ext H μ H' μ' → Rep K H' μ' d v → RepS K H' μ' st → Q v H'
  | .exc x st => ∀ c od H' μ', Ext H μ H' μ' → RepX K H' μ' x c od → RepS K H' μ' st → E c od H'
  | .stuck => False
def PostL (K : PySem.W.Frag) (H : Hp) (μ : List Addr) (r : Res (List D)) (Q : List V → Hp → Prop) (E : XK) : Prop :=
  match r with
  | .ok d st => ∀ v H' μ', Ext H μ H' μ' → Reps K H' μ' d v → RepS K H' μ' st → Q v H'
  | .exc x st => ∀ c od H' μ', Ext H μ H' μ' → RepX K H' μ' x c od → RepS K H' μ' st → E c od H'
  | .stuck => False
def PostB (K : PySem.W.Frag) (H : Hp) (μ : List Addr) (r : Res Bool) (Q : Bool → Hp → Prop) (E : XK) : Prop :=
  match r with
  | .ok b st => ∀ H' μ', Ext H μ H' μ' → RepS K H' μ' st → Q b H'
  | .exc x st => ∀ c od H' μ', Ext H μ H' μ' → RepX K H' μ' x c od → RepS K H' μ' st → E c od H'
  | .stuck => False
section
variable {K : PySem.W.Frag} {H H1 H2 H' : Hp} {μ μ1 μ2 μ' : List Addr} {E : XK}
theorem RepX.ext {x : Exn} {c : Value} {od : Option Addr} (h : RepX K H μ x c od) (e : Ext H μ H' μ') : RepX K H' μ' x c od := by
  obtain ⟨e1, h⟩ := h
  refine ⟨e1, ?_⟩
  rcases h with h | ⟨d, ws, h1, h2, h3, h4⟩
  · exact .inl h
  · exact .inr ⟨d, ws, h1, e.keep _ _ h2 h3, e.not_mem h2 h3, h4.ext e⟩
theorem Post.ext {r : Res D} {Q : VK} (x : Ext H μ H1 μ1) (p : Post K H μ r Q E) : Post K H1 μ1 r Q E := by
  cases r with
  | ok d st => exact fun v H' μ' e a b => p v H' μ' (x.trans e) a b
  | exc y st => exact fun c od H' μ' e a b => p c od H' μ' (x.trans e) a b
  | stuck => exact p
theorem PostL.ext {r : Res (List D)} {Q : List V → Hp → Prop} (x : Ext H μ H1 μ1) (p : PostL K H μ r Q E) : PostL K H1 μ1 r Q E := by
  cases r with
  | ok d st => exact fun v H' μ' e a b => p v H' μ' (x.trans e) a b
  | exc y st => exact fun c od H' μ' e a b => p c od H' μ' (x.trans e) a b
  | stuck => exact p
theorem PostB.ext {r : Res Bool} {Q : Bool → Hp → Prop} (x : Ext H μ H1 μ1) (p : PostB K H μ r Q E) : PostB K H1 μ1 r Q E := by
  cases r with
  | ok d st => exact fun H' μ' e a => p H' μ' (x.trans e) a
  | exc y st => exact fun c od H' μ' e a b => p c od H' μ' (x.trans e) a b
  | stuck => exact p
/-- what stands behind the first step -/
def Then (K : PySem.W.Frag) (H : Hp) (μ : List Addr) (R : D → Store → Hp → List Addr → Prop) (v : V) (H1 : Hp) : Prop :=
  ∃ d st1 μ1, Ext H μ H1 μ1 ∧ Rep K H1 μ1 d v ∧ RepS K H1 μ1 st1 ∧ R d st1 H1 μ1
def ThenL (K : PySem.W.Frag) (H : Hp) (μ : List Addr) (R : List D → Store → Hp → List Addr → Prop) (v : List V) (H1 : Hp) : Prop :=
  ∃ d st1 μ1, Ext H μ H1 μ1 ∧ Reps K H1 μ1 d v ∧ RepS K H1 μ1 st1 ∧ R d st1 H1 μ1
def ThenB (K : PySem.W.Frag) (H : Hp) (μ : List Addr) (R : Bool → Store → Hp → List Addr → Prop) (v : Bool) (H1 : Hp) : Prop :=
  ∃ st1 μ1, Ext H μ H1 μ1 ∧ RepS K H1 μ1 st1 ∧ R v st1 H1 μ1
theorem Post.bind {r : Res D} {f : D → Store → Res D} {Q : VK} (p : Post K H μ (r.bind f) Q E) : Post K H μ r (Then K H μ fun d st1 H1 μ1 => Post K H1 μ1 (f d st1) Q E) E := by
  cases r with
  | ok d st => exact fun v H' μ' e a b => ⟨d, st, μ', e, a, b, p.ext e⟩
  | exc y st => exact p
  | stuck => exact p
theorem Post.bindL {r : Res D} {f : D → Store → Res (List D)} {Q : List V → Hp → Prop} (p : PostL K H μ (r.bind f) Q E) : Post K H μ r (Then K H μ fun d st1 H1 μ1 => PostL K H1 μ1 (f d st1) Q E) E := by
  cases r with
  | ok d st => exact fun v H' μ' e a b => ⟨d, st, μ', e, a, b, p.ext e⟩
  | exc y st => exact p
  | stuck => exact p
theorem Post.bindB {r : Res D} {f : D → Store → Res Bool} {Q : Bool → Hp → Prop} (p : PostB K H μ (r.bind f) Q E) : Post K H μ r (Then K H μ fun d st1 H1 μ1 => PostB K H1 μ1 (f d st1) Q E) E := by
  cases r with
  | ok d st => exact fun v H' μ' e a b => ⟨d, st, μ', e, a, b, p.ext e⟩
  | exc y st => exact p
  | stuck => exact p
theorem PostL.bind {r : Res (List D)} {f : List D → Store → Res D} {Q : VK} (p : Post K H μ (r.bind f) Q E) : PostL K H μ r (ThenL K H μ fun d st1 H1 μ1 => Post K H1 μ1 (f d st1) Q E) E := by
  cases r with
  | ok d st => exact fun v H' μ' e a b => ⟨d, st, μ', e, a, b, p.ext e⟩
  | exc y st => exact p
  | stuck => exact p
theorem PostL.bindL {r : Res (List D)} {f : List D → Store → Res (List D)} {Q : List V → Hp → Prop} (p : PostL K H μ (r.bind f) Q E) : PostL K H μ r (ThenL K H μ fun d st1 H1 μ1 => PostL K H1 μ1 (f d st1) Q E) E := by
  cases r with
  | ok d st => exact fun v H' μ' e a b => ⟨d, st, μ', e, a, b, p.ext e⟩
  | exc y st => exact p
  | stuck => exact p
theorem PostB.bind {r : Res Bool} {f : Bool → Store → Res D} {Q : VK} (p : Post K H μ (r.bind f) Q E) : PostB K H μ r (ThenB K H μ fun d st1 H1 μ1 => Post K H1 μ1 (f d st1) Q E) E := by
  cases r with
  | ok d st => exact fun H' μ' e b => ⟨st, μ', e, b, p.ext e⟩
  | exc y st => exact p
  | stuck => exact p
theorem PostB.bindB {r : Res Bool} {f : Bool → Store → Res Bool} {Q : Bool → Hp → Prop} (p : PostB K H μ (r.bind f) Q E) : PostB K H μ r (ThenB K H μ fun d st1 H1 μ1 => PostB K H1 μ1 (f d st1) Q E) E := by
  cases r with
  | ok d st => exact fun H' μ' e b => ⟨st, μ', e, b, p.ext e⟩
  | exc y st => exact p
  | stuck => exact p
theorem Post.mono {r : Res D} {Q Q' : VK} (p : Post K H μ r Q E) (h : ∀ v H', Q v H' → Q' v H') : Post K H μ r Q' E := by
  cases r with
  | ok d st => exact fun v H' μ' e a b => h v H' (p v H' μ' e a b)
  | exc y st => exact p
  | stuck => exact p
theorem PostL.mono {r : Res (List D)} {Q Q' : List V → Hp → Prop} (p : PostL K H μ r Q E) (h : ∀ v H', Q v H' → Q' v H') : PostL K H μ r Q' E := by
  cases r with
  | ok d st => exact fun v H' μ' e a b => h v H' (p v H' μ' e a b)
  | exc y st => exact p
  | stuck => exact p
theorem PostB.mono {r : Res Bool} {Q Q' : Bool → Hp → Prop} (p : PostB K H μ r Q E) (h : ∀ v H', Q v H' → Q' v H') : PostB K H μ r Q' E := by
  cases r with
  | ok d st => exact fun H' μ' e b => h d H' (p H' μ' e b)
  | exc y st => exact p
  | stuck => exact p
end
end L3

namespace L3
open PySem PySem.Spec PyProof.Rows L2

abbrev SE := Envr → Store → Res D
abbrev SL := Envr → Store → Res (List D)
abbrev SB := Envr → Store → Res Bool
def lift (K : PySem.W.Frag) (E : XK) (f : SE) : TE := fun σ H Q => ∃ ρ st μ, RepE K H μ ρ σ ∧ RepS K H μ st ∧ Post K H μ (f ρ st) Q E
def liftL (K : PySem.W.Frag) (E : XK) (f : SL) : TA := fun σ H Q => ∃ ρ st μ, RepE K H μ ρ σ ∧ RepS K H μ st ∧ PostL K H μ (f ρ st) Q E
def liftB (K : PySem.W.Frag) (E : XK) (f : SB) : TT := fun σ H Q => ∃ ρ st μ, RepE K H μ ρ σ ∧ RepS K H μ st ∧ PostB K H μ (f ρ st) Q E
structure LE (X : Cx) (E : XK) (e : Expr) (f : SE) : Prop where
  pe : PE X e (lift X.K E f)
structure LL (X : Cx) (E : XK) (es : List Expr) (f : SL) : Prop where
  pa : PA X es (liftL X.K E f)
structure LB (X : Cx) (E : XK) (e : Expr) (f : SB) : Prop where
  pt : PT X e (liftB X.K E f)
/-- and, or: a test whatever its whole is -/
structure LW (X : Cx) (E : XK) (e : Expr) (f : SB) : Prop where
  pw : PW X e (liftB X.K E f)
theorem LW.b {X : Cx} {E : XK} {e : Expr} {f : SB} (h : LW X E e f) : LB X E e f := ⟨h.pw.pt⟩
theorem peMono {X : Cx} {e : Expr} {t t' : TE} (h : PE X e t) (m : ∀ σ H Q, t' σ H Q → t σ H Q) : PE X e t' := ⟨fun pins s σ H Q I q => h.run pins s σ H Q I (m σ H Q q)⟩
theorem paMono {X : Cx} {e : List Expr} {t t' : TA} (h : PA X e t) (m : ∀ σ H Q, t' σ H Q → t σ H Q) : PA X e t' := ⟨fun pos pins s σ H Q I q => h.run pos pins s σ H Q I (m σ H Q q)⟩
theorem ptMono {X : Cx} {e : Expr} {t t' : TT} (h : PT X e t) (m : ∀ σ H Q, t' σ H Q → t σ H Q) : PT X e t' := ⟨fun pins s σ H Q I q => h.run pins s σ H Q I (m σ H Q q)⟩
theorem pwMono {X : Cx} {e : Expr} {t t' : TT} (h : PW X e t) (m : ∀ σ H Q, t' σ H Q → t σ H Q) : PW X e t' := ⟨fun w pins s σ H Q I q => h.run w pins s σ H Q I (m σ H Q q)⟩

/-! ### names, constants -/
def sVar (i : Nat) : SE := fun ρ st => match ρ[i]? with
  | some (some d) => .ok d st
  | _ => .stuck
def sC (d : D) : SE := fun _ st => .ok d st
section
variable {X : Cx} {E : XK} {pos : Pos}
theorem le_var (i : Nat) {x : Str} {pos : Pos} (hN : X.N[i]? = some x := by rfl) (hv : Vis X.env.scope x := by first | exact Or.inl rfl | exact Or.inr (Or.inl rfl) | exact Or.inr (Or.inr rfl)) (hd : (x == ("__debug__" : Str)) = false := by decide)
    (hcd : (x == ("__classdict__" : Str)) = false := by decide) : LE X E (.Name x pos) (sVar i) := ⟨peMono (pe_var hN hv hd hcd) fun σ H Q ⟨ρ, st, μ, re, rs, p⟩ => by
  unfold sVar at p
  split at p
  · rename_i d e
    obtain ⟨v, e1, r⟩ := re.2 i d e
    exact ⟨v, e1, p v H μ (.refl H μ) r rs⟩
  · exact p.elim⟩
theorem le_int {i : Int} {j : Nat} : LE X E (.Constant (.int i) j pos) (sC (.int i)) := ⟨peMono pe_int fun σ H Q ⟨ρ, st, μ, re, rs, p⟩ => p _ H μ (.refl H μ) (.int i) rs⟩
theorem le_bl {i : Bool} {j : Nat} : LE X E (.Constant (.bool i) j pos) (sC (.bl i)) := ⟨peMono pe_bl fun σ H Q ⟨ρ, st, μ, re, rs, p⟩ => p _ H μ (.refl H μ) (.bl i) rs⟩
theorem le_non {j : Nat} : LE X E (.Constant .none j pos) (sC .non) := ⟨peMono pe_non fun σ H Q ⟨ρ, st, μ, re, rs, p⟩ => p _ H μ (.refl H μ) .non rs⟩
theorem le_str {i : Str} {j : Nat} : LE X E (.Constant (.str i) j pos) (sC (.str i)) := ⟨peMono pe_str fun σ H Q ⟨ρ, st, μ, re, rs, p⟩ => p _ H μ (.refl H μ) (.str i) rs⟩
theorem le_glob {x : Str} {v : V} {u : Value} {d : D} (hg : Gl X x) (hm : X.mg x = some u) (r : RelV v u) (h : ∀ H μ, Rep X.K H μ d v) (hd : (x == ("__debug__" : Str)) = false := by decide) : LE X E (.Name x pos) (sC d) :=
  ⟨peMono (pe_glob hg hm r hd) fun σ H Q ⟨ρ, st, μ, re, rs, p⟩ => p _ H μ (.refl H μ) (h H μ) rs⟩

/-! ### argument lists -/
def sNil : SL := fun _ st => .ok [] st
def sCons (f : SE) (g : SL) : SL := fun ρ st => (f ρ st).bind fun d st => (g ρ st).bind fun ds st => .ok (d :: ds) st
theorem ll_nil : LL X E [] sNil := ⟨paMono pa_nil fun σ H Q ⟨ρ, st, μ, re, rs, p⟩ => p _ H μ (.refl H μ) .nil rs⟩
theorem ll_cons {e : Expr} {es : List Expr} {f : SE} {g : SL} (ha : LE X E e f) (hr : LL X E es g) (hs : starEach (e :: es) X.env = (false, eval e X.env) :: starEach es X.env := by rfl) : LL X E (e :: es) (sCons f g) :=
  ⟨paMono (pa_cons ha.pe hr.pa hs) fun σ H Q ⟨ρ, st, μ, re, rs, p⟩ => by
    have p1 := Post.bindL (f := fun d st => (g ρ st).bind fun ds st => .ok (d :: ds) st) p
    refine ⟨ρ, st, μ, re, rs, p1.mono fun v H1 ⟨d, st1, μ1, x1, r1, s1, p2⟩ => ?_⟩
    refine ⟨ρ, st1, μ1, re.ext x1, s1, (PostL.bindL (f := fun ds st => .ok (d :: ds) st) p2).mono fun vs H2 ⟨ds, st2, μ2, x2, r2, s2, p3⟩ => ?_⟩
    exact p3 (v :: vs) H2 μ2 (.refl _ _) (.cons (r1.ext x2) r2) s2⟩

/-! ### displays -/
def sTup (f : SL) : SE := fun ρ st => (f ρ st).bind fun ds st => .ok (.tup ds) st
def sLst (f : SL) : SE := fun ρ st => (f ρ st).bind fun ds st => .ok (.ref st.length) (st ++ [.lst ds])
def LenIs (f : SL) (n : Nat) : Prop := ∀ ρ st ds st', f ρ st = .ok ds st' → ds.length = n
theorem lenIs_nil : LenIs sNil 0 := fun ρ st ds st' e => by cases e; rfl
theorem lenIs_cons {f : SE} {g : SL} {n : Nat} (h : LenIs g n) : LenIs (sCons f g) (n + 1) := fun ρ st ds st' e => by
  unfold sCons at e
  cases q : f ρ st with
  | ok d st1 =>
    rw [q, bind_ok] at e
    cases q2 : g ρ st1 with
    | ok ds st2 =>
      rw [q2, bind_ok] at e
      cases e
      rw [List.length_cons, h ρ st1 ds _ q2]
    | exc x st2 => rw [q2] at e; cases e
    | stuck => rw [q2] at e; cases e
  | exc x st2 => rw [q] at e; cases e
  | stuck => rw [q] at e; cases e
theorem post_tup {K : PySem.W.Frag} {H : Hp} {μ : List Addr} {ds : List D} {vs : List V} {st : Store} {Q : VK} {a : Addr} (p : Post K H μ (.ok (.tup ds) st) Q E) (r : Reps K H μ ds vs) (s : RepS K H μ st) (hn : H a = none) : Q (.ref a) (upd H a (.tup vs)) :=
  p (.ref a) _ μ (.new hn) (.tup (.inl ⟨.inl upd_same, s.free hn⟩) (r.ext (.new hn))) (s.new hn)
theorem post_lst {K : PySem.W.Frag} {H : Hp} {μ : List Addr} {ds : List D} {vs : List V} {st : Store} {Q : VK} {a : Addr} (p : Post K H μ (.ok (.ref st.length) (st ++ [.lst ds])) Q E) (r : Reps K H μ ds vs) (s : RepS K H μ st) (hn : H a = none) : Q (.ref a) (upd H a (.lst vs)) :=
  p (.ref a) _ (μ ++ [a]) (.newS hn) (.ref (by rw [← s.len, List.getElem?_append_right (Nat.le_refl _)]; simp)) (s.push hn ⟨vs, upd_same, r.ext (.newS hn)⟩)
/-- the list's length behind a fixed display -/
theorem PostL.len {K : PySem.W.Frag} {H : Hp} {μ : List Addr} {r : Res (List D)} {Q : List V → Hp → Prop} {n : Nat} (p : PostL K H μ r Q E) (h : ∀ ds st, r = .ok ds st → ds.length = n) : PostL K H μ r (fun vs H' => vs.length = n ∧ Q vs H') E := by
  cases r with
  | ok d st => exact fun v H' μ' e a b => ⟨by rw [← a.length]; exact h d st rfl, p v H' μ' e a b⟩
  | exc y st => exact p
  | stuck => exact p
theorem small_line {n : Nat} (h : n ≤ 1000) : n ≤ sizeLine := Nat.le_trans h (by decide)
theorem le_tup {es : List Expr} {f : SL} {n : Nat} {x1 : Nat} (h : LL X E es f) (hl : LenIs f n) (hn : n ≤ 1000 := by decide) : LE X E (.Tuple es x1 pos) (sTup f) :=
  ⟨peMono (pe_tup h.pa) fun σ H Q ⟨ρ, st, μ, re, rs, p⟩ => ⟨ρ, st, μ, re, rs, ((PostL.bind (f := fun ds st => .ok (.tup ds) st) p).len fun ds st' e => hl _ _ _ _ e).mono fun vs H1 ⟨e, ds, st1, μ1, x1, r1, s1, p1⟩ =>
    ⟨by rw [e]; exact small_line hn, fun a ha => post_tup p1 r1 s1 ha⟩⟩⟩
theorem le_lst {es : List Expr} {f : SL} {n : Nat} (h : LL X E es f) (hl : LenIs f n) (hn : n ≤ 1000 := by decide) : LE X E (.List es pos) (sLst f) :=
  ⟨peMono (pe_lst h.pa) fun σ H Q ⟨ρ, st, μ, re, rs, p⟩ => ⟨ρ, st, μ, re, rs, ((PostL.bind (f := fun ds st => .ok (.ref st.length) (st ++ [.lst ds])) p).len fun ds st' e => hl _ _ _ _ e).mono fun vs H1 ⟨e, ds, st1, μ1, x1, r1, s1, p1⟩ =>
    ⟨by rw [e]; exact small_line hn, fun a ha => post_lst p1 r1 s1 ha⟩⟩⟩

/-! ### operators by values -/
abbrev F2 := D → D → Store → Res D
def s2 (F : F2) (f g : SE) : SE := fun ρ st => (f ρ st).bind fun x st => (g ρ st).bind fun y st => F x y st
def lift2 (K : PySem.W.Frag) (E : XK) (F : F2) : R2 := fun x y H Q => ∃ d d' st μ, Rep K H μ d x ∧ Rep K H μ d' y ∧ RepS K H μ st ∧ Post K H μ (F d d' st) Q E
def OpL (X : Cx) (E : XK) (f : Value → Value → Sem Value) (F : F2) : Prop := OpR X f (lift2 X.K E F)
theorem lift_s2 {K : PySem.W.Frag} {F : F2} {f g : SE} {σ : L2.St} {H : Hp} {Q : VK} (h : lift K E (s2 F f g) σ H Q) : tOp (lift2 K E F) (lift K E f) (lift K E g) σ H Q := by
  obtain ⟨ρ, st, μ, re, rs, p⟩ := h
  have p1 := Post.bind (f := fun x st => (g ρ st).bind fun y st => F x y st) p
  refine ⟨ρ, st, μ, re, rs, p1.mono fun v H1 ⟨d, st1, μ1, x1, r1, s1, p2⟩ => ?_⟩
  refine ⟨ρ, st1, μ1, re.ext x1, s1, (Post.bind (f := fun y st => F d y st) p2).mono fun w H2 ⟨d', st2, μ2, x2, r2, s2, p3⟩ => ?_⟩
  exact ⟨d, d', st2, μ2, r1.ext x2, r2, s2, p3⟩
theorem le_op {a b : Expr} {op : Operator} {F : F2} {f g : SE} (ho : OpL X E (binaryOp op) F) (ha : LE X E a f) (hb : LE X E b g) : LE X E (.BinOp a op b pos) (s2 F f g) :=
  ⟨peMono (pe_op ho ha.pe hb.pe) fun _ _ _ h => lift_s2 h⟩
theorem le_cmp {a b : Expr} {op : CmpOp} {F : F2} {f g : SE} (ho : OpL X E (compareOp op) F) (ha : LE X E a f) (hb : LE X E b g) (hm : behindInMarks op b = false) : LE X E (.Compare a [op] [b] pos) (s2 F f g) :=
  ⟨peMono (pe_cmpR ho ha.pe hb.pe hm) fun _ _ _ h => lift_s2 h⟩
/-- a value that is a bool, as a test -/
def sBool (f : SE) : SB := fun ρ st => (f ρ st).bind fun x st => match x with
  | .bl b => .ok b st
  | _ => .stuck
theorem Rep.blOf {K : PySem.W.Frag} {H : Hp} {μ : List Addr} {b : Bool} {v : V} (r : Rep K H μ (.bl b) v) : v = .bl b := by cases r; rfl
theorem lift_bool {K : PySem.W.Frag} {f : SE} {σ : L2.St} {H : Hp} {Q : Bool → Hp → Prop} (h : liftB K E (sBool f) σ H Q) : lift K E f σ H fun x H' => ∃ k, x = .bl k ∧ Q k H' := by
  obtain ⟨ρ, st, μ, re, rs, p⟩ := h
  refine ⟨ρ, st, μ, re, rs, (Post.bindB p).mono fun v H1 ⟨d, st1, μ1, x1, r1, s1, p1⟩ => ?_⟩
  cases d with
  | bl b => exact ⟨b, r1.blOf, p1 H1 μ1 (.refl _ _) s1⟩
  | _ => exact p1.elim
theorem lb_cmp {a b : Expr} {op : CmpOp} {F : F2} {f g : SE} (ho : OpL X E (compareOp op) F) (ha : LE X E a f) (hb : LE X E b g) (hm : behindInMarks op b = false) : LB X E (.Compare a [op] [b] pos) (sBool (s2 F f g)) :=
  ⟨ptMono (pt_cmpR ho ha.pe hb.pe hm) fun σ H Q h => by
    have h1 := lift_bool h
    exact lift_s2 h1⟩
/-- a < b < c -/
def sChain (F G : F2) (f g h : SE) : SE := fun ρ st => (f ρ st).bind fun x st => (g ρ st).bind fun y st => (F x y st).bind fun z st => match z with
  | .bl true => (h ρ st).bind fun w st => G y w st
  | .bl false => .ok (.bl false) st
  | _ => .stuck
theorem lift_chain {K : PySem.W.Frag} {F G : F2} {f g h : SE} {σ : L2.St} {H : Hp} {Q : VK} (q : lift K E (sChain F G f g h) σ H Q) : tChain (lift2 K E F) (lift2 K E G) (lift K E f) (lift K E g) (lift K E h) σ H Q := by
  obtain ⟨ρ, st, μ, re, rs, p⟩ := q
  refine ⟨ρ, st, μ, re, rs, (Post.bind p).mono fun v H1 ⟨d, st1, μ1, x1, r1, s1, p2⟩ => ?_⟩
  refine ⟨ρ, st1, μ1, re.ext x1, s1, (Post.bind p2).mono fun w H2 ⟨d', st2, μ2, x2, r2, s2, p3⟩ => ?_⟩
  refine ⟨d, d', st2, μ2, r1.ext x2, r2, s2, (Post.bind p3).mono fun z H3 ⟨d3, st3, μ3, x3, r3, s3, p4⟩ => ?_⟩
  cases d3 with
  | bl b =>
    refine ⟨b, r3.blOf, ?_⟩
    cases b with
    | true =>
      rw [if_pos rfl]
      refine ⟨ρ, st3, μ3, ((re.ext x1).ext x2).ext x3, s3, (Post.bind p4).mono fun z4 H4 ⟨d4, st4, μ4, x4, r4, s4, p5⟩ => ?_⟩
      exact ⟨d', d4, st4, μ4, (r2.ext x3).ext x4, r4, s4, p5⟩
    | false =>
      rw [if_neg Bool.false_ne_true]
      exact p4 _ H3 μ3 (.refl _ _) (.bl false) s3
  | _ => exact p4.elim
theorem le_chain {a b c : Expr} {op op' : CmpOp} {F G : F2} {f g h : SE} (ho : OpL X E (compareOp op) F) (ho' : OpL X E (compareOp op') G) (ha : LE X E a f) (hb : LE X E b g) (hc : LE X E c h) (hm : lastMarks [op, op'] [b, c] = false) :
    LE X E (.Compare a [op, op'] [b, c] pos) (sChain F G f g h) := ⟨peMono (pe_chain ho ho' ha.pe hb.pe hc.pe hm) fun _ _ _ h => lift_chain h⟩
theorem lb_chain {a b c : Expr} {op op' : CmpOp} {F G : F2} {f g h : SE} (ho : OpL X E (compareOp op) F) (ho' : OpL X E (compareOp op') G) (ha : LE X E a f) (hb : LE X E b g) (hc : LE X E c h) (hm : lastMarks [op, op'] [b, c] = false) :
    LB X E (.Compare a [op, op'] [b, c] pos) (sBool (sChain F G f g h)) := ⟨ptMono (pt_chain ho ho' ha.pe hb.pe hc.pe hm) fun σ H Q q => by
      have h1 := lift_bool q
      exact lift_chain h1⟩

/-! ### one value -/
abbrev F1 := D → Store → Res D
def s1 (F : F1) (f : SE) : SE := fun ρ st => (f ρ st).bind fun x st => F x st
def lift1 (K : PySem.W.Frag) (E : XK) (F : F1) : V → Hp → VK → Prop := fun x H Q => ∃ d st μ, Rep K H μ d x ∧ RepS K H μ st ∧ Post K H μ (F d st) Q E
theorem lift_s1 {K : PySem.W.Frag} {F : F1} {f : SE} {σ : L2.St} {H : Hp} {Q : VK} (h : lift K E (s1 F f) σ H Q) : lift K E f σ H fun x H1 => lift1 K E F x H1 Q := by
  obtain ⟨ρ, st, μ, re, rs, p⟩ := h
  exact ⟨ρ, st, μ, re, rs, (Post.bind p).mono fun v H1 ⟨d, st1, μ1, x1, r1, s1, p2⟩ => ⟨d, st1, μ1, r1, s1, p2⟩⟩
def vNeg : F1 := fun d st => match d with
  | .int i => .ok (.int (-i)) st
  | _ => .stuck
theorem le_neg {a : Expr} {f : SE} (ha : LE X E a f) : LE X E (.UnaryOp .USub a pos) (s1 vNeg f) := ⟨peMono (pe_un un_neg ha.pe) fun σ H Q h => by
  obtain ⟨ρ, st, μ, re, rs, p⟩ := lift_s1 h
  refine ⟨ρ, st, μ, re, rs, p.mono fun v H1 ⟨d, st1, μ1, r1, s1, p1⟩ => ?_⟩
  cases d with
  | int i => cases r1; exact ⟨i, rfl, p1 _ H1 μ1 (.refl _ _) (.int _) s1⟩
  | _ => exact p1.elim⟩

/-! ### truth -/
def truth (d : D) (st : Store) : Option Bool := match d with
  | .non => some false
  | .bl b => some b
  | .int i => some (i != 0)
  | .str x => if x.length ≤ sizeLine then some (x.length != 0) else none
  | .tup xs => some (!xs.isEmpty)
  | .rl xs => some (!xs.isEmpty)
  | .ref n => match st[n]? with
    | some (.lst xs) => some (!xs.isEmpty)
    | some (.dK xs) => some (!xs.isEmpty)
    | _ => none
theorem Reps.empty {K : PySem.W.Frag} {H : Hp} {μ : List Addr} {ds : List D} {vs : List V} (r : Reps K H μ ds vs) : ds.isEmpty = vs.isEmpty := by cases r <;> rfl
theorem RepF.empty {κ : Type} {K : PySem.W.Frag} {H : Hp} {μ : List Addr} {ds : List (κ × D)} {vs : List (κ × V)} (r : RepF K H μ ds vs) : ds.isEmpty = vs.isEmpty := by cases r <;> rfl
theorem truV {K : PySem.W.Frag} {H : Hp} {μ : List Addr} {d : D} {v : V} {st : Store} {b : Bool} (r : Rep K H μ d v) (s : RepS K H μ st) (h : truth d st = some b) : TruV K v H b := by
  cases d with
  | non => cases r; cases h; rfl
  | bl b => cases r; cases h; rfl
  | int i => cases r; cases h; rfl
  | str x =>
    cases r
    simp only [truth] at h
    split at h
    · cases h; exact ⟨by assumption, by rw [Bool.eq_iff_iff]; simp⟩
    · cases h
  | tup xs => cases r with | tup h1 h2 => cases h; exact .inr (.inl ⟨_, h1.sq, by rw [h2.empty]⟩)
  | rl xs => cases r with | rl h1 h2 => cases h; exact .inl ⟨_, h1.sq, by rw [h2.empty]⟩
  | ref n =>
    cases r with
    | ref h1 =>
      simp only [truth] at h
      split at h
      · rename_i xs e
        cases h
        obtain ⟨a, e1, vs, e2, r2⟩ := s.at e
        rw [h1] at e1; cases e1
        exact .inl ⟨vs, .of e2, by rw [r2.empty]⟩
      · rename_i xs e
        cases h
        obtain ⟨a, e1, vs, e2, r2⟩ := s.at e
        rw [h1] at e1; cases e1
        exact .inr (.inr (by first | exact ⟨vs, .inl e2, by rw [r2.empty]⟩ | exact .inl ⟨vs, .inl e2, by rw [r2.empty]⟩ | exact ⟨vs, e2, by rw [r2.empty]⟩))
      · cases h
def sTruth (f : SE) : SB := fun ρ st => (f ρ st).bind fun x st => match truth x st with
  | some b => .ok b st
  | none => .stuck
theorem lift_truth {K : PySem.W.Frag} {f : SE} {σ : L2.St} {H : Hp} {Q : Bool → Hp → Prop} (h : liftB K E (sTruth f) σ H Q) : lift K E f σ H fun x H' => ∃ k, TruV K x H' k ∧ Q k H' := by
  obtain ⟨ρ, st, μ, re, rs, p⟩ := h
  refine ⟨ρ, st, μ, re, rs, (Post.bindB p).mono fun v H1 ⟨d, st1, μ1, x1, r1, s1, p1⟩ => ?_⟩
  cases e : truth d st1 with
  | some b => dsimp only at p1; rw [e] at p1; exact ⟨b, truV r1 s1 e, p1 H1 μ1 (.refl _ _) s1⟩
  | none => dsimp only at p1; rw [e] at p1; exact p1.elim
theorem lb_truth {a : Expr} {f : SE} (ha : LE X E a f) (he : ∀ whole, isTrue a X.env whole = (do let v ← whole; standAt a.pos; holding [v] (truthy v)) := by intro _; rfl) : LB X E a (sTruth f) :=
  ⟨ptMono (pt_truth ha.pe he) fun σ H Q h => by
    first | exact lift_truth h | exact (lift_truth h)⟩
def sNot (t : SB) : SB := fun ρ st => (t ρ st).bind fun b st => .ok (!b) st
theorem lb_not {a : Expr} {t : SB} (ha : LB X E a t) : LB X E (.UnaryOp .Not a pos) (sNot t) := ⟨ptMono (pt_not ha.pt) fun σ H Q ⟨ρ, st, μ, re, rs, p⟩ =>
  ⟨ρ, st, μ, re, rs, (PostB.bindB p).mono fun b H1 ⟨st1, μ1, x1, s1, p1⟩ => p1 H1 μ1 (.refl _ _) s1⟩⟩
/-- not a, as a value -/
def sNotV (t : SB) : SE := fun ρ st => (t ρ st).bind fun b st => .ok (.bl (!b)) st
theorem le_not {a : Expr} {f : SE} (ha : LE X E a f) : LE X E (.UnaryOp .Not a pos) (sNotV (sTruth f)) := ⟨peMono (pe_notT ha.pe) fun σ H Q ⟨ρ, st, μ, re, rs, p⟩ => by
  have p1 : liftB X.K E (sTruth f) σ H (fun b H1 => Q (.bl (!b)) H1) := ⟨ρ, st, μ, re, rs, (PostB.bind p).mono fun b H1 ⟨st1, μ1, x1, s1, p1⟩ => p1 _ H1 μ1 (.refl _ _) (.bl _) s1⟩
  exact lift_truth p1⟩
/-! ### and, or -/
def sAnd (t u : SB) : SB := fun ρ st => (t ρ st).bind fun b st => if b = true then u ρ st else .ok false st
def sOr (t u : SB) : SB := fun ρ st => (t ρ st).bind fun b st => if b = true then .ok true st else u ρ st
theorem lw_and1 {a : Expr} {t : SB} (ha : LB X E a t) : LW X E (.BoolOp .And [a] pos) t := ⟨pw_and1 ha.pt⟩
theorem lw_or1 {a : Expr} {t : SB} (ha : LB X E a t) : LW X E (.BoolOp .Or [a] pos) t := ⟨pw_or1 ha.pt⟩
theorem lw_and {a b : Expr} {rest : List Expr} {t u : SB} (ha : LB X E a t) (hb : LW X E (.BoolOp .And (b :: rest) pos) u) : LW X E (.BoolOp .And (a :: b :: rest) pos) (sAnd t u) := ⟨pwMono (pw_and ha.pt hb.pw) fun σ H Q ⟨ρ, st, μ, re, rs, p⟩ =>
  ⟨ρ, st, μ, re, rs, (PostB.bindB p).mono fun b H1 ⟨st1, μ1, x1, s1, p1⟩ => by
    cases b with
    | true => rw [if_pos rfl] at p1 ⊢; exact ⟨ρ, st1, μ1, re.ext x1, s1, p1⟩
    | false => rw [if_neg Bool.false_ne_true] at p1 ⊢; exact p1 H1 μ1 (.refl _ _) s1⟩⟩
theorem lw_or {a b : Expr} {rest : List Expr} {t u : SB} (ha : LB X E a t) (hb : LW X E (.BoolOp .Or (b :: rest) pos) u) : LW X E (.BoolOp .Or (a :: b :: rest) pos) (sOr t u) := ⟨pwMono (pw_or ha.pt hb.pw) fun σ H Q ⟨ρ, st, μ, re, rs, p⟩ =>
  ⟨ρ, st, μ, re, rs, (PostB.bindB p).mono fun b H1 ⟨st1, μ1, x1, s1, p1⟩ => by
    cases b with
    | true => rw [if_pos rfl] at p1 ⊢; exact p1 H1 μ1 (.refl _ _) s1
    | false => rw [if_neg Bool.false_ne_true] at p1 ⊢; exact ⟨ρ, st1, μ1, re.ext x1, s1, p1⟩⟩⟩
/-- as values: each but the last by its truth -/
def sAndV (f g : SE) : SE := fun ρ st => (f ρ st).bind fun x st => match truth x st with
  | some true => g ρ st
  | some false => .ok x st
  | none => .stuck
def sOrV (f g : SE) : SE := fun ρ st => (f ρ st).bind fun x st => match truth x st with
  | some true => .ok x st
  | some false => g ρ st
  | none => .stuck
theorem le_one {a : Expr} {op : BoolOp} {f : SE} (h : LE X E a f) : LE X E (.BoolOp op [a] pos) f := ⟨pe_one h.pe⟩
theorem le_and {a b : Expr} {rest : List Expr} {f g : SE} (ha : LE X E a f) (hb : LE X E (.BoolOp .And (b :: rest) pos) g) : LE X E (.BoolOp .And (a :: b :: rest) pos) (sAndV f g) := ⟨peMono (pe_andT ha.pe hb.pe) fun σ H Q ⟨ρ, st, μ, re, rs, p⟩ =>
  ⟨ρ, st, μ, re, rs, (Post.bind p).mono fun v H1 ⟨d, st1, μ1, x1, r1, s1, p1⟩ => by
    cases e : truth d st1 with
    | none => dsimp only at p1; rw [e] at p1; exact p1.elim
    | some k =>
      dsimp only at p1; rw [e] at p1
      refine ⟨k, truV r1 s1 e, ?_⟩
      cases k with
      | true => exact ⟨ρ, st1, μ1, re.ext x1, s1, p1⟩
      | false => exact p1 v H1 μ1 (.refl _ _) r1 s1⟩⟩
theorem le_or {a b : Expr} {rest : List Expr} {f g : SE} (ha : LE X E a f) (hb : LE X E (.BoolOp .Or (b :: rest) pos) g) : LE X E (.BoolOp .Or (a :: b :: rest) pos) (sOrV f g) := ⟨peMono (pe_orT ha.pe hb.pe) fun σ H Q ⟨ρ, st, μ, re, rs, p⟩ =>
  ⟨ρ, st, μ, re, rs, (Post.bind p).mono fun v H1 ⟨d, st1, μ1, x1, r1, s1, p1⟩ => by
    cases e : truth d st1 with
    | none => dsimp only at p1; rw [e] at p1; exact p1.elim
    | some k =>
      dsimp only at p1; rw [e] at p1
      refine ⟨k, truV r1 s1 e, ?_⟩
      cases k with
      | true => exact p1 v H1 μ1 (.refl _ _) r1 s1
      | false => exact ⟨ρ, st1, μ1, re.ext x1, s1, p1⟩⟩⟩
/-- a if t else b -/
def sIte (t : SB) (f g : SE) : SE := fun ρ st => (t ρ st).bind fun b st => if b = true then f ρ st else g ρ st
theorem le_ite {c a b : Expr} {t : SB} {f g : SE} (hc : LB X E c t) (ha : LE X E a f) (hb : LE X E b g) : LE X E (.IfExp c a b pos) (sIte t f g) := ⟨peMono (pe_ifExp hc.pt ha.pe hb.pe) fun σ H Q ⟨ρ, st, μ, re, rs, p⟩ =>
  ⟨ρ, st, μ, re, rs, (PostB.bind p).mono fun b H1 ⟨st1, μ1, x1, s1, p1⟩ => by
    cases b with
    | true => rw [if_pos rfl] at p1 ⊢; exact ⟨ρ, st1, μ1, re.ext x1, s1, p1⟩
    | false => rw [if_neg Bool.false_ne_true] at p1 ⊢; exact ⟨ρ, st1, μ1, re.ext x1, s1, p1⟩⟩⟩

/-! ### the store swept: what was made and is not held is forgotten -/
open Classical in
noncomputable def swept (st : Store) (r : Res D) : Res D := match r with
  | .ok d st' => if st.length ≤ st'.length ∧ d.low st.length = true ∧ ∀ (i : Nat) (o : SO), i < st.length → st'[i]? = some o → st[i]? = some o ∨ o.low st.length = true then .ok d (st'.take st.length) else .ok d st'
  | r => r
theorem RepS.sweep {K : PySem.W.Frag} {H H' : Hp} {μ μ' : List Addr} {st st' : Store} (s : RepS K H μ st) (x : Ext H μ H' μ') (s' : RepS K H' μ' st')
    (h : ∀ (i : Nat) (o : SO), i < st.length → st'[i]? = some o → st[i]? = some o ∨ o.low st.length = true) (hl : st.length ≤ st'.length) : Ext H μ H' μ ∧ RepS K H' μ (st'.take st.length) := by
  obtain ⟨m, e, f⟩ := x.pre
  refine ⟨⟨⟨[], by simp, by simp⟩, x.keep, x.live⟩, ⟨by rw [List.length_take, Nat.min_eq_left hl, s.len], s.nd, fun i a o e1 e2 => ?_⟩⟩
  have hi : i < st.length := by
    have := (List.getElem?_eq_some_iff.mp e2).1
    rw [List.length_take] at this
    omega
  rw [List.getElem?_take_of_lt hi] at e2
  have q := s'.obj i a o (by rw [e, List.getElem?_append_left (by rw [s.len]; exact hi)]; exact e1) e2
  rcases h i o hi e2 with z | z
  · have q0 := s.obj i a o e1 z
    -- the object as it was, described as it was
    rw [e] at q
    cases o with
    | lst ds =>
      obtain ⟨vs, e3, r3⟩ := q
      obtain ⟨ws, e4, r4⟩ := q0
      exact ⟨vs, e3, r3.cut r4.lows⟩
    | dK ds =>
      obtain ⟨vs, e3, r3⟩ := q
      obtain ⟨ws, e4, r4⟩ := q0
      exact ⟨vs, e3, r3.cut (RepF.lows r4)⟩
    | ins C ds =>
      obtain ⟨dx, vs, e3, r3⟩ := q
      obtain ⟨dx', ws, e4, r4⟩ := q0
      exact ⟨dx, vs, e3, r3.cut (RepF.lows r4)⟩
  · rw [e] at q
    exact q.cut (by rw [s.len]; exact z)
end
end L3

namespace L3
open PySem PySem.Spec PyProof.Rows L2
section
variable {X : Cx} {E : XK} {pos : Pos}
/-! ### arithmetic -/
def vAdd : F2 := fun x y st => match x, y with
  | .int i, .int j => .ok (.int (i + j)) st
  | .str a, .str b => if a.length + b.length ≤ sizeLine then .ok (.str (a ++ b)) st else .stuck
  | .tup a, .tup b => if a.length + b.length ≤ sizeLine then .ok (.tup (a ++ b)) st else .stuck
  | .ref m, .ref n => match st[m]?, st[n]? with
    | some (.lst a), some (.lst b) => if a.length + b.length ≤ sizeLine then .ok (.ref st.length) (st ++ [.lst (a ++ b)]) else .stuck
    | _, _ => .stuck
  | _, _ => .stuck
theorem op_vAdd : OpL X E (binaryOp .Add) vAdd := by
  intro pins s σ H x y v u Q I rx ry ⟨d, d', st, μ, h1, h2, h3, p⟩
  cases d <;> cases d' <;> first | exact (show False from p).elim | skip
  · cases h1; cases h2
    exact op_add pins s σ H _ _ v u Q I rx ry ⟨_, _, rfl, rfl, p _ H μ (.refl _ _) (.int _) h3⟩
  · cases h1; cases h2
    simp only [vAdd] at p
    split at p
    · exact op_add_str pins s σ H _ _ v u Q I rx ry ⟨_, _, rfl, rfl, by assumption, p _ H μ (.refl _ _) (.str _) h3⟩
    · exact p.elim
  · simp only [vAdd] at p
    cases h1 with
    | tup t1 r1 =>
      cases h2 with
      | tup t2 r2 =>
        split at p
        · rename_i hz
          refine op_catA pins s σ H _ _ v u Q I rx ry ⟨_, _, _, _, rfl, rfl, t1.sq, t2.sq, by rw [← r1.length, ← r2.length]; exact hz, fun e => ?_, fun _ e => ?_, fun _ _ a ha => ?_⟩
          · subst e
            cases r1
            exact p _ H μ (.refl _ _) (.tup t2 (by simpa using r2)) h3
          · subst e
            cases r2
            exact p _ H μ (.refl _ _) (.tup t1 (by simpa using r1)) h3
          · exact post_tup p (r1.append r2) h3 ha
        · exact p.elim
  · simp only [vAdd] at p
    cases h1 with
    | ref e1 =>
      cases h2 with
      | ref e2 =>
        split at p
        · rename_i xs ys q1 q2
          split at p
          · rename_i hz
            obtain ⟨a, f1, vs, g1, r1⟩ := h3.at q1
            obtain ⟨b, f2, ws, g2, r2⟩ := h3.at q2
            rw [e1] at f1; cases f1
            rw [e2] at f2; cases f2
            exact op_cat pins s σ H _ _ v u Q I rx ry ⟨_, _, _, _, rfl, rfl, g1, g2, by rw [← r1.length, ← r2.length]; exact hz, fun a ha => post_lst p (r1.append r2) h3 ha⟩
          · exact p.elim
        · exact p.elim
def vSub : F2 := fun x y st => match x, y with
  | .int i, .int j => .ok (.int (i - j)) st
  | _, _ => .stuck
theorem op_vSub : OpL X E (binaryOp .Sub) vSub := by
  intro pins s σ H x y v u Q I rx ry ⟨d, d', st, μ, h1, h2, h3, p⟩
  cases d <;> cases d' <;> first | exact (show False from p).elim | skip
  cases h1; cases h2
  exact op_sub pins s σ H _ _ v u Q I rx ry ⟨_, _, rfl, rfl, p _ H μ (.refl _ _) (.int _) h3⟩
/-- how wide an int is -/
def wid (i : Int) : Nat := i.natAbs.log2
def vMul : F2 := fun x y st => match x, y with
  | .int i, .int j => if wid i + wid j < 1000000 then .ok (.int (i * j)) st else .stuck
  | .str a, .int k => if a.length ≤ 1000000 ∧ k ≤ 1000000 ∧ -1000000 ≤ k ∧ a.length * k.toNat ≤ sizeLine then .ok (.str ⟨(List.replicate k.toNat a.cps).foldl (· ++ ·) #[]⟩) st else .stuck
  | .tup a, .int k => if -1000 ≤ k ∧ k ≤ 1000 ∧ a.length ≤ 1000 then .ok (.tup (List.replicate k.toNat a).flatten) st else .stuck
  | .ref m, .int k => match st[m]? with
    | some (.lst a) => if -1000000 ≤ k ∧ k ≤ 1000000 ∧ a.length * k.toNat ≤ sizeLine then .ok (.ref st.length) (st ++ [.lst (List.replicate k.toNat a).flatten]) else .stuck
    | _ => .stuck
  | _, _ => .stuck
theorem op_str_mul {pins : List (Addr × Obj)} {s : Shared} {σ : L2.St} {H : Hp} {a : Str} {k : Int} {v u : Value} {Q : VK} (I : Inv X pins σ H s) (rx : RelV (.str a) v) (ry : RelV (.int k) u) (h1 : k ≤ 1000000) (h2 : -1000000 ≤ k) (h3 : a.length * k.toNat ≤ sizeLine) (h4 : a.length ≤ 1000000)
    (q : Q (.str ⟨(List.replicate k.toNat a.cps).foldl (· ++ ·) #[]⟩) H) : wpAny (model X.prog X.w) X.A (binaryOp .Mult v u) (EP X pins σ Q) X.xe s := by
  obtain ⟨t, rfl⟩ := rx
  obtain ⟨t', rfl⟩ := ry
  refine PySem.P.mul_str (by
      have e1 : decide (k < -(2 ^ 63 : Int)) = false := decide_eq_false (by omega)
      have e2 : decide (k ≥ 2 ^ 63) = false := decide_eq_false (by omega)
      rw [e1, e2]; rfl) (fun hk _ => ?_) (fun hk _ => ?_) ?_
  · intro hb
    have h5 : ((2 : Int) ^ 63 - 1) / k ≥ 1000000 := by
      rw [ge_iff_le, Int.le_ediv_iff_mul_le (by omega)]
      omega
    omega
  · have hs : sizeLine = 16777216 := sizeLine_eq
    unfold PySem.Builtin.Str.tooLong
    first
      | exact decide_eq_false (by omega)
      | (simp only [decide_eq_false_iff_not]; omega)
  · by_cases hk : k < 1
    · rw [if_pos hk]
      have e : k.toNat = 0 := by omega
      refine ⟨by decide, ⟨.str Str.empty, H, I.tok _, ⟨_, rfl⟩, ?_⟩⟩
      rw [e] at q
      exact q
    · rw [if_neg hk]
      split
      · rename_i hc
        have hq : (⟨(List.replicate k.toNat a.cps).foldl (· ++ ·) #[]⟩ : Str) = a := by
          rcases Bool.or_eq_true_iff.mp hc with hc | hc
          · have : k = 1 := by simpa using hc
            subst this
            simp
          · have hz : a.cps = #[] := by
              have : a.length = 0 := by simpa using hc
              exact Array.eq_empty_of_size_eq_zero this
            have : ∀ n (b : Array Nat), b = #[] → (List.replicate n (#[] : Array Nat)).foldl (· ++ ·) b = #[] := by
              intro n
              induction n with
              | zero => intro b hb; simpa using hb
              | succ n ih => intro b hb; rw [List.replicate_succ, List.foldl_cons]; exact ih _ (by rw [hb]; rfl)
            rw [hz, this _ _ rfl]
            cases a; simp at hz; rw [hz]
        rw [hq] at q
        exact ⟨.str a, H, I, ⟨_, rfl⟩, q⟩
      · exact ⟨by
          have : (Str.length ⟨(List.replicate k.toNat a.cps).foldl (· ++ ·) #[]⟩) = a.length * k.toNat := by
            have gen : ∀ n (b : Array Nat), ((List.replicate n a.cps).foldl (· ++ ·) b).size = b.size + a.length * n := by
              intro n
              induction n with
              | zero => intro b; simp
              | succ n ih => intro b; rw [List.replicate_succ, List.foldl_cons, ih, Array.size_append, Nat.mul_succ]; have : a.length = a.cps.size := rfl; rw [this]; omega
            have := gen k.toNat #[]
            simpa [Str.length] using this
          rw [this]; exact h3, ⟨.str _, H, I.tok _, ⟨_, rfl⟩, q⟩⟩
theorem tuple_same (l : Addr) (items : Array Value) (n : Nat) (dd : Option Addr) (sl : Array (Option Value)) (x : Int) (u : Tok) (c0 : (decide (x < -(2 ^ 63)) || decide (x ≥ 2 ^ 63)) = false) (c1 : (items.isEmpty || x == 1) = true) :
    Meets (Builtin.«tuple.__mul__» ⟨[.ref l, .int x u], []⟩) (fun _ R s => s.heap.get? l = some { cls := .type "tuple", dict := dd, data := .seq items n, slots := sl } ∧ R (.ok (.ret (Value.ref l))) s) :=
  .of_wp fun prog w A R s h => by
    obtain ⟨hp, g, d, tk, os⟩ := s
    obtain ⟨hl, h⟩ := h
    have f1 := AutoSeq1.idx_int
    wp_walk using wpAny_loadPart' hl
    repeat (first
      | (refine wpAny_ite_false (decide_eq_false (by rw [c0]; exact Bool.false_ne_true)) ?_; wp_walk using wpAny_loadPart' hl)
      | (refine wpAny_ite_true (decide_eq_true c1) ?_; wp_walk using wpAny_loadPart' hl))
    exact ⟨_, rfl, h⟩
theorem tuple_nil (l : Addr) (items : Array Value) (n : Nat) (dd : Option Addr) (sl : Array (Option Value)) (x : Int) (u : Tok) (c0 : (decide (x < -(2 ^ 63)) || decide (x ≥ 2 ^ 63)) = false) (c1 : (items.isEmpty || x == 1) = false) (c2 : (decide (x ≤ 0) || items.isEmpty) = true) :
    Meets (Builtin.«tuple.__mul__» ⟨[.ref l, .int x u], []⟩) (fun _ R s => s.heap.get? l = some { cls := .type "tuple", dict := dd, data := .seq items n, slots := sl } ∧
      R (.ok (.ret (Value.ref s.heap.objs.size))) { s with heap := s.heap.push { cls := Value.type "tuple", data := Data.seq #[] }, toks := s.toks }) :=
  .of_wp fun prog w A R s h => by
    obtain ⟨hp, g, d, tk, os⟩ := s
    obtain ⟨hl, h⟩ := h
    have f1 := AutoSeq1.idx_int
    wp_walk using wpAny_loadPart' hl
    repeat (first
      | (refine wpAny_ite_false (decide_eq_false (by rw [c0]; exact Bool.false_ne_true)) ?_; wp_walk using wpAny_loadPart' hl)
      | (refine wpAny_ite_false (decide_eq_false (by rw [c1]; exact Bool.false_ne_true)) ?_; wp_walk using wpAny_loadPart' hl)
      | (refine wpAny_ite_true (decide_eq_true c2) ?_; wp_walk using wpAny_loadPart' hl))
    exact ⟨_, rfl, h⟩
theorem op_repS {pins : List (Addr × Obj)} {s : Shared} {σ : L2.St} {H : Hp} {l : Addr} {k : Int} {xs : List V} {v u : Value} {Q : VK} (I : Inv X pins σ H s) (rx : RelV (.ref l) v) (ry : RelV (.int k) u) (hT : SqT X.K H l xs) (h1 : -1000 ≤ k) (h2 : k ≤ 1000) (hz : xs = [] ∨ k = 1 ∨ k ≤ 0)
    (q1 : xs = [] ∨ k = 1 → Q (.ref l) H) (q2 : k ≤ 0 → ∀ p, H p = none → Q (.ref p) (upd H p (.tup []))) : wpAny (model X.prog X.w) X.A (binaryOp .Mult v u) (EP X pins σ Q) X.xe s := by
  cases rx
  obtain ⟨t, rfl⟩ := ry
  obtain ⟨its, r, ⟨⟨cls, dd, data, sl⟩, ho, hc, n, hd⟩, hs⟩ := I.tuple hT
  simp only at hc hd
  subst hc hd
  have c0 : (decide (k < -(2 ^ 63)) || decide (k ≥ 2 ^ 63)) = false := by
    rw [decide_eq_false (by omega), decide_eq_false (by omega)] <;> rfl
  by_cases hA : (its.toArray.isEmpty || k == 1) = true
  · refine wpAny_binaryOp_repeat_ref (T := "tuple") (U := "int") (by decide) ⟨_, ho, rfl⟩ (fun s' => typeIs_int s' k t) noFill_tuple_mul F.fills_int_mul F.slot_int_rmul repeat_tuple F.slot_int_index.lookup
      (call_meets F.slot_int_rmul (typeIs_int s k t) F.entry_int_rmul (F.args_int_rmul_2 _ _) (int_rmul_tuple k t l its.toArray n dd sl)
        ⟨ho, rfl, ⟨_, ho, rfl⟩, call_meets F.slot_tuple_mul ⟨_, ho, rfl⟩ F.entry_tuple_mul (F.args_tuple_mul_2 _ _) (tuple_same l its.toArray n dd sl k t c0 hA) ⟨ho, ?_⟩⟩)
    refine ⟨.ref l, _, I, rfl, q1 ?_⟩
    rcases Bool.or_eq_true_iff.mp hA with h | h
    · refine .inl ?_
      have : its = [] := by simpa using h
      subst this
      cases r
      rfl
    · exact .inr (by simpa using h)
  · have hA' : (its.toArray.isEmpty || k == 1) = false := by simpa using hA
    have hn : k ≤ 0 := by
      rcases hz with h | h | h
      · subst h; cases r; simp at hA'
      · subst h; simp at hA'
      · exact h
    have c2 : (decide (k ≤ 0) || its.toArray.isEmpty) = true := by simp [hn]
    refine wpAny_binaryOp_repeat_ref (T := "tuple") (U := "int") (by decide) ⟨_, ho, rfl⟩ (fun s' => typeIs_int s' k t) noFill_tuple_mul F.fills_int_mul F.slot_int_rmul repeat_tuple F.slot_int_index.lookup
      (call_meets F.slot_int_rmul (typeIs_int s k t) F.entry_int_rmul (F.args_int_rmul_2 _ _) (int_rmul_tuple k t l its.toArray n dd sl)
        ⟨ho, rfl, ⟨_, ho, rfl⟩, call_meets F.slot_tuple_mul ⟨_, ho, rfl⟩ F.entry_tuple_mul (F.args_tuple_mul_2 _ _) (tuple_nil l its.toArray n dd sl k t c0 hA' c2) ⟨ho, ?_⟩⟩)
    refine ⟨.ref s.heap.objs.size, _, I.laid (t' := s.toks) (o := .tup []) (fun b ob q => Heap.get?_push_of_some _ q) (Nat.le_refl _) ?_, rfl, q2 hn _ (I.hok.fresh (Nat.le_refl _))⟩
    exact ⟨Nat.zero_le _, [], .nil, IsTup.new _ _⟩
theorem op_vMul : OpL X E (binaryOp .Mult) vMul := by
  intro pins s σ H x y v u Q I rx ry ⟨d, d', st, μ, h1, h2, h3, p⟩
  cases d <;> cases d' <;> first | exact (show False from p).elim | skip
  · cases h1; cases h2
    simp only [vMul] at p
    split at p
    · exact op_mulW pins s σ H _ _ v u Q I rx ry ⟨_, _, rfl, rfl, by assumption, p _ H μ (.refl _ _) (.int _) h3⟩
    · exact p.elim
  · cases h1; cases h2
    simp only [vMul] at p
    split at p
    · rename_i hz
      exact op_str_mul I rx ry hz.2.1 hz.2.2.1 hz.2.2.2 hz.1 (p _ H μ (.refl _ _) (.str _) h3)
    · exact p.elim
  · rename_i a k
    cases h2
    simp only [vMul] at p
    cases h1 with
    | tup t1 r1 =>
      split at p
      · rename_i hz
        by_cases h0 : a ≠ [] ∧ 2 ≤ k
        · refine op_repT pins s σ H _ _ v u Q I rx ry ⟨_, _, _, rfl, rfl, t1.sq, fun e => ?_, h0.2, hz.2.1, by rw [← r1.length]; exact hz.2.2, fun a ha => post_tup p (r1.rep _) h3 ha⟩
          subst e
          cases r1
          exact h0.1 rfl
        · have hc : a = [] ∨ k = 1 ∨ k ≤ 0 := by
            rcases Classical.em (a = []) with e | e
            · exact .inl e
            · have : ¬ 2 ≤ k := fun q => h0 ⟨e, q⟩
              omega
          refine op_repS I rx ry t1.sq hz.1 hz.2.1 (hc.imp (fun e => by subst e; cases r1; rfl) id) (fun hq => ?_) (fun hq a' ha => ?_)
          · have ea : (List.replicate k.toNat a).flatten = a := by
              rcases hq with e | e
              · subst e
                cases r1
                simp
              · subst e; simp
            rw [ea] at p
            exact p _ H μ (.refl _ _) (.tup t1 r1) h3
          · have ea : (List.replicate k.toNat a).flatten = [] := by rw [Int.toNat_of_nonpos hq]; rfl
            rw [ea] at p
            exact post_tup p .nil h3 ha
      · exact p.elim
  · cases h2
    simp only [vMul] at p
    cases h1 with
    | ref e1 =>
      split at p
      · rename_i xs q1
        split at p
        · rename_i hz
          obtain ⟨a, f1, vs, g1, r1⟩ := h3.at q1
          rw [e1] at f1; cases f1
          exact op_rep pins s σ H _ _ v u Q I rx ry ⟨_, _, _, rfl, rfl, g1, by omega, by omega, by rw [← r1.length]; exact hz.2.2, fun a ha => post_lst p (r1.rep _) h3 ha⟩
        · exact p.elim
      · exact p.elim
def vFdiv : F2 := fun x y st => match x, y with
  | .int i, .int j => if 0 < j ∧ wid j < 9000 then .ok (.int (i / j)) st else .stuck
  | _, _ => .stuck
theorem op_vFdiv : OpL X E (binaryOp .FloorDiv) vFdiv := by
  intro pins s σ H x y v u Q I rx ry ⟨d, d', st, μ, h1, h2, h3, p⟩
  cases d <;> cases d' <;> first | exact (show False from p).elim | skip
  cases h1; cases h2
  simp only [vFdiv] at p
  split at p
  · exact op_fdivW pins s σ H _ _ v u Q I rx ry ⟨_, _, rfl, rfl, by assumption, p _ H μ (.refl _ _) (.int _) h3⟩
  · exact p.elim
def vMod : F2 := fun x y st => match x, y with
  | .int i, .int j => if 0 < j then .ok (.int (i % j)) st else .stuck
  | _, _ => .stuck
theorem op_vMod : OpL X E (binaryOp .Mod) vMod := by
  intro pins s σ H x y v u Q I rx ry ⟨d, d', st, μ, h1, h2, h3, p⟩
  cases d <;> cases d' <;> first | exact (show False from p).elim | skip
  cases h1; cases h2
  simp only [vMod] at p
  split at p
  · exact op_mod pins s σ H _ _ v u Q I rx ry ⟨_, _, rfl, rfl, by assumption, p _ H μ (.refl _ _) (.int _) h3⟩
  · exact p.elim
def vPow : F2 := fun x y st => match x, y with
  | .int i, .int j => if 0 ≤ j ∧ j ≤ 1000000 ∧ i.natAbs < 2 ^ 64 then .ok (.int (i ^ j.toNat)) st else .stuck
  | _, _ => .stuck
theorem op_vPow : OpL X E (binaryOp .Pow) vPow := by
  intro pins s σ H x y v u Q I rx ry ⟨d, d', st, μ, h1, h2, h3, p⟩
  cases d <;> cases d' <;> first | exact (show False from p).elim | skip
  cases h1; cases h2
  simp only [vPow] at p
  split at p
  · exact op_pow pins s σ H _ _ v u Q I rx ry ⟨_, _, rfl, rfl, by assumption, p _ H μ (.refl _ _) (.int _) h3⟩
  · exact p.elim
def vShl : F2 := fun x y st => match x, y with
  | .int i, .int j => if 0 ≤ j ∧ j ≤ 1000000 ∧ i.natAbs < 2 ^ 64 then .ok (.int (i * 2 ^ j.toNat)) st else .stuck
  | _, _ => .stuck
theorem op_vShl : OpL X E (binaryOp .LShift) vShl := by
  intro pins s σ H x y v u Q I rx ry ⟨d, d', st, μ, h1, h2, h3, p⟩
  cases d <;> cases d' <;> first | exact (show False from p).elim | skip
  cases h1; cases h2
  simp only [vShl] at p
  split at p
  · exact op_shl pins s σ H _ _ v u Q I rx ry ⟨_, _, rfl, rfl, by assumption, p _ H μ (.refl _ _) (.int _) h3⟩
  · exact p.elim
def vShr : F2 := fun x y st => match x, y with
  | .int i, .int j => if 0 ≤ j then .ok (.int (i / 2 ^ j.toNat)) st else .stuck
  | _, _ => .stuck
theorem op_vShr : OpL X E (binaryOp .RShift) vShr := by
  intro pins s σ H x y v u Q I rx ry ⟨d, d', st, μ, h1, h2, h3, p⟩
  cases d <;> cases d' <;> first | exact (show False from p).elim | skip
  cases h1; cases h2
  simp only [vShr] at p
  split at p
  · exact op_shr pins s σ H _ _ v u Q I rx ry ⟨_, _, rfl, rfl, by assumption, p _ H μ (.refl _ _) (.int _) h3⟩
  · exact p.elim

/-! ### order -/
def vCmpI (p : Int → Int → Bool) : F2 := fun x y st => match x, y with
  | .int i, .int j => .ok (.bl (p i j)) st
  | _, _ => .stuck
theorem op_cmpI {f : Value → Value → Sem Value} {p : Int → Int → Bool} (h : OpR X f (rI0 fun i j => .bl (p i j))) : OpL X E f (vCmpI p) := by
  intro pins s σ H x y v u Q I rx ry ⟨d, d', st, μ, h1, h2, h3, q⟩
  cases d <;> cases d' <;> first | exact (show False from q).elim | skip
  cases h1; cases h2
  exact h pins s σ H _ _ v u Q I rx ry ⟨_, _, rfl, rfl, q _ H μ (.refl _ _) (.bl _) h3⟩
abbrev vLt : F2 := vCmpI fun i j => decide (i < j)
abbrev vLe : F2 := vCmpI fun i j => decide (i ≤ j)
abbrev vGt : F2 := vCmpI fun i j => decide (j < i)
abbrev vGe : F2 := vCmpI fun i j => decide (j ≤ i)
theorem op_vLt : OpL X E (compareOp .Lt) vLt := op_cmpI op_lt
theorem op_vLe : OpL X E (compareOp .LtE) vLe := op_cmpI op_le
theorem op_vGt : OpL X E (compareOp .Gt) vGt := op_cmpI op_gt
theorem op_vGe : OpL X E (compareOp .GtE) vGe := op_cmpI op_ge

/-! ### equal -/
def pyAll (f : D → Option PyData) : List D → Option (List PyData)
  | [] => some []
  | d :: ds => match f d, pyAll f ds with
    | some a, some b => some (a :: b)
    | _, _ => none
def pyOf : Nat → Store → D → Option PyData
  | 0, _, _ => none
  | n + 1, st, d => match d with
    | .non => some .none
    | .bl b => some (.bool b)
    | .int i => some (.int i)
    | .str x => if PyData.strOk x = true then some (.str x) else none
    | .tup xs => (pyAll (pyOf n st) xs).map .tuple
    | .rl xs => (pyAll (pyOf n st) xs).map .list
    | .ref k => match st[k]? with
      | some (.lst xs) => (pyAll (pyOf n st) xs).map .list
      | _ => none
theorem pyOf_dp {K : PySem.W.Frag} {H : Hp} {μ : List Addr} {st : Store} (s : RepS K H μ st) : ∀ (n : Nat) (d : D) (v : V) (p : PyData), Rep K H μ d v → pyOf n st d = some p → Dp K H v p ∧ p.canLay0 = true ∧ p.depth ≤ n
  | 0, _, _, _, _, h => by cases h
  | n + 1, d, v, p, r, h => by
    have all : ∀ (ds : List D) (vs : List V) (ps : List PyData), Reps K H μ ds vs → pyAll (pyOf n st) ds = some ps → DpAll K H vs ps ∧ PyData.canLayAll0 ps = true ∧ PyData.depthAll ps ≤ n := by
      intro ds
      induction ds with
      | nil =>
        intro vs ps r h
        cases r
        cases h
        exact ⟨.nil, rfl, Nat.zero_le _⟩
      | cons d ds ih =>
        intro vs ps r h
        cases r with
        | cons r1 r2 =>
          simp only [pyAll] at h
          split at h
          · rename_i a b e1 e2
            cases h
            obtain ⟨h1, h2, h3⟩ := pyOf_dp s n d _ a r1 e1
            obtain ⟨k1, k2, k3⟩ := ih _ _ r2 e2
            exact ⟨.cons h1 k1, by simp only [PyData.canLayAll0, h2, k2, Bool.and_self], by simp only [PyData.depthAll]; omega⟩
          · cases h
    cases d with
    | non => cases r; cases h; exact ⟨.non, rfl, Nat.zero_le _⟩
    | bl b => cases r; cases h; exact ⟨.bl b, rfl, Nat.zero_le _⟩
    | int i => cases r; cases h; exact ⟨.int i, rfl, Nat.zero_le _⟩
    | str x =>
      cases r
      simp only [pyOf] at h
      split at h
      · rename_i hx
        cases h
        exact ⟨.str x, hx, Nat.zero_le _⟩
      · cases h
    | tup xs =>
      cases r with
      | tup t r1 =>
        simp only [pyOf] at h
        cases e : pyAll (pyOf n st) xs with
        | none => rw [e] at h; cases h
        | some ps =>
          rw [e] at h; cases h
          obtain ⟨h1, h2, h3⟩ := all xs _ ps r1 e
          exact ⟨.tup t.sq h1, h2, by simp only [PyData.depth]; omega⟩
    | rl xs =>
      cases r with
      | rl t r1 =>
        simp only [pyOf] at h
        cases e : pyAll (pyOf n st) xs with
        | none => rw [e] at h; cases h
        | some ps =>
          rw [e] at h; cases h
          obtain ⟨h1, h2, h3⟩ := all xs _ ps r1 e
          exact ⟨.lst t.sq h1, h2, by simp only [PyData.depth]; omega⟩
    | ref k =>
      cases r with
      | ref e1 =>
        simp only [pyOf] at h
        split at h
        · rename_i xs q1
          obtain ⟨a, f1, vs, g1, r1⟩ := s.at q1
          rw [e1] at f1; cases f1
          cases e : pyAll (pyOf n st) xs with
          | none => rw [e] at h; cases h
          | some ps =>
            rw [e] at h; cases h
            obtain ⟨h1, h2, h3⟩ := all xs _ ps r1 e
            exact ⟨.lst (.of g1) h1, h2, by simp only [PyData.depth]; omega⟩
        · cases h
theorem pyOf_shaped {K : PySem.W.Frag} {H : Hp} {μ : List Addr} {st : Store} (s : RepS K H μ st) {n : Nat} {d : D} {v : V} {p : PyData} (hn : n ≤ 64) (r : Rep K H μ d v) (h : pyOf n st d = some p) : Dp K H v p ∧ SeqAt.shaped p = true := by
  obtain ⟨h1, h2, h3⟩ := pyOf_dp s n d v p r h
  exact ⟨h1, by unfold SeqAt.shaped; rw [h2, decide_eq_true (Nat.le_trans h3 hn)]; rfl⟩
def eqB (st : Store) (x y : D) : Option Bool := match x, y with
  | .int i, .int j => some (decide (i = j))
  | .str a, .str b => some (decide (a = b))
  | .bl a, .bl b => some (decide (a = b))
  | .non, .non => some true
  | .non, .int _ => some false | .int _, .non => some false | .non, .bl _ => some false | .bl _, .non => some false | .non, .str _ => some false | .str _, .non => some false
  | .int _, .str _ => some false | .str _, .int _ => some false | .bl _, .str _ => some false | .str _, .bl _ => some false
  | x, y => match pyOf 9 st x, pyOf 9 st y with
    | some a, some b => some (PyData.eqv a b)
    | _, _ => none
def vEq : F2 := fun x y st => match eqB st x y with
  | some b => .ok (.bl b) st
  | none => .stuck
def vNe : F2 := fun x y st => match eqB st x y with
  | some b => .ok (.bl (!b)) st
  | none => .stuck
theorem eqB_ok {K : PySem.W.Frag} {H : Hp} {μ : List Addr} {st : Store} (s : RepS K H μ st) {x y : D} {v w : V} {b : Bool} (r1 : Rep K H μ x v) (r2 : Rep K H μ y w) (h : eqB st x y = some b) :
    (scal v w = true ∧ b = decide (v = w)) ∨ ∃ d e, Dp K H v d ∧ Dp K H w e ∧ SeqAt.shaped d = true ∧ SeqAt.shaped e = true ∧ b = PyData.eqv d e := by
  have deep : (match pyOf 9 st x, pyOf 9 st y with
    | some a, some b => some (PyData.eqv a b)
    | _, _ => none) = some b → ∃ d e, Dp K H v d ∧ Dp K H w e ∧ SeqAt.shaped d = true ∧ SeqAt.shaped e = true ∧ b = PyData.eqv d e := by
    intro h
    split at h
    · rename_i p q e1 e2
      cases h
      obtain ⟨a1, a2⟩ := pyOf_shaped s (by decide) r1 e1
      obtain ⟨b1, b2⟩ := pyOf_shaped s (by decide) r2 e2
      exact ⟨p, q, a1, b1, a2, b2, rfl⟩
    · cases h
  cases x <;> cases y <;> first
    | (cases r1; cases r2; simp only [eqB] at h; cases h; refine .inl ⟨rfl, ?_⟩; simp)
    | exact .inr (deep h)
theorem op_vEq (hu : X.A.units + 64 < cLine) : OpL X E (compareOp .Eq) vEq := by
  intro pins s σ H x y v u Q I rx ry ⟨d, d', st, μ, h1, h2, h3, p⟩
  unfold vEq at p
  cases e : eqB st d d' with
  | none => rw [e] at p; exact p.elim
  | some b =>
    rw [e] at p
    have q := p (.bl b) H μ (.refl _ _) (.bl b) h3
    rcases eqB_ok h3 h1 h2 e with ⟨hs, hb⟩ | ⟨d1, e1, h4, h5, h6, h7, hb⟩
    · subst hb; exact op_eq pins s σ H _ _ v u Q I rx ry ⟨hs, q⟩
    · subst hb; exact op_eqD hu pins s σ H _ _ v u Q I rx ry ⟨d1, e1, h4, h5, h6, h7, q⟩
theorem op_vNe (hu : X.A.units + 64 < cLine) : OpL X E (compareOp .NotEq) vNe := by
  intro pins s σ H x y v u Q I rx ry ⟨d, d', st, μ, h1, h2, h3, p⟩
  unfold vNe at p
  cases e : eqB st d d' with
  | none => rw [e] at p; exact p.elim
  | some b =>
    rw [e] at p
    have q := p (.bl !b) H μ (.refl _ _) (.bl _) h3
    rcases eqB_ok h3 h1 h2 e with ⟨hs, hb⟩ | ⟨d1, e1, h4, h5, h6, h7, hb⟩
    · subst hb; exact op_ne pins s σ H _ _ v u Q I rx ry ⟨hs, q⟩
    · subst hb; exact op_neD hu pins s σ H _ _ v u Q I rx ry ⟨d1, e1, h4, h5, h6, h7, q⟩
/-! ### is None, is a bool -/
def vIs : F2 := fun x y st => match x, y with
  | x, .non => .ok (.bl (match x with | .non => true | _ => false)) st
  | .bl a, .bl b => .ok (.bl (decide (a = b))) st
  | _, _ => .stuck
def vIsNot : F2 := fun x y st => match x, y with
  | x, .non => .ok (.bl (match x with | .non => false | _ => true)) st
  | .bl a, .bl b => .ok (.bl (!decide (a = b))) st
  | _, _ => .stuck
theorem op_vIs : OpL X E (compareOp .Is) vIs := by
  intro pins s σ H x y v u Q I rx ry ⟨d, d', st, μ, h1, h2, h3, p⟩
  cases d' with
  | non =>
    cases h2
    refine op_isN pins s σ H _ _ v u Q I rx ry ⟨rfl, ?_⟩
    cases d <;> cases h1 <;> exact p _ H μ (.refl _ _) (.bl _) h3
  | bl b =>
    cases d with
    | bl a => cases h1; cases h2; exact op_isBl pins s σ H _ _ v u Q I rx ry ⟨_, _, rfl, rfl, p _ H μ (.refl _ _) (.bl _) h3⟩
    | _ => exact (show False from p).elim
  | _ => cases d <;> exact (show False from p).elim
theorem op_vIsNot : OpL X E (compareOp .IsNot) vIsNot := by
  intro pins s σ H x y v u Q I rx ry ⟨d, d', st, μ, h1, h2, h3, p⟩
  cases d' with
  | non =>
    cases h2
    refine op_notN pins s σ H _ _ v u Q I rx ry ⟨rfl, ?_⟩
    cases d <;> cases h1 <;> exact p _ H μ (.refl _ _) (.bl _) h3
  | bl b =>
    cases d with
    | bl a => cases h1; cases h2; exact op_notBl pins s σ H _ _ v u Q I rx ry ⟨_, _, rfl, rfl, p _ H μ (.refl _ _) (.bl _) h3⟩
    | _ => exact (show False from p).elim
  | _ => cases d <;> exact (show False from p).elim

/-! ### subscripts -/
def IxL (X : Cx) (E : XK) (F : F2) : Prop := IxR X (lift2 X.K E F)
theorem le_ix {a b : Expr} {F : F2} {f g : SE} (hF : IxL X E F) (ha : LE X E a f) (hb : LE X E b g) (hs : PlainIx b := by exact fun _ _ => rfl) : LE X E (.Subscript a b pos) (s2 F f g) :=
  ⟨peMono (pe_ix hF ha.pe hb.pe hs) fun _ _ _ h => lift_s2 h⟩
theorem Reps.atI {K : PySem.W.Frag} {H : Hp} {μ : List Addr} {ds : List D} {vs : List V} {i : Int} {d : D} (r : Reps K H μ ds vs) (h : atI ds i = some d) : ∃ v, L2.atI vs i = some v ∧ Rep K H μ d v := by
  unfold L2.atI at h ⊢
  rw [r.length] at h
  cases e : ixN vs.length i with
  | none => rw [e] at h; cases h
  | some j =>
    rw [e] at h
    exact r.get h
def vIx : F2 := fun x y st => match x, y with
  | .tup xs, .int i => match L2.atI xs i with
    | some d => .ok d st
    | none => .stuck
  | .rl xs, .int i => match L2.atI xs i with
    | some d => .ok d st
    | none => .stuck
  | .str z, .int i => if z.length ≤ sizeLine then match L2.atI z.cps.toList i with
    | some c => .ok (.str ⟨#[c]⟩) st
    | none => .stuck else .stuck
  | .ref n, .int i => match st[n]? with
    | some (.lst xs) => match L2.atI xs i with
      | some d => .ok d st
      | none => .stuck
    | _ => .stuck
  | _, _ => .stuck
theorem ix_vIx : IxL X E vIx := by
  intro value slice pins s σ H x y v u Q I rx ry ⟨d, d', st, μ, h1, h2, h3, p⟩ hs
  cases d <;> cases d' <;> first | exact (show False from p).elim | skip
  · cases h1; cases h2
    simp only [vIx] at p
    split at p
    · split at p
      · exact ix_str value slice pins s σ H _ _ v u Q I rx ry ⟨_, _, _, rfl, rfl, by assumption, by assumption, p _ H μ (.refl _ _) (.str _) h3⟩ hs
      · exact p.elim
    · exact p.elim
  · cases h2
    simp only [vIx] at p
    cases h1 with
    | tup t r =>
      split at p
      · rename_i e
        obtain ⟨z, e1, r1⟩ := r.atI e
        exact ix_tup value slice pins s σ H _ _ v u Q I rx ry ⟨_, _, _, _, rfl, rfl, t.sq, e1, p _ H μ (.refl _ _) r1 h3⟩ hs
      · exact p.elim
  · cases h2
    simp only [vIx] at p
    cases h1 with
    | rl t r =>
      split at p
      · rename_i e
        obtain ⟨z, e1, r1⟩ := r.atI e
        exact ix_list value slice pins s σ H _ _ v u Q I rx ry ⟨_, _, _, _, rfl, rfl, t.sq, e1, p _ H μ (.refl _ _) r1 h3⟩ hs
      · exact p.elim
  · cases h2
    simp only [vIx] at p
    cases h1 with
    | ref e1 =>
      split at p
      · rename_i xs q1
        obtain ⟨a, f1, vs, g1, r⟩ := h3.at q1
        rw [e1] at f1; cases f1
        split at p
        · rename_i e
          obtain ⟨z, e1, r1⟩ := r.atI e
          exact ix_list value slice pins s σ H _ _ v u Q I rx ry ⟨_, _, _, _, rfl, rfl, .of g1, e1, p _ H μ (.refl _ _) r1 h3⟩ hs
        · exact p.elim
      · exact p.elim

/-! ### slices -/
abbrev SO' := Envr → Store → Res (Option Int)
def PostO (K : PySem.W.Frag) (H : Hp) (μ : List Addr) (r : Res (Option Int)) (Q : Option Int → Hp → Prop) (E : XK) : Prop :=
  match r with
  | .ok b st => ∀ H' μ', Ext H μ H' μ' → RepS K H' μ' st → Q b H'
  | .exc x st => ∀ c od H' μ', Ext H μ H' μ' → RepX K H' μ' x c od → RepS K H' μ' st → E c od H'
  | .stuck => False
theorem PostO.ext {K : PySem.W.Frag} {H H1 : Hp} {μ μ1 : List Addr} {r : Res (Option Int)} {Q : Option Int → Hp → Prop} (x : Ext H μ H1 μ1) (p : PostO K H μ r Q E) : PostO K H1 μ1 r Q E := by
  cases r with
  | ok d st => exact fun H' μ' e a => p H' μ' (x.trans e) a
  | exc y st => exact fun c od H' μ' e a b => p c od H' μ' (x.trans e) a b
  | stuck => exact p
def liftO (K : PySem.W.Frag) (E : XK) (f : SO') : TO := fun σ H Q => ∃ ρ st μ, RepE K H μ ρ σ ∧ RepS K H μ st ∧ PostO K H μ (f ρ st) Q E
structure LO (X : Cx) (E : XK) (e : Option Expr) (f : SO') : Prop where
  po : PO X e (liftO X.K E f)
theorem poMono {e : Option Expr} {t t' : TO} (h : PO X e t) (m : ∀ σ H Q, t' σ H Q → t σ H Q) : PO X e t' := ⟨fun pins s σ H Q I q => h.run pins s σ H Q I (m σ H Q q)⟩
def sNoPart : SO' := fun _ st => .ok none st
def sPart (f : SE) : SO' := fun ρ st => (f ρ st).bind fun d st => match d with
  | .int i => .ok (some i) st
  | _ => .stuck
theorem lo_none : LO X E none sNoPart := ⟨poMono po_none fun σ H Q ⟨ρ, st, μ, re, rs, p⟩ => p H μ (.refl _ _) rs⟩
theorem PostD.bindO {K : PySem.W.Frag} {H : Hp} {μ : List Addr} {r : Res D} {f : D → Store → Res (Option Int)} {Q : Option Int → Hp → Prop} (p : PostO K H μ (r.bind f) Q E) : Post K H μ r (Then K H μ fun d st1 H1 μ1 => PostO K H1 μ1 (f d st1) Q E) E := by
  cases r with
  | ok d st => exact fun v H' μ' e a b => ⟨d, st, μ', e, a, b, p.ext e⟩
  | exc y st => exact p
  | stuck => exact p
theorem lo_some {e : Expr} {f : SE} (h : LE X E e f) : LO X E (some e) (sPart f) := ⟨poMono (po_some h.pe) fun σ H Q ⟨ρ, st, μ, re, rs, p⟩ =>
  ⟨ρ, st, μ, re, rs, (PostD.bindO p).mono fun v H1 ⟨d, st1, μ1, x1, r1, s1, p1⟩ => by
    cases d with
    | int i => cases r1; exact ⟨i, rfl, p1 H1 μ1 (.refl _ _) s1⟩
    | _ => exact (show False from p1).elim⟩⟩
def ThenO (K : PySem.W.Frag) (H : Hp) (μ : List Addr) (R : Option Int → Store → Hp → List Addr → Prop) (v : Option Int) (H1 : Hp) : Prop :=
  ∃ st1 μ1, Ext H μ H1 μ1 ∧ RepS K H1 μ1 st1 ∧ R v st1 H1 μ1
theorem PostO.bindD {K : PySem.W.Frag} {H : Hp} {μ : List Addr} {r : Res (Option Int)} {f : Option Int → Store → Res D} {Q : VK} (p : Post K H μ (r.bind f) Q E) : PostO K H μ r (ThenO K H μ fun d st1 H1 μ1 => Post K H1 μ1 (f d st1) Q E) E := by
  cases r with
  | ok d st => exact fun H' μ' e b => ⟨st, μ', e, b, p.ext e⟩
  | exc y st => exact p
  | stuck => exact p
theorem PostO.mono {K : PySem.W.Frag} {H : Hp} {μ : List Addr} {r : Res (Option Int)} {Q Q' : Option Int → Hp → Prop} (p : PostO K H μ r Q E) (h : ∀ v H', Q v H' → Q' v H') : PostO K H μ r Q' E := by
  cases r with
  | ok d st => exact fun H' μ' e b => h d H' (p H' μ' e b)
  | exc y st => exact p
  | stuck => exact p
abbrev FS := D → Option Int → Option Int → Store → Res D
def sSlice (F : FS) (f : SE) (g h : SO') : SE := fun ρ st => (f ρ st).bind fun d st => (g ρ st).bind fun lo st => (h ρ st).bind fun hi st => F d lo hi st
def liftS3 (K : PySem.W.Frag) (E : XK) (F : FS) : V → Option Int → Option Int → Hp → VK → Prop := fun x lo hi H Q => ∃ d st μ, Rep K H μ d x ∧ RepS K H μ st ∧ Post K H μ (F d lo hi st) Q E
theorem le_slice {e : Expr} {lo hi : Option Expr} {p2 : Pos} {F : FS} {f : SE} {g h : SO'} (hF : SlR X (liftS3 X.K E F)) (he : LE X E e f) (hl : LO X E lo g) (hh : LO X E hi h) : LE X E (.Subscript e (.Slice lo hi none p2) pos) (sSlice F f g h) :=
  ⟨peMono (pe_slice hF he.pe hl.po hh.po) fun σ H Q ⟨ρ, st, μ, re, rs, p⟩ => ⟨ρ, st, μ, re, rs, (Post.bind p).mono fun v H1 ⟨d, st1, μ1, x1, r1, s1, p1⟩ =>
    ⟨ρ, st1, μ1, re.ext x1, s1, (PostO.bindD p1).mono fun l H2 ⟨st2, μ2, x2, s2, p2⟩ => ⟨ρ, st2, μ2, (re.ext x1).ext x2, s2, (PostO.bindD p2).mono fun l2 H3 ⟨st3, μ3, x3, s3, p3⟩ =>
      ⟨d, st3, μ3, (r1.ext x2).ext x3, s3, p3⟩⟩⟩⟩⟩
def cutD (xs : List D) (lo hi : Option Int) : List D := (xs.drop (HT.sIx xs.length 0 lo)).take (HT.sIx xs.length xs.length hi - HT.sIx xs.length 0 lo)
theorem Reps.cutV {K : PySem.W.Frag} {H : Hp} {μ : List Addr} {ds : List D} {vs : List V} (r : Reps K H μ ds vs) (lo hi : Option Int) : Reps K H μ (cutD ds lo hi) (L2.cutV vs lo hi) := by
  unfold cutD L2.cutV
  rw [r.length]
  exact (r.drop _).take _
def vSlice : FS := fun d lo hi st => match d with
  | .tup xs => .ok (.tup (cutD xs lo hi)) st
  | .rl xs => .ok (.ref st.length) (st ++ [.lst (cutD xs lo hi)])
  | .str z => if z.length ≤ sizeLine then .ok (.str (cutS z lo hi)) st else .stuck
  | .ref n => match st[n]? with
    | some (.lst xs) => .ok (.ref st.length) (st ++ [.lst (cutD xs lo hi)])
    | _ => .stuck
  | _ => .stuck
theorem cutD_all {xs : List D} {lo hi : Option Int} (h : HT.sIx xs.length 0 lo = 0 ∧ HT.sIx xs.length xs.length hi = xs.length) : cutD xs lo hi = xs := by
  unfold cutD
  rw [h.1, h.2]
  simp
theorem sl_vSlice : SlR X (liftS3 X.K E vSlice) := by
  intro pins s σ H x v vl vu lo hi sl Q I rx hs pl pu ⟨d, st, μ, h1, h3, p⟩
  cases d <;> first | exact (show False from p).elim | skip
  · cases h1
    simp only [vSlice] at p
    split at p
    · exact sl_str pins s σ H _ v vl vu lo hi sl Q I rx hs pl pu ⟨_, rfl, by assumption, p _ H μ (.refl _ _) (.str _) h3⟩
    · exact p.elim
  · cases h1 with
    | tup t r =>
      refine sl_tupA pins s σ H _ v vl vu lo hi sl Q I rx hs pl pu ⟨_, _, rfl, t.sq, fun hw => ?_, fun hw a ha => post_tup p (r.cutV lo hi) h3 ha⟩
      rw [← r.length] at hw
      refine p _ H μ (.refl _ _) ?_ h3
      rw [cutD_all hw]
      exact .tup t r
  · cases h1 with
    | rl t r => exact sl_list pins s σ H _ v vl vu lo hi sl Q I rx hs pl pu ⟨_, _, rfl, t.sq, fun a ha => post_lst p (r.cutV lo hi) h3 ha⟩
  · simp only [vSlice] at p
    cases h1 with
    | ref e1 =>
      split at p
      · rename_i xs q1
        obtain ⟨a, f1, vs, g1, r⟩ := h3.at q1
        rw [e1] at f1; cases f1
        exact sl_list pins s σ H _ v vl vu lo hi sl Q I rx hs pl pu ⟨_, _, rfl, .of g1, fun a ha => post_lst p (r.cutV lo hi) h3 ha⟩
      · exact p.elim
end
end L3

namespace L3
open PySem PySem.Spec PyProof.Rows L2
section
variable {X : Cx} {E : XK} {pos : Pos}
/-! ### swept -/
noncomputable def sSwp (f : SE) : SE := fun ρ st => swept st (f ρ st)
theorem post_swept {K : PySem.W.Frag} {H : Hp} {μ : List Addr} {st : Store} {r : Res D} {Q : VK} (s : RepS K H μ st) (p : Post K H μ (swept st r) Q E) : Post K H μ r Q E := by
  cases r with
  | ok d st' =>
    intro v H' μ' x r' s'
    unfold swept at p
    simp only at p
    split at p
    · rename_i hc
      obtain ⟨hl, hd, hq⟩ := hc
      obtain ⟨x2, s2⟩ := s.sweep x s' hq hl
      refine p v H' μ x2 ?_ s2
      obtain ⟨m, e, f⟩ := x.pre
      rw [e] at r'
      exact r'.cut (by rw [s.len]; exact hd)
    · exact p v H' μ' x r' s'
  | exc y st' => exact p
  | stuck => exact p
theorem le_swp {e : Expr} {f : SE} (h : LE X E e f) : LE X E e (sSwp f) := ⟨peMono h.pe fun σ H Q ⟨ρ, st, μ, re, rs, p⟩ => ⟨ρ, st, μ, re, rs, post_swept rs p⟩⟩

/-! ### built-ins by name -/
abbrev FL := List D → Store → Res D
def sCB (F : FL) (g : SL) : SE := fun ρ st => (g ρ st).bind F
def liftC (K : PySem.W.Frag) (E : XK) (F : FL) : List V → Hp → VK → Prop := fun vs H Q => ∃ ds st μ, Reps K H μ ds vs ∧ RepS K H μ st ∧ Post K H μ (F ds st) Q E
def CallL (X : Cx) (E : XK) (f : Value) (F : FL) : Prop := CallR X f (liftC X.K E F)
theorem lift_sCB {K : PySem.W.Frag} {F : FL} {g : SL} {σ : L2.St} {H : Hp} {Q : VK} (h : lift K E (sCB F g) σ H Q) : tCB (liftC K E F) (liftL K E g) σ H Q := by
  obtain ⟨ρ, st, μ, re, rs, p⟩ := h
  exact ⟨ρ, st, μ, re, rs, (PostL.bind p).mono fun v H1 ⟨d, st1, μ1, x1, r1, s1, p1⟩ => ⟨d, st1, μ1, r1, s1, p1⟩⟩
section
variable {x : Str} {p : Pos} {e : Expr} {es : List Expr} {g : SL} {id T : String} {F : FL}
theorem le_callB (hc : CallL X E (.builtin id) F) (hg : Gl X x) (hm : X.mg x = none) (hv : bootBuiltins x = some (.builtin id)) (ha : LL X E (e :: es) g) (hn : x ≠ "__name__" := by decide) (hdb : (x == ("__debug__" : Str)) = false := by decide)
    (he : starEach (e :: es) X.env = (false, eval e X.env) :: starEach es X.env := by rfl) (hpl : (backTo pos (starEach es X.env)).any (·.1) = false := by rfl) : LE X E (.Call (.Name x p) (e :: es) [] pos) (sCB F g) :=
  ⟨peMono (pe_callB hc hg hm hv ha.pa hn hdb he hpl) fun _ _ _ h => lift_sCB h⟩
theorem le_callTy (hc : CallL X E (.type T) F) (hg : Gl X x) (hm : X.mg x = none) (hv : bootBuiltins x = some (.type T)) (ha : LL X E (e :: es) g) (hn : x ≠ "__name__" := by decide) (hdb : (x == ("__debug__" : Str)) = false := by decide)
    (he : starEach (e :: es) X.env = (false, eval e X.env) :: starEach es X.env := by rfl) (hpl : (backTo pos (starEach es X.env)).any (·.1) = false := by rfl) : LE X E (.Call (.Name x p) (e :: es) [] pos) (sCB F g) :=
  ⟨peMono (pe_callTy hc hg hm hv ha.pa hn hdb he hpl) fun _ _ _ h => lift_sCB h⟩
end
def bAbs : FL := fun ds st => match ds with
  | [.int i] => .ok (.int i.natAbs) st
  | _ => .stuck
theorem reps1 {K : PySem.W.Frag} {H : Hp} {μ : List Addr} {d : D} {vs : List V} (r : Reps K H μ [d] vs) : ∃ v, vs = [v] ∧ Rep K H μ d v := by
  cases r with
  | cons r t => cases t; exact ⟨_, rfl, r⟩
theorem reps2 {K : PySem.W.Frag} {H : Hp} {μ : List Addr} {d d' : D} {vs : List V} (r : Reps K H μ [d, d'] vs) : ∃ v w, vs = [v, w] ∧ Rep K H μ d v ∧ Rep K H μ d' w := by
  cases r with
  | cons r t =>
    obtain ⟨w, e, r2⟩ := reps1 t
    subst e
    exact ⟨_, _, rfl, r, r2⟩
theorem cl_abs : CallL X E (.builtin "abs") bAbs := by
  intro pins s σ H vs us Q I rv ⟨ds, st, μ, h1, h2, p⟩
  unfold bAbs at p
  split at p
  · rename_i i
    obtain ⟨v, rfl, r⟩ := reps1 h1
    cases r
    refine call_abs pins s σ H _ us Q I rv ⟨_, rfl, ?_⟩
    have e : (if i < 0 then -i else i) = (i.natAbs : Int) := by split <;> omega
    rw [e]
    exact p _ H μ (.refl _ _) (.int _) h2
  · exact p.elim
def bLen : FL := fun ds st => match ds with
  | [.tup xs] => .ok (.int xs.length) st
  | [.rl xs] => .ok (.int xs.length) st
  | [.str z] => if z.length ≤ sizeLine then .ok (.int z.length) st else .stuck
  | [.ref n] => match st[n]? with
    | some (.lst xs) => .ok (.int xs.length) st
    | some (.dK xs) => .ok (.int xs.length) st
    | _ => .stuck
  | _ => .stuck
theorem RepF.length {κ : Type} {K : PySem.W.Frag} {H : Hp} {μ : List Addr} : ∀ {ds : List (κ × D)} {vs : List (κ × V)}, RepF K H μ ds vs → ds.length = vs.length
  | _, _, .nil => rfl
  | _, _, .cons _ t => congrArg (· + 1) (RepF.length t)
theorem cl_len : CallL X E (.builtin "len") bLen := by
  intro pins s σ H vs us Q I rv ⟨ds, st, μ, h1, h2, p⟩
  unfold bLen at p
  split at p
  · obtain ⟨v, rfl, r⟩ := reps1 h1
    cases r with
    | tup t r => exact call_len pins s σ H _ us Q I rv ⟨_, _, rfl, .inr ⟨_, t.sq, rfl⟩, by rw [← r.length]; exact p _ H μ (.refl _ _) (.int _) h2⟩
  · obtain ⟨v, rfl, r⟩ := reps1 h1
    cases r with
    | rl t r => exact call_len pins s σ H _ us Q I rv ⟨_, _, rfl, .inl ⟨_, t.sq, rfl⟩, by rw [← r.length]; exact p _ H μ (.refl _ _) (.int _) h2⟩
  · obtain ⟨v, rfl, r⟩ := reps1 h1
    cases r
    split at p
    · exact call_len pins s σ H _ us Q I rv ⟨_, _, rfl, ⟨by assumption, rfl⟩, p _ H μ (.refl _ _) (.int _) h2⟩
    · exact p.elim
  · obtain ⟨v, rfl, r⟩ := reps1 h1
    cases r with
    | ref e1 =>
      split at p
      · rename_i xs q1
        obtain ⟨a, f1, ws, g1, r⟩ := h2.at q1
        rw [e1] at f1; cases f1
        exact call_len pins s σ H _ us Q I rv ⟨_, _, rfl, .inl ⟨_, .of g1, rfl⟩, by rw [← r.length]; exact p _ H μ (.refl _ _) (.int _) h2⟩
      · rename_i xs q1
        obtain ⟨a, f1, ws, g1, r⟩ := h2.at q1
        rw [e1] at f1; cases f1
        exact call_lenD pins s σ H _ us Q I rv ⟨_, _, rfl, g1, by rw [← r.length]; exact p _ H μ (.refl _ _) (.int _) h2⟩
      · exact p.elim
  · exact p.elim
/-- the ints of a list of data -/
def intsOf : List D → Option (List Int)
  | [] => some []
  | .int i :: ds => (intsOf ds).map (i :: ·)
  | _ :: _ => none
theorem intsOf_eq : ∀ {ds : List D} {ns : List Int}, intsOf ds = some ns → ds = ns.map D.int
  | [], _, h => by cases h; rfl
  | .int i :: ds, ns, h => by
    simp only [intsOf] at h
    cases e : intsOf ds with
    | none => rw [e] at h; cases h
    | some ms => rw [e] at h; cases h; rw [intsOf_eq e]; rfl
  | .non :: _, _, h => by cases h
  | .bl _ :: _, _, h => by cases h
  | .str _ :: _, _, h => by cases h
  | .tup _ :: _, _, h => by cases h
  | .rl _ :: _, _, h => by cases h
  | .ref _ :: _, _, h => by cases h
theorem intsOf_map : ∀ (ns : List Int), intsOf (ns.map D.int) = some ns
  | [] => rfl
  | i :: ns => by simp only [List.map_cons, intsOf, intsOf_map ns, Option.map_some]
/-- the items of a list, a tuple -/
def seqOf (d : D) (st : Store) : Option (List D) := match d with
  | .tup xs => some xs
  | .rl xs => some xs
  | .ref n => match st[n]? with
    | some (.lst xs) => some xs
    | _ => none
  | _ => none
theorem seqOf_sq {K : PySem.W.Frag} {H : Hp} {μ : List Addr} {d : D} {v : V} {st : Store} {xs : List D} (r : Rep K H μ d v) (s : RepS K H μ st) (h : seqOf d st = some xs) : ∃ a vs, v = .ref a ∧ Reps K H μ xs vs ∧ (SqL K H a vs ∨ SqT K H a vs) := by
  cases d with
  | tup xs => cases h; cases r with | tup t r => exact ⟨_, _, rfl, r, .inr t.sq⟩
  | rl xs => cases h; cases r with | rl t r => exact ⟨_, _, rfl, r, .inl t.sq⟩
  | ref n =>
    cases r with
    | ref e1 =>
      simp only [seqOf] at h
      split at h
      · rename_i xs q1
        cases h
        obtain ⟨a, f1, ws, g1, r⟩ := s.at q1
        rw [e1] at f1; cases f1
        exact ⟨_, _, rfl, r, .inl (.of g1)⟩
      · cases h
  | _ => cases h
/-- .. of a list alone -/
def seqNT (d : D) (st : Store) : Option (List D) := match d with
  | .tup _ => none
  | d => seqOf d st
def bMax : FL := fun ds st => match ds with
  | [.int i, .int j] => .ok (.int (max i j)) st
  | [d] => match (seqNT d st).bind intsOf with
    | some (n :: ns) => .ok (.int (ns.foldl max n)) st
    | _ => .stuck
  | _ => .stuck
def bMin : FL := fun ds st => match ds with
  | [.int i, .int j] => .ok (.int (min i j)) st
  | [d] => match (seqNT d st).bind intsOf with
    | some (n :: ns) => .ok (.int (ns.foldl min n)) st
    | _ => .stuck
  | _ => .stuck
theorem foldl_max_mem : ∀ (ns : List Int) (n : Int), ns.foldl max n ∈ n :: ns ∧ ∀ y ∈ n :: ns, y ≤ ns.foldl max n
  | [], n => by simp
  | m :: ns, n => by
    obtain ⟨h1, h2⟩ := foldl_max_mem ns (max n m)
    simp only [List.foldl_cons]
    refine ⟨?_, fun y hy => ?_⟩
    · rcases List.mem_cons.mp h1 with h | h
      · rw [h]
        rcases Int.le_total n m with k | k
        · rw [Int.max_eq_right k]; simp
        · rw [Int.max_eq_left k]; simp
      · simp [h]
    · have h0 := h2 (max n m) (by simp)
      rcases List.mem_cons.mp hy with rfl | hy
      · exact Int.le_trans (Int.le_max_left _ _) h0
      · rcases List.mem_cons.mp hy with rfl | hy
        · exact Int.le_trans (Int.le_max_right _ _) h0
        · exact h2 y (by simp [hy])
theorem foldl_min_mem : ∀ (ns : List Int) (n : Int), ns.foldl min n ∈ n :: ns ∧ ∀ y ∈ n :: ns, ns.foldl min n ≤ y
  | [], n => by simp
  | m :: ns, n => by
    obtain ⟨h1, h2⟩ := foldl_min_mem ns (min n m)
    simp only [List.foldl_cons]
    refine ⟨?_, fun y hy => ?_⟩
    · rcases List.mem_cons.mp h1 with h | h
      · rw [h]
        rcases Int.le_total n m with k | k
        · rw [Int.min_eq_left k]; simp
        · rw [Int.min_eq_right k]; simp
      · simp [h]
    · have h0 := h2 (min n m) (by simp)
      rcases List.mem_cons.mp hy with rfl | hy
      · exact Int.le_trans h0 (Int.min_le_left _ _)
      · rcases List.mem_cons.mp hy with rfl | hy
        · exact Int.le_trans h0 (Int.min_le_right _ _)
        · exact h2 y (by simp [hy])
theorem notTup {K : PySem.W.Frag} {H : Hp} {μ : List Addr} {d : D} {v : V} {st : Store} {xs : List D} (hd : ∀ ys, d ≠ .tup ys) (r : Rep K H μ d v) (s : RepS K H μ st) (h : seqOf d st = some xs) : ∃ a vs, v = .ref a ∧ Reps K H μ xs vs ∧ SqL K H a vs := by
  cases d with
  | tup xs => exact (hd _ rfl).elim
  | rl xs => cases h; cases r with | rl t r => exact ⟨_, _, rfl, r, t.sq⟩
  | ref n =>
    cases r with
    | ref e1 =>
      simp only [seqOf] at h
      split at h
      · rename_i xs q1
        cases h
        obtain ⟨a, f1, ws, g1, r⟩ := s.at q1
        rw [e1] at f1; cases f1
        exact ⟨_, _, rfl, r, .of g1⟩
      · cases h
  | _ => cases h
theorem seqNT_sq {K : PySem.W.Frag} {H : Hp} {μ : List Addr} {d : D} {v : V} {st : Store} {xs : List D} (r : Rep K H μ d v) (s : RepS K H μ st) (h : seqNT d st = some xs) : ∃ a vs, v = .ref a ∧ Reps K H μ xs vs ∧ SqL K H a vs := by
  cases d with
  | tup xs => cases h
  | _ => exact notTup (fun ys h => by cases h) r s h
theorem cl_max (hc : X.calm = true) : CallL X E (.builtin "max") bMax := by
  intro pins s σ H vs us Q I rv ⟨ds, st, μ, h1, h2, p⟩
  unfold bMax at p
  split at p
  · obtain ⟨v, w', rfl, r1, r2⟩ := reps2 h1
    cases r1; cases r2
    refine call_max2 hc pins s σ H _ us Q I rv ⟨_, _, rfl, ?_⟩
    rename_i i j
    have e : (if j > i then j else i) = max i j := by split <;> omega
    rw [e]
    exact p _ H μ (.refl _ _) (.int _) h2
  · obtain ⟨v, rfl, r⟩ := reps1 h1
    rename_i _ d
    split at p
    · rename_i n ns e
      cases q : seqNT d st with
      | none => rw [q] at e; cases e
      | some xs =>
        rw [q] at e
        have e2 : intsOf xs = some (n :: ns) := e
        have e3 := intsOf_eq e2
        subst e3
        obtain ⟨a, ws, rfl, rw', sq⟩ := seqNT_sq r h2 q
        obtain rfl := rw'.ints
        obtain ⟨m1, m2⟩ := foldl_max_mem ns n
        refine cr_max hc pins s σ H _ us Q I rv ⟨_, _, rfl, sq, by simp, fun m hm hy => ?_⟩
        have : m = ns.foldl max n := Int.le_antisymm (m2 m hm) (hy _ m1)
        rw [this]
        exact p _ H μ (.refl _ _) (.int _) h2
    · exact p.elim
  · exact p.elim
theorem cl_min (hc : X.calm = true) : CallL X E (.builtin "min") bMin := by
  intro pins s σ H vs us Q I rv ⟨ds, st, μ, h1, h2, p⟩
  unfold bMin at p
  split at p
  · obtain ⟨v, w', rfl, r1, r2⟩ := reps2 h1
    cases r1; cases r2
    refine call_min2 hc pins s σ H _ us Q I rv ⟨_, _, rfl, ?_⟩
    rename_i i j
    have e : (if j < i then j else i) = min i j := by split <;> omega
    rw [e]
    exact p _ H μ (.refl _ _) (.int _) h2
  · obtain ⟨v, rfl, r⟩ := reps1 h1
    rename_i _ d
    split at p
    · rename_i n ns e
      cases q : seqNT d st with
      | none => rw [q] at e; cases e
      | some xs =>
        rw [q] at e
        have e2 : intsOf xs = some (n :: ns) := e
        have e3 := intsOf_eq e2
        subst e3
        obtain ⟨a, ws, rfl, rw', sq⟩ := seqNT_sq r h2 q
        obtain rfl := rw'.ints
        obtain ⟨m1, m2⟩ := foldl_min_mem ns n
        refine cr_min hc pins s σ H _ us Q I rv ⟨_, _, rfl, sq, by simp, fun m hm hy => ?_⟩
        have : m = ns.foldl min n := Int.le_antisymm (hy _ m1) (m2 m hm)
        rw [this]
        exact p _ H μ (.refl _ _) (.int _) h2
    · exact p.elim
  · exact p.elim
def bSum : FL := fun ds st => match ds with
  | [d] => match (seqOf d st).bind intsOf with
    | some ns => .ok (.int ns.sum) st
    | none => .stuck
  | _ => .stuck
theorem sumT_raw {prog : Program} {w : World} {A : Around} {E : Value → Shared → Prop} {s : Shared} {l : Addr} {its : List Value} {ns : List Int} {Q : Value → Shared → Prop} (hh : A.handled = none) (hl : s.heap.IsTuple l its.toArray) (hi : IntsAre its ns)
    (h : ∀ h' tk t', (∀ b o, s.heap.get? b = some o → h'.get? b = some o) → Q (.int ns.sum t') { s with heap := h', toks := tk }) : wpAny (model prog w) A (call (.builtin "sum") [.ref l]) Q E s := by
  obtain ⟨xs, e⟩ := hi.allInts.items
  have hn : numsOf (intItems xs).toList = ns := by rw [← e]; exact hi.numsOf
  rw [nums_intItems] at hn
  rw [e] at hl
  refine PySem.W.ktm_sumG hh hl fun h' tk t' hk => ?_
  have := h h' tk t' hk
  rw [preSum_eq, List.take_of_length_le (by simp), hn]; exact this
theorem cl_sum (hc : X.calm = true) : CallL X E (.builtin "sum") bSum := by
  intro pins s σ H vs us Q I rv ⟨ds, st, μ, h1, h2, p⟩
  unfold bSum at p
  split at p
  · obtain ⟨v, rfl, r⟩ := reps1 h1
    rename_i d
    split at p
    · rename_i ns e
      cases q : seqOf d st with
      | none => rw [q] at e; cases e
      | some xs =>
        rw [q] at e
        have e2 : intsOf xs = some ns := e
        have e3 := intsOf_eq e2
        subst e3
        obtain ⟨a, ws, rfl, rw', sq⟩ := seqOf_sq r h2 q
        obtain rfl := rw'.ints
        rcases sq with sq | sq
        · exact cr_sum hc pins s σ H _ us Q I rv ⟨_, _, rfl, sq, p _ H μ (.refl _ _) (.int _) h2⟩
        · obtain ⟨its, rv', ht, _⟩ := I.tuple sq
          rw [Vals.ref1 rv]
          exact sumT_raw (I.ok.hd hc) ht rv'.ints fun h' tk t' hk => ⟨.int _, H, I.kept hk, ⟨_, rfl⟩, p _ H μ (.refl _ _) (.int _) h2⟩
    · exact p.elim
  · exact p.elim
def bInt : FL := fun ds st => match ds with
  | [.int i] => .ok (.int i) st
  | [.bl b] => .ok (.int (if b then 1 else 0)) st
  | [.str x] => match PySem.intText? x with
    | some n => if x.length ≤ 640 then .ok (.int n) st else .stuck
    | none => .stuck
  | _ => .stuck
theorem cl_int : CallL X E (.type "int") bInt := by
  intro pins s σ H vs us Q I rv ⟨ds, st, μ, h1, h2, p⟩
  unfold bInt at p
  split at p
  · obtain ⟨v, rfl, r⟩ := reps1 h1
    cases r
    exact call_int1 pins s σ H _ us Q I rv (.inl ⟨_, rfl, p _ H μ (.refl _ _) (.int _) h2⟩)
  · obtain ⟨v, rfl, r⟩ := reps1 h1
    cases r
    exact call_int1 pins s σ H _ us Q I rv (.inr ⟨_, rfl, p _ H μ (.refl _ _) (.int _) h2⟩)
  · obtain ⟨v, rfl, r⟩ := reps1 h1
    cases r
    split at p
    · split at p
      · exact call_int_str pins s σ H _ us Q I rv ⟨_, _, rfl, by assumption, by assumption, p _ H μ (.refl _ _) (.int _) h2⟩
      · exact p.elim
    · exact p.elim
  · exact p.elim
def bStr : FL := fun ds st => match ds with
  | [.int i] => if i.natAbs.log2 < 1920 then .ok (.str (toString i)) st else .stuck
  | _ => .stuck
theorem cl_str : CallL X E (.type "str") bStr := by
  intro pins s σ H vs us Q I rv ⟨ds, st, μ, h1, h2, p⟩
  unfold bStr at p
  split at p
  · obtain ⟨v, rfl, r⟩ := reps1 h1
    cases r
    split at p
    · exact call_str_int pins s σ H _ us Q I rv ⟨_, rfl, by assumption, p _ H μ (.refl _ _) (.str _) h2⟩
    · exact p.elim
  · exact p.elim
def bTuple : FL := fun ds st => match ds with
  | [d] => match seqOf d st with
    | some xs => .ok (.tup xs) st
    | none => .stuck
  | _ => .stuck
theorem cl_tuple : CallL X E (.type "tuple") bTuple := by
  intro pins s σ H vs us Q I rv ⟨ds, st, μ, h1, h2, p⟩
  unfold bTuple at p
  split at p
  · obtain ⟨v, rfl, r⟩ := reps1 h1
    rename_i d
    split at p
    · rename_i xs q
      cases d with
      | tup ys =>
        cases q
        cases id r with
        | tup t r' => exact call_tuple_of pins s σ H _ us Q I rv ⟨_, _, rfl, .inr ⟨t.sq, p _ H μ (.refl _ _) r h2⟩⟩
      | _ =>
        obtain ⟨a, ws, rfl, rw', sq⟩ := notTup (fun ys h => by cases h) r h2 q
        exact call_tuple_of pins s σ H _ us Q I rv ⟨_, _, rfl, .inl ⟨sq, fun b hb => post_tup p rw' h2 hb⟩⟩
    · exact p.elim
  · exact p.elim
def bList : FL := fun ds st => match ds with
  | [d] => match seqOf d st with
    | some xs => .ok (.ref st.length) (st ++ [.lst xs])
    | none => .stuck
  | _ => .stuck
theorem cl_list : CallL X E (.type "list") bList := by
  intro pins s σ H vs us Q I rv ⟨ds, st, μ, h1, h2, p⟩
  unfold bList at p
  split at p
  · obtain ⟨v, rfl, r⟩ := reps1 h1
    rename_i d
    split at p
    · rename_i xs q
      obtain ⟨a, ws, rfl, rw', sq⟩ := seqOf_sq r h2 q
      exact call_list_of pins s σ H _ us Q I rv ⟨_, _, rfl, sq, fun b hb => post_lst p rw' h2 hb⟩
    · exact p.elim
  · exact p.elim
/-! ### isinstance(x, T), T a built-in type by its name -/
def tyName (d : D) (st : Store) : Option String := match d with
  | .non => some "NoneType"
  | .bl _ => some "bool"
  | .int _ => some "int"
  | .str _ => some "str"
  | .tup _ => some "tuple"
  | .rl _ => some "list"
  | .ref n => match st[n]? with
    | some (.lst _) => some "list"
    | some (.dK _) => some "dict"
    | _ => none
theorem tyX_of {K : PySem.W.Frag} {H : Hp} {μ : List Addr} {d : D} {v : V} {st : Store} {n : String} (r : Rep K H μ d v) (s : RepS K H μ st) (h : tyName d st = some n) : TyX K H v (.type n) := by
  cases d with
  | non => cases r; cases h; exact .base .non
  | bl b => cases r; cases h; exact .base (.bl b)
  | int i => cases r; cases h; exact .base (.int i)
  | str x => cases r; cases h; exact .base (.str x)
  | tup xs =>
    cases h
    cases r with
    | tup t r =>
      rcases t with ⟨h | ⟨o, h⟩, _⟩ | ⟨o, its, n, h1, h2, _⟩
      · exact .base (.tup h)
      · exact .fTuple h
      · exact .kTuple h1 h2
  | rl xs =>
    cases h
    cases r with
    | rl t r =>
      rcases t with ⟨⟨o, h⟩, _⟩ | ⟨o, its, n, h1, h2, _⟩
      · exact .base (.frz h)
      · exact .kList h1 h2
  | ref k =>
    cases r with
    | ref e1 =>
      simp only [tyName] at h
      split at h
      · rename_i xs q1
        cases h
        obtain ⟨a, f1, ws, g1, r⟩ := s.at q1
        rw [e1] at f1; cases f1
        exact .base (.lst g1)
      · rename_i xs q1
        cases h
        obtain ⟨a, f1, ws, g1, r⟩ := s.at q1
        rw [e1] at f1; cases f1
        exact .base (.dK g1)
      · cases h
def isiB (T : String) (n : String) : Bool := match T with
  | "int" => n == "int" || n == "bool"
  | T => n == T
def sIsi (T : String) (f : SE) : SE := fun ρ st => (f ρ st).bind fun d st => match tyName d st with
  | some n => match kitB n T with
    | some b => .ok (.bl b) st
    | none => .stuck
  | none => .stuck
theorem le_isi {p : Pos} {e : Expr} {T : String} {x : Str} {p2 : Pos} {f : SE} (hg : Gl X "isinstance") (hm : X.mg "isinstance" = none) (hg2 : Gl X x) (hm2 : X.mg x = none) (hv2 : bootBuiltins x = some (.type T)) (ha : LE X E e f) (hn2 : x ≠ "__name__" := by decide) (hd2 : (x == ("__debug__" : Str)) = false := by decide)
    (he : starEach (e :: [.Name x p2]) X.env = (false, eval e X.env) :: starEach [.Name x p2] X.env := by rfl)
    (he2 : starEach [.Name x p2] X.env = (false, eval (.Name x p2) X.env) :: starEach [] X.env := by rfl)
    (hpl : (backTo pos (starEach [.Name x p2] X.env)).any (·.1) = false := by rfl) : LE X E (.Call (.Name "isinstance" p) (e :: [.Name x p2]) [] pos) (sIsi T f) :=
  ⟨peMono (pe_callB call_isi hg hm (by decide +kernel) (pa_cons ha.pe (pa_cons (pe_bltn (v := .ty T) hg2 hm2 hv2 rfl hn2 hd2) pa_nil he2) he) (by decide) (by decide) he hpl) fun σ H Q ⟨ρ, st, μ, re, rs, p⟩ => by
    refine ⟨ρ, st, μ, re, rs, (Post.bind p).mono fun v H1 ⟨d, st1, μ1, x1, r1, s1, p1⟩ => ?_⟩
    dsimp only at p1
    split at p1
    · rename_i n e1
      split at p1
      · rename_i b e2
        exact ⟨v, .ty T, .type n, .type T, b, rfl, .ty T, tyX_of r1 s1 e1, kit_ty e2, p1 _ H1 μ1 (.refl _ _) (.bl b) s1⟩
      · exact p1.elim
    · exact p1.elim⟩

/-! ### methods of lists, of texts -/
abbrev FM := Nat → List D → Store → Res D
def isLst (st : Store) (n : Nat) : Bool := match st[n]? with
  | some (.lst _) => true
  | _ => false
def sML (F : FM) (f : SE) (g : SL) : SE := fun ρ st => (f ρ st).bind fun d st => match d with
  | .ref n => if isLst st n = true then (g ρ st).bind fun ds st => F n ds st else .stuck
  | _ => .stuck
def liftM (K : PySem.W.Frag) (E : XK) (F : FM) : V → List V → Hp → VK → Prop := fun x vs H Q => ∃ n a ds st μ, x = .ref a ∧ μ[n]? = some a ∧ Reps K H μ ds vs ∧ RepS K H μ st ∧ Post K H μ (F n ds st) Q E
section
variable {o e : Expr} {es : List Expr} {name : Str} {apos cpos : Pos} {id : String} {F : FM} {f : SE} {g : SL}
theorem isLst_ty {K : PySem.W.Frag} {H : Hp} {μ : List Addr} {st : Store} {n : Nat} {a : Addr} (s : RepS K H μ st) (e : μ[n]? = some a) (h : isLst st n = true) : tyV K "list" (.ref a) H := by
  unfold isLst at h
  split at h
  · rename_i xs q1
    obtain ⟨a', f1, ws, g1, r⟩ := s.at q1
    rw [e] at f1; cases f1
    exact .inl ⟨rfl, _, .of g1⟩
  · cases h
theorem le_ml (slot : Slot "list" name id) (hty : typeOf (.builtin id) = pure (.type "method_descriptor")) (hm : MtR X id (liftM X.K E F)) (ho : LE X E o f) (ha : LL X E (e :: es) g)
    (hbase : attributeBase o name X.env (eval o X.env) = eval o X.env := by rfl)
    (hfew : ((backTo cpos (starEach (e :: es) X.env)).all (fun x => !x.1) && (backToKw cpos (keywordEach [] X.env)).all (fun x => x.1.isSome)
      && decide ((e :: es).length + ([] : List Keyword).length + (if ([] : List Keyword).isEmpty then 0 else 1) < 30)) = true := by rfl)
    (hline : (apos.endLine == cpos.line) = true := by rfl) (hs : starEach (e :: es) X.env = (false, eval e X.env) :: starEach es X.env := by rfl) (hplain : (backTo cpos (starEach es X.env)).any (·.1) = false := by rfl) :
    LE X E (.Call (.Attribute o name apos) (e :: es) [] cpos) (sML F f g) :=
  ⟨peMono (pe_bm PySem.F.plainAttrs_list slot hty hm ho.pe ha.pa hbase hfew hline hs hplain) fun σ H Q ⟨ρ, st, μ, re, rs, p⟩ => by
    refine ⟨ρ, st, μ, re, rs, (Post.bind p).mono fun v H1 ⟨d, st1, μ1, x1, r1, s1, p1⟩ => ?_⟩
    cases d with
    | ref n =>
      dsimp only at p1
      split at p1
      · rename_i hl
        cases r1 with
        | ref e1 =>
          refine ⟨isLst_ty s1 e1 hl, ρ, st1, μ1, re.ext x1, s1, (PostL.bind p1).mono fun vs H2 ⟨ds, st2, μ2, x2, r2, s2, p2⟩ => ?_⟩
          exact ⟨n, _, ds, st2, μ2, rfl, x2.get e1, r2, s2, p2⟩
      · exact p1.elim
    | _ => exact (show False from p1).elim⟩
theorem le_ml0 (slot : Slot "list" name id) (hty : typeOf (.builtin id) = pure (.type "method_descriptor")) (hm : MtR X id (liftM X.K E F)) (ho : LE X E o f)
    (hbase : attributeBase o name X.env (eval o X.env) = eval o X.env := by rfl) (hline : (apos.endLine == cpos.line) = true := by rfl) : LE X E (.Call (.Attribute o name apos) [] [] cpos) (sML F f sNil) :=
  ⟨peMono (pe_bm0 PySem.F.plainAttrs_list slot hty hm ho.pe hbase hline) fun σ H Q ⟨ρ, st, μ, re, rs, p⟩ => by
    refine ⟨ρ, st, μ, re, rs, (Post.bind p).mono fun v H1 ⟨d, st1, μ1, x1, r1, s1, p1⟩ => ?_⟩
    cases d with
    | ref n =>
      dsimp only at p1
      split at p1
      · rename_i hl
        cases r1 with
        | ref e1 => exact ⟨isLst_ty s1 e1 hl, n, _, [], st1, μ1, rfl, e1, .nil, s1, p1⟩
      · exact p1.elim
    | _ => exact (show False from p1).elim⟩
end
theorem post_set {K : PySem.W.Frag} {H : Hp} {μ : List Addr} {d : D} {v : V} {st : Store} {Q : VK} {n : Nat} {a : Addr} {xs : List D} {vs : List V} (p : Post K H μ (.ok d (st.set n (.lst xs))) Q E) (e : μ[n]? = some a) (r : Rep K H μ d v) (rs : Reps K H μ xs vs) (s : RepS K H μ st) : Q v (upd H a (.lst vs)) :=
  have x : Ext H μ (upd H a (.lst vs)) μ := .write (List.mem_of_getElem? e)
  p v _ μ x (r.ext x) (s.write e ⟨vs, upd_same, rs.ext x⟩)
def mAppend : FM := fun n ds st => match ds, st[n]? with
  | [y], some (.lst xs) => if xs.length < sizeLine then .ok .non (st.set n (.lst (xs ++ [y]))) else .stuck
  | _, _ => .stuck
theorem ml_append : MtR X "list.append" (liftM X.K E mAppend) := by
  intro pins s σ H x vs v us Q I rx rvs ⟨n, a, ds, st, μ, hx, e, r, hs, p⟩
  subst hx
  unfold mAppend at p
  split at p
  · rename_i y xs q1
    split at p
    · obtain ⟨v1, rfl, ry⟩ := reps1 r
      obtain ⟨a', f1, ws, g1, r1⟩ := hs.at q1
      rw [e] at f1; cases f1
      exact mt_append pins s σ H _ _ v us Q I rx rvs ⟨_, _, _, rfl, rfl, g1, by rw [← r1.length]; assumption, post_set p e .non (r1.append (.cons ry .nil)) hs⟩
    · exact p.elim
  · exact p.elim
def mPop : FM := fun n ds st => match ds, st[n]? with
  | [], some (.lst xs) => match xs[xs.length - 1]? with
    | some y => .ok y (st.set n (.lst xs.dropLast))
    | none => .stuck
  | [.int i], some (.lst xs) => if -(2 ^ 63) ≤ i ∧ i < 2 ^ 63 then match seqIndex? i xs.length with
    | some k => match xs[k]? with
      | some y => .ok y (st.set n (.lst (xs.eraseIdx k)))
      | none => .stuck
    | none => .stuck else .stuck
  | _, _ => .stuck
theorem ml_pop : MtR X "list.pop" (liftM X.K E mPop) := by
  intro pins s σ H x vs v us Q I rx rvs ⟨n, a, ds, st, μ, hx, e, r, hs, p⟩
  subst hx
  unfold mPop at p
  split at p
  · rename_i xs q1
    split at p
    · rename_i y ey
      cases r
      obtain ⟨a', f1, ws, g1, r1⟩ := hs.at q1
      rw [e] at f1; cases f1
      obtain ⟨z, ez, rz⟩ := r1.get ey
      exact mt_pop pins s σ H _ _ v us Q I rx rvs ⟨_, _, _, rfl, rfl, g1, by rw [← r1.length]; exact ez, post_set p e rz r1.dropLast hs⟩
    · exact p.elim
  · rename_i i xs q1
    split at p
    · rename_i hi
      split at p
      · rename_i k ek
        split at p
        · rename_i y ey
          obtain ⟨v1, rfl, ri⟩ := reps1 r
          cases ri
          obtain ⟨a', f1, ws, g1, r1⟩ := hs.at q1
          rw [e] at f1; cases f1
          obtain ⟨z, ez, rz⟩ := r1.get ey
          exact mt_popAt pins s σ H _ _ v us Q I rx rvs ⟨_, _, _, _, _, rfl, rfl, g1, hi.1, hi.2, by rw [← r1.length]; exact ek, ez, post_set p e rz (r1.eraseIdx k) hs⟩
        · exact p.elim
      · exact p.elim
    · exact p.elim
  · exact p.elim
/-- extend by a list -/
def mExtend : FM := fun n ds st => match ds, st[n]? with
  | [.ref m], some (.lst xs) => match st[m]? with
    | some (.lst ys) => if xs.length + ys.length ≤ sizeLine then .ok .non (st.set n (.lst (xs ++ ys))) else .stuck
    | _ => .stuck
  | _, _ => .stuck
theorem ml_extend : MtR X "list.extend" (liftM X.K E mExtend) := by
  intro pins s σ H x vs v us Q I rx rvs ⟨n, a, ds, st, μ, hx, e, r, hs, p⟩
  subst hx
  unfold mExtend at p
  split at p
  · rename_i m xs q1
    split at p
    · rename_i ys q2
      split at p
      · rename_i hz
        obtain ⟨v1, rfl, ri⟩ := reps1 r
        obtain ⟨a', f1, ws, g1, r1⟩ := hs.at q1
        rw [e] at f1; cases f1
        cases ri with
        | ref e2 =>
          obtain ⟨b', f2, zs, g2, r2⟩ := hs.at q2
          rw [e2] at f2; cases f2
          exact mt_extend pins s σ H _ _ v us Q I rx rvs ⟨_, _, _, _, rfl, rfl, g1, g2, by rw [← r1.length, ← r2.length]; exact hz, post_set p e .non (r1.append r2) hs⟩
      · exact p.elim
    · exact p.elim
  · exact p.elim
/-! texts -/
abbrev FT := Str → List D → Store → Res D
def sMT (F : FT) (f : SE) (g : SL) : SE := fun ρ st => (f ρ st).bind fun d st => match d with
  | .str z => (g ρ st).bind fun ds st => F z ds st
  | _ => .stuck
def liftT (K : PySem.W.Frag) (E : XK) (F : FT) : V → List V → Hp → VK → Prop := fun x vs H Q => ∃ z ds st μ, x = .str z ∧ Reps K H μ ds vs ∧ RepS K H μ st ∧ Post K H μ (F z ds st) Q E
section
variable {o e : Expr} {es : List Expr} {name : Str} {apos cpos : Pos} {id : String} {F : FT} {f : SE} {g : SL}
theorem le_mt (slot : Slot "str" name id) (hty : typeOf (.builtin id) = pure (.type "method_descriptor")) (hm : MtR X id (liftT X.K E F)) (ho : LE X E o f) (ha : LL X E (e :: es) g)
    (hbase : attributeBase o name X.env (eval o X.env) = eval o X.env := by rfl)
    (hfew : ((backTo cpos (starEach (e :: es) X.env)).all (fun x => !x.1) && (backToKw cpos (keywordEach [] X.env)).all (fun x => x.1.isSome)
      && decide ((e :: es).length + ([] : List Keyword).length + (if ([] : List Keyword).isEmpty then 0 else 1) < 30)) = true := by rfl)
    (hline : (apos.endLine == cpos.line) = true := by rfl) (hs : starEach (e :: es) X.env = (false, eval e X.env) :: starEach es X.env := by rfl) (hplain : (backTo cpos (starEach es X.env)).any (·.1) = false := by rfl) :
    LE X E (.Call (.Attribute o name apos) (e :: es) [] cpos) (sMT F f g) :=
  ⟨peMono (pe_bm PySem.F.plainAttrs_str slot hty hm ho.pe ha.pa hbase hfew hline hs hplain) fun σ H Q ⟨ρ, st, μ, re, rs, p⟩ => by
    refine ⟨ρ, st, μ, re, rs, (Post.bind p).mono fun v H1 ⟨d, st1, μ1, x1, r1, s1, p1⟩ => ?_⟩
    cases d with
    | str z =>
      cases r1
      refine ⟨rfl, ρ, st1, μ1, re.ext x1, s1, (PostL.bind p1).mono fun vs H2 ⟨ds, st2, μ2, x2, r2, s2, p2⟩ => ?_⟩
      exact ⟨z, ds, st2, μ2, rfl, r2, s2, p2⟩
    | _ => exact (show False from p1).elim⟩
end
def strsOf : List D → Option (List Str)
  | [] => some []
  | .str i :: ds => (strsOf ds).map (i :: ·)
  | _ :: _ => none
theorem strsOf_eq : ∀ {ds : List D} {ns : List Str}, strsOf ds = some ns → ds = ns.map D.str
  | [], _, h => by cases h; rfl
  | .str i :: ds, ns, h => by
    simp only [strsOf] at h
    cases e : strsOf ds with
    | none => rw [e] at h; cases h
    | some ms => rw [e] at h; cases h; rw [strsOf_eq e]; rfl
  | .non :: _, _, h => by cases h
  | .bl _ :: _, _, h => by cases h
  | .int _ :: _, _, h => by cases h
  | .tup _ :: _, _, h => by cases h
  | .rl _ :: _, _, h => by cases h
  | .ref _ :: _, _, h => by cases h
theorem strsOf_map : ∀ (ns : List Str), strsOf (ns.map D.str) = some ns
  | [] => rfl
  | i :: ns => by simp only [List.map_cons, strsOf, strsOf_map ns, Option.map_some]
def tJoin : FT := fun z ds st => match ds with
  | [d] => match (seqOf d st).bind strsOf with
    | some ys => if (ys.map (·.length)).sum + ys.length * z.length ≤ 16777216 then .ok (.str (Txt.join z ys)) st else .stuck
    | none => .stuck
  | _ => .stuck
theorem mt_tJoin : MtR X "str.join" (liftT X.K E tJoin) := by
  intro pins s σ H x vs v us Q I rx rvs ⟨z, ds, st, μ, hx, r, hs, p⟩
  subst hx
  unfold tJoin at p
  split at p
  · rename_i d
    obtain ⟨v1, rfl, r1⟩ := reps1 r
    split at p
    · rename_i ys e
      split at p
      · cases q : seqOf d st with
        | none => rw [q] at e; cases e
        | some xs =>
          rw [q] at e
          have e3 := strsOf_eq (show strsOf xs = some ys from e)
          subst e3
          obtain ⟨a, ws, rfl, rw', sq⟩ := seqOf_sq r1 hs q
          obtain rfl := rw'.strs
          exact mt_join pins s σ H _ _ v us Q I rx rvs ⟨_, _, _, rfl, rfl, sq, by assumption, p _ H μ (.refl _ _) (.str _) hs⟩
      · exact p.elim
    · exact p.elim
  · exact p.elim
def tCount : FT := fun z ds st => match ds with
  | [.str b] => .ok (.int (Txt.count z b)) st
  | _ => .stuck
theorem mt_tCount : MtR X "str.count" (liftT X.K E tCount) := by
  intro pins s σ H x vs v us Q I rx rvs ⟨z, ds, st, μ, hx, r, hs, p⟩
  subst hx
  unfold tCount at p
  split at p
  · obtain ⟨v1, rfl, r1⟩ := reps1 r
    cases r1
    exact mt_count pins s σ H _ _ v us Q I rx rvs ⟨_, _, rfl, rfl, p _ H μ (.refl _ _) (.int _) hs⟩
  · exact p.elim

/-! ### the text's own defs -/
def spOf (K : PySem.W.Frag) (n : Nat) (F : FL) : Sp := fun vs H Q _ => vs.length = n ∧ ∃ ds st μ, Reps K H μ ds vs ∧ RepS K H μ st ∧ Post K H μ (F ds st) Q E0
theorem spOf_len {K : PySem.W.Frag} {n : Nat} {F : FL} {ps : List Str} (h : n = ps.length) : ∀ vs H Q E, spOf K n F vs H Q E → vs.length = ps.length := fun vs H Q E q => by rw [← h]; exact q.1
theorem le_call {x : Str} {p : Pos} {e : Expr} {es : List Expr} {CX : CXT} {k n : Nat} {f : Addr} {fd : FuncData} {ps : List Str} {G : FL} {g : SL} (F : FnOk X.prog X.w X.K X.mg X.base CX k f fd ps (spOf X.K n G)) (hr : Room k X.A) (hg : Gl X x) (hm : X.mg x = some (.ref f)) (hk : PySem.W.keepIn X.K (.ref f) = true)
    (hb : Binds X.K fd ps []) (hx : Passes CX X E0) (ha : LL X E0 (e :: es) g) (hl : LenIs g n) (hdb : (x == ("__debug__" : Str)) = false := by decide) (he : starEach (e :: es) X.env = (false, eval e X.env) :: starEach es X.env := by rfl) (hpl : (backTo pos (starEach es X.env)).any (·.1) = false := by rfl) :
    LE X E0 (.Call (.Name x p) (e :: es) [] pos) (sCB G g) :=
  ⟨peMono (pe_call F hr hg hm hk hb .nil hx ha.pa hdb he hpl) fun σ H Q ⟨ρ, st, μ, re, rs, p⟩ => ⟨ρ, st, μ, re, rs, ((PostL.bind p).len fun ds st' e => hl _ _ _ _ e).mono fun vs H1 ⟨en, d, st1, μ1, x1, r1, s1, p1⟩ => by
    rw [List.append_nil]
    exact ⟨en, d, st1, μ1, r1, s1, p1⟩⟩⟩
/-- keywords: the values in the order of the call, then put in the parameters' order -/
structure LK (X : Cx) (E : XK) (kws : List Keyword) (f : SL) : Prop where
  pk : PK X kws (liftL X.K E f)
theorem pkMono {kws : List Keyword} {t t' : TA} (h : PK X kws t) (m : ∀ σ H Q, t' σ H Q → t σ H Q) : PK X kws t' := ⟨fun pos pins s σ H Q I q => h.run pos pins s σ H Q I (m σ H Q q)⟩
theorem lk_nil : LK X E [] sNil := ⟨pkMono pk_nil fun σ H Q ⟨ρ, st, μ, re, rs, p⟩ => p _ H μ (.refl H μ) .nil rs⟩
theorem lk_cons {nm : Option Str} {kpos : Pos} {e : Expr} {kws : List Keyword} {f : SE} {g : SL} (ha : LE X E e f) (hr : LK X E kws g) : LK X E (⟨nm, e, kpos⟩ :: kws) (sCons f g) :=
  ⟨pkMono (pk_cons ha.pe hr.pk) fun σ H Q ⟨ρ, st, μ, re, rs, p⟩ => by
    have p1 := Post.bindL (f := fun d st => (g ρ st).bind fun ds st => .ok (d :: ds) st) p
    refine ⟨ρ, st, μ, re, rs, p1.mono fun v H1 ⟨d, st1, μ1, x1, r1, s1, p2⟩ => ?_⟩
    refine ⟨ρ, st1, μ1, re.ext x1, s1, (PostL.bindL (f := fun ds st => .ok (d :: ds) st) p2).mono fun vs H2 ⟨ds, st2, μ2, x2, r2, s2, p3⟩ => ?_⟩
    exact p3 (v :: vs) H2 μ2 (.refl _ _) (.cons (r1.ext x2) r2) s2⟩
end
end L3

namespace L3
open PySem PySem.Spec PyProof.Rows L2

/-! ### targets -/
inductive Tgt where
  | nm (i : Nat)
  | tp (ts : List Tgt)
mutual
def Tgt.rd (K : PySem.W.Frag) : Tgt → TG
  | .nm i => gName i
  | .tp ts => gTup K ts.length (Tgt.rds K ts)
def Tgt.rds (K : PySem.W.Frag) : List Tgt → TGs
  | [] => gNil
  | t :: ts => gCons (Tgt.rd K t) (Tgt.rds K ts)
end
mutual
def Tgt.ev : Tgt → D → Envr → Option Envr
  | .nm i, d, ρ => some (ρ.set i (some d))
  | .tp ts, d, ρ => match d with
    | .tup ds => Tgt.evs ts ds ρ
    | _ => none
def Tgt.evs : List Tgt → List D → Envr → Option Envr
  | [], [], ρ => some ρ
  | t :: ts, d :: ds, ρ => match Tgt.ev t d ρ with
    | some ρ1 => Tgt.evs ts ds ρ1
    | none => none
  | _, _, _ => none
end
mutual
def Tgt.slots : Tgt → List Nat
  | .nm i => [i]
  | .tp ts => Tgt.slotss ts
def Tgt.slotss : List Tgt → List Nat
  | [] => []
  | t :: ts => Tgt.slots t ++ Tgt.slotss ts
end
theorem Tgt.evs_len : ∀ (ts : List Tgt) (ds : List D) (ρ ρ' : Envr), Tgt.evs ts ds ρ = some ρ' → ts.length = ds.length
  | [], [], _, _, _ => rfl
  | [], _ :: _, _, _, e => by simp only [Tgt.evs] at e; cases e
  | _ :: _, [], _, _, e => by simp only [Tgt.evs] at e; cases e
  | t :: ts, d :: ds, ρ, ρ', e => by
    simp only [Tgt.evs] at e
    cases e1 : Tgt.ev t d ρ with
    | none => rw [e1] at e; cases e
    | some ρ1 => rw [e1] at e; simp [Tgt.evs_len ts ds ρ1 ρ' e]
theorem wipe_set {i : Nat} {x : Option V} : ∀ {vs : List Nat} {σ : L2.St}, i ∈ vs → wipe (σ.set i x) vs = wipe σ vs
  | [], _, h => by cases h
  | v :: vs, σ, h => by
    show (wipe (σ.set i x) vs).set v none = (wipe σ vs).set v none
    by_cases hv : i = v
    · subst hv
      -- what stands at i is overwritten
      have gen : ∀ (ws : List Nat) (τ : L2.St), (wipe (τ.set i x) ws).set i none = (wipe τ ws).set i none := by
        intro ws
        induction ws with
        | nil => intro τ; show (τ.set i x).set i none = τ.set i none; rw [List.set_set]
        | cons w ws ih =>
          intro τ
          show ((wipe (τ.set i x) ws).set w none).set i none = ((wipe τ ws).set w none).set i none
          by_cases hw : w = i
          · subst hw; rw [List.set_set, List.set_set]; exact ih τ
          · rw [List.set_comm _ _ hw, List.set_comm _ _ hw, ih τ]
      exact gen vs σ
    · rw [wipe_set (by rcases List.mem_cons.mp h with h | h; exact absurd h hv; exact h)]
section
variable {K : PySem.W.Frag} {H : Hp} {μ : List Addr}
mutual
theorem Tgt.ok : ∀ (t : Tgt) {d : D} {v : V} {ρ ρ' : Envr} {σ : L2.St} {Q : L2.St → Hp → Prop}, Rep K H μ d v → RepE K H μ ρ σ → Tgt.ev t d ρ = some ρ' → (∀ σ', RepE K H μ ρ' σ' → (∀ vs, (∀ i ∈ t.slots, i ∈ vs) → wipe σ' vs = wipe σ vs) → Q σ' H) → Tgt.rd K t v σ H Q
  | .nm i, d, v, ρ, ρ', σ, Q, r, re, e, q => by
    simp only [Tgt.ev] at e
    cases e
    simp only [Tgt.rd]
    exact q _ (re.set r) fun vs h => wipe_set (h i (by simp [Tgt.slots]))
  | .tp ts, d, v, ρ, ρ', σ, Q, r, re, e, q => by
    cases d with
    | tup ds =>
      cases r with
      | tup t r =>
        simp only [Tgt.ev] at e
        simp only [Tgt.rd]
        obtain ⟨h1, h2⟩ := Tgt.oks ts r re e (fun σ' h1 h2 => q σ' h1 fun vs hv => h2 vs (by simpa [Tgt.slots] using hv))
        exact ⟨_, _, rfl, t.sq, h1, h2⟩
    | _ => simp only [Tgt.ev] at e; cases e
theorem Tgt.oks : ∀ (ts : List Tgt) {ds : List D} {vs : List V} {ρ ρ' : Envr} {σ : L2.St} {Q : L2.St → Hp → Prop}, Reps K H μ ds vs → RepE K H μ ρ σ → Tgt.evs ts ds ρ = some ρ' → (∀ σ', RepE K H μ ρ' σ' → (∀ ws, (∀ i ∈ Tgt.slotss ts, i ∈ ws) → wipe σ' ws = wipe σ ws) → Q σ' H) → vs.length = ts.length ∧ Tgt.rds K ts vs σ H Q
  | [], [], vs, ρ, ρ', σ, Q, r, re, e, q => by
    cases r
    simp only [Tgt.evs] at e
    cases e
    simp only [Tgt.rds]
    exact ⟨rfl, rfl, q σ re fun _ _ => rfl⟩
  | [], _ :: _, vs, ρ, ρ', σ, Q, r, re, e, q => by simp only [Tgt.evs] at e; cases e
  | _ :: _, [], vs, ρ, ρ', σ, Q, r, re, e, q => by simp only [Tgt.evs] at e; cases e
  | t :: ts, d :: ds, vs, ρ, ρ', σ, Q, r, re, e, q => by
    cases r with
    | @cons _ v _ vs r1 r2 =>
      simp only [Tgt.evs] at e
      cases e1 : Tgt.ev t d ρ with
      | none => rw [e1] at e; cases e
      | some ρ1 =>
        rw [e1] at e
        simp only [Tgt.rds]
        have hl : vs.length = ts.length := by rw [← r2.length]; exact (Tgt.evs_len ts ds ρ1 ρ' e).symm
        refine ⟨by simp [hl], v, vs, rfl, Tgt.ok t r1 re e1 fun σ1 re1 w1 => ?_⟩
        exact (Tgt.oks ts r2 re1 e (fun σ' re' w2 => q σ' re' fun ws hw => (w2 ws fun i hi => hw i (by simp [Tgt.slotss, hi])).trans (w1 ws fun i hi => hw i (by simp [Tgt.slotss, hi])))).2
end
end
structure LTg (X : Cx) (target : Expr) (t : Tgt) : Prop where
  pg : PG X target (Tgt.rd X.K t)
structure LTgs (X : Cx) (targets : List Expr) (t : List Tgt) : Prop where
  pgs : PGs X targets (Tgt.rds X.K t)
section
variable {X : Cx} {E : XK} {pos : Pos}
theorem lt_nm (i : Nat) {x : Str} (hN : X.N.Nodup) (hi : X.N[i]? = some x := by rfl) (hx : Loc X.env.scope x := by first | exact .inl rfl | exact .inr rfl) (hf : X.fn x = true ∨ X.env.scope.names.lookup x = some .local := by first | exact .inl rfl | exact .inr rfl) : LTg X (.Name x pos) (.nm i) :=
  ⟨by simp only [Tgt.rd]; exact pg_name hN hi hx hf⟩
theorem lts_nil : LTgs X [] [] := ⟨by simp only [Tgt.rds]; exact pgs_nil⟩
theorem lts_cons {e : Expr} {es : List Expr} {t : Tgt} {ts : List Tgt} (h1 : LTg X e t) (h2 : LTgs X es ts)
    (hs : (assignEach (e :: es) X.env).map (·.2) = assign e X.env :: (assignEach es X.env).map (·.2) := by rfl) : LTgs X (e :: es) (t :: ts) := ⟨by simp only [Tgt.rds]; exact pgs_cons h1.pg h2.pgs hs⟩
theorem lt_tp {es : List Expr} {ts : List Tgt} {k : Nat} (hc : X.calm = true) (h : LTgs X es ts) (hn : (assignEach es X.env).length = ts.length := by rfl) (hst : (assignEach es X.env).findIdx? (·.1) = none := by rfl) : LTg X (.Tuple es k pos) (.tp ts) :=
  ⟨by simp only [Tgt.rd]; exact pg_tup hc h.pgs hn hst⟩

/-! ### statements -/
inductive SRes where
  | nx (ρ : Envr) (st : Store)
  | rt (d : D) (st : Store)
  | bk (ρ : Envr) (st : Store)
  | ct (ρ : Envr) (st : Store)
  | exc (x : Exn) (st : Store)
  | stuck
abbrev SS := Envr → Store → SRes
def PostS (K : PySem.W.Frag) (H : Hp) (μ : List Addr) (r : SRes) (D : Ends) (E : XK) : Prop :=
  match r with
  | .nx ρ st => ∀ σ' H' μ', Ext H μ H' μ' → RepE K H' μ' ρ σ' → RepS K H' μ' st → D.nx σ' H'
  | .rt d st => ∀ v H' μ', Ext H μ H' μ' → Rep K H' μ' d v → RepS K H' μ' st → D.rt v H'
  | .bk ρ st => ∀ σ' H' μ', Ext H μ H' μ' → RepE K H' μ' ρ σ' → RepS K H' μ' st → D.bk σ' H'
  | .ct ρ st => ∀ σ' H' μ', Ext H μ H' μ' → RepE K H' μ' ρ σ' → RepS K H' μ' st → D.ct σ' H'
  | .exc x st => ∀ c od H' μ', Ext H μ H' μ' → RepX K H' μ' x c od → RepS K H' μ' st → E c od H'
  | .stuck => False
theorem PostS.ext {K : PySem.W.Frag} {H H1 : Hp} {μ μ1 : List Addr} {r : SRes} {D : Ends} (x : Ext H μ H1 μ1) (p : PostS K H μ r D E) : PostS K H1 μ1 r D E := by
  cases r with
  | nx ρ st => exact fun σ' H' μ' e a b => p σ' H' μ' (x.trans e) a b
  | bk ρ st => exact fun σ' H' μ' e a b => p σ' H' μ' (x.trans e) a b
  | ct ρ st => exact fun σ' H' μ' e a b => p σ' H' μ' (x.trans e) a b
  | rt d st => exact fun v H' μ' e a b => p v H' μ' (x.trans e) a b
  | exc y st => exact fun c od H' μ' e a b => p c od H' μ' (x.trans e) a b
  | stuck => exact p
def liftS (K : PySem.W.Frag) (E : XK) (f : SS) : TS := fun D σ H => ∃ ρ st μ, RepE K H μ ρ σ ∧ RepS K H μ st ∧ PostS K H μ (f ρ st) D E
structure LS (X : Cx) (E : XK) (s : Stmt) (f : SS) : Prop where
  ps : PS X s (liftS X.K E f)
structure LSs (X : Cx) (E : XK) (s : List Stmt) (f : SS) : Prop where
  pss : PSs X s (liftS X.K E f)
theorem psMono {s : Stmt} {t t' : TS} (h : PS X s t) (m : ∀ D σ H, t' D σ H → t D σ H) : PS X s t' := ⟨fun pins s σ H D I q => h.run pins s σ H D I (m D σ H q)⟩
theorem pssMono {s : List Stmt} {t t' : TS} (h : PSs X s t) (m : ∀ D σ H, t' D σ H → t D σ H) : PSs X s t' := ⟨fun pins s σ H D I q => h.run pins s σ H D I (m D σ H q)⟩
/-- an expression's result, then a statement's -/
def Res.thn {α : Type} (r : Res α) (f : α → Store → SRes) : SRes := match r with
  | .ok a st => f a st
  | .exc x st => .exc x st
  | .stuck => .stuck
theorem thn_ok {α : Type} {a : α} {st : Store} {f : α → Store → SRes} : (Res.ok a st).thn f = f a st := rfl
theorem Post.thn {K : PySem.W.Frag} {H : Hp} {μ : List Addr} {r : Res D} {f : D → Store → SRes} {De : Ends} (p : PostS K H μ (r.thn f) De E) : Post K H μ r (Then K H μ fun d st1 H1 μ1 => PostS K H1 μ1 (f d st1) De E) E := by
  cases r with
  | ok d st => exact fun v H' μ' e a b => ⟨d, st, μ', e, a, b, p.ext e⟩
  | exc y st => exact p
  | stuck => exact p
theorem PostB.thn {K : PySem.W.Frag} {H : Hp} {μ : List Addr} {r : Res Bool} {f : Bool → Store → SRes} {De : Ends} (p : PostS K H μ (r.thn f) De E) : PostB K H μ r (ThenB K H μ fun d st1 H1 μ1 => PostS K H1 μ1 (f d st1) De E) E := by
  cases r with
  | ok d st => exact fun H' μ' e b => ⟨st, μ', e, b, p.ext e⟩
  | exc y st => exact p
  | stuck => exact p
theorem PostL.thn {K : PySem.W.Frag} {H : Hp} {μ : List Addr} {r : Res (List D)} {f : List D → Store → SRes} {De : Ends} (p : PostS K H μ (r.thn f) De E) : PostL K H μ r (ThenL K H μ fun d st1 H1 μ1 => PostS K H1 μ1 (f d st1) De E) E := by
  cases r with
  | ok d st => exact fun v H' μ' e a b => ⟨d, st, μ', e, a, b, p.ext e⟩
  | exc y st => exact p
  | stuck => exact p
def SRes.thn (r : SRes) (g : SS) : SRes := match r with
  | .nx ρ st => g ρ st
  | r => r
def xNil : SS := fun ρ st => .nx ρ st
def xSeq (f g : SS) : SS := fun ρ st => (f ρ st).thn g
theorem lss_nil : LSs X E [] xNil := ⟨pssMono pss_nil fun D σ H ⟨ρ, st, μ, re, rs, p⟩ => p σ H μ (.refl _ _) re rs⟩
theorem lss_cons {s : Stmt} {ss : List Stmt} {f g : SS} (h1 : LS X E s f) (h2 : LSs X E ss g) : LSs X E (s :: ss) (xSeq f g) :=
  ⟨pssMono (pss_cons h1.ps h2.pss) fun D σ H ⟨ρ, st, μ, re, rs, p⟩ => by
    refine ⟨ρ, st, μ, re, rs, ?_⟩
    unfold xSeq at p
    cases e : f ρ st with
    | nx ρ' st' => rw [e] at p; exact fun σ' H' μ' x a b => ⟨ρ', st', μ', a, b, PostS.ext x p⟩
    | rt d st' => rw [e] at p; exact p
    | bk ρ' st' => rw [e] at p; exact p
    | ct ρ' st' => rw [e] at p; exact p
    | exc y st' => rw [e] at p; exact p
    | stuck => rw [e] at p; exact p⟩
theorem lss_one {s : Stmt} {f : SS} (h1 : LS X E s f) : LSs X E [s] f := ⟨pss_one h1.ps⟩
def xBreak : SS := fun ρ st => .bk ρ st
def xCont : SS := fun ρ st => .ct ρ st
theorem ls_pass : LS X E (.Pass pos) xNil := ⟨psMono ps_pass fun D σ H ⟨ρ, st, μ, re, rs, p⟩ => p σ H μ (.refl _ _) re rs⟩
theorem ls_break : LS X E (.Break pos) xBreak := ⟨psMono ps_break fun D σ H ⟨ρ, st, μ, re, rs, p⟩ => p σ H μ (.refl _ _) re rs⟩
theorem ls_cont : LS X E (.Continue pos) xCont := ⟨psMono ps_continue fun D σ H ⟨ρ, st, μ, re, rs, p⟩ => p σ H μ (.refl _ _) re rs⟩
def xRet (f : SE) : SS := fun ρ st => (f ρ st).thn fun d st => .rt d st
theorem ls_ret {e : Expr} {f : SE} (h : LE X E e f) : LS X E (.Return (some e) pos) (xRet f) := ⟨psMono (ps_ret h.pe) fun D σ H ⟨ρ, st, μ, re, rs, p⟩ =>
  ⟨ρ, st, μ, re, rs, (Post.thn p).mono fun v H1 ⟨d, st1, μ1, x1, r1, s1, p1⟩ => p1 v H1 μ1 (.refl _ _) r1 s1⟩⟩
def xRetN : SS := fun _ st => .rt .non st
theorem ls_retN : LS X E (.Return none pos) xRetN := ⟨psMono ps_retN fun D σ H ⟨ρ, st, μ, re, rs, p⟩ => p .non H μ (.refl _ _) .non rs⟩
def xExpr (f : SE) : SS := fun ρ st => (f ρ st).thn fun _ st => .nx ρ st
theorem ls_expr {e : Expr} {f : SE} (h : LE X E e f) (hs : swapsWith e none pos.line X.env = pure false := by rfl) : LS X E (.Expr e pos) (xExpr f) := ⟨psMono (ps_expr h.pe hs) fun D σ H ⟨ρ, st, μ, re, rs, p⟩ =>
  ⟨ρ, st, μ, re, rs, (Post.thn p).mono fun v H1 ⟨d, st1, μ1, x1, r1, s1, p1⟩ => p1 σ H1 μ1 (.refl _ _) (re.ext x1) s1⟩⟩
def xIf (t : SB) (f g : SS) : SS := fun ρ st => (t ρ st).thn fun b st => if b = true then f ρ st else g ρ st
theorem ls_if {c : Expr} {a b : List Stmt} {t : SB} {f g : SS} (hc : LB X E c t) (ha : LSs X E a f) (hb : LSs X E b g) : LS X E (.If c a b pos) (xIf t f g) := ⟨psMono (ps_if hc.pt ha.pss hb.pss) fun D σ H ⟨ρ, st, μ, re, rs, p⟩ =>
  ⟨ρ, st, μ, re, rs, (PostB.thn p).mono fun b H1 ⟨st1, μ1, x1, s1, p1⟩ => by
    cases b with
    | true => rw [if_pos rfl] at p1 ⊢; exact ⟨ρ, st1, μ1, re.ext x1, s1, p1⟩
    | false => rw [if_neg Bool.false_ne_true] at p1 ⊢; exact ⟨ρ, st1, μ1, re.ext x1, s1, p1⟩⟩⟩
/-- target = value -/
def xAsg (t : Tgt) (f : SE) : SS := fun ρ st => (f ρ st).thn fun d st => match t.ev d ρ with
  | some ρ' => .nx ρ' st
  | none => .stuck
theorem lift_xAsg {K : PySem.W.Frag} {t : Tgt} {f : SE} {De : Ends} {σ : L2.St} {H : Hp} (h : liftS K E (xAsg t f) De σ H) : tAsg (lift K E f) (Tgt.rd K t) De σ H := by
  obtain ⟨ρ, st, μ, re, rs, p⟩ := h
  refine ⟨ρ, st, μ, re, rs, (Post.thn p).mono fun v H1 ⟨d, st1, μ1, x1, r1, s1, p1⟩ => ?_⟩
  dsimp only at p1
  cases e : t.ev d ρ with
  | none => rw [e] at p1; exact p1.elim
  | some ρ' =>
    rw [e] at p1
    exact Tgt.ok t r1 (re.ext x1) e fun σ' re' _ => p1 σ' H1 μ1 (.refl _ _) re' s1
theorem ls_set (i : Nat) {x : Str} {e : Expr} {f : SE} {pos' : Pos} (hN : X.N.Nodup) (he : LE X E e f) (hi : X.N[i]? = some x := by rfl) (hx : Loc X.env.scope x := by first | exact .inl rfl | exact .inr rfl) (hs : swapsWith e (some (.Name x pos')) pos.line X.env = pure false := by rfl) (hf : X.fn x = true ∨ X.env.scope.names.lookup x = some .local := by first | exact .inl rfl | exact .inr rfl) :
    LS X E (.Assign [.Name x pos'] e pos) (xAsg (.nm i) f) := ⟨psMono (ps_set hN hi hx he.pe hs hf) fun D σ H h => by
      have := lift_xAsg h
      simp only [Tgt.rd] at this
      exact this⟩
theorem ls_asg {tg e : Expr} {f : SE} {t : Tgt} (he : LE X E e f) (ht : LTg X tg t) (hs : swapsWithSole [tg] e pos.line X.env = pure false := by rfl) (hw : swappedStores [tg] e X.env = pure none := by rfl)
    (h1 : (assignEach [tg] X.env).map (·.2) = [assign tg X.env] := by rfl) : LS X E (.Assign [tg] e pos) (xAsg t f) := ⟨psMono (ps_asg he.pe ht.pg hs hw h1) fun D σ H h => lift_xAsg h⟩
/-- a, b = x, y by plain local names -/
def xPar (i j : Nat) (f : SL) : SS := fun ρ st => (f ρ st).thn fun ds st => match ds with
  | [d, d'] => .nx ((ρ.set i (some d)).set j (some d')) st
  | _ => .stuck
theorem ls_par (i j : Nat) {x y : Str} {a b : Expr} {f : SL} {px py pt : Pos} {kt k2 : Nat} {pt2 : Pos} (hc : X.calm = true) (hN : X.N.Nodup) (ha : LL X E [a, b] f) (hi : X.N[i]? = some x := by rfl) (hj : X.N[j]? = some y := by rfl) (hij : i ≠ j := by decide)
    (hx : X.env.scope.names.lookup x = some .local := by rfl) (hy : X.env.scope.names.lookup y = some .local := by rfl)
    (hw : swappedStores [.Tuple [.Name x px, .Name y py] kt pt] (.Tuple [a, b] k2 pt2) X.env = pure (some [x, y]) := by rfl)
    (hs : swapsWithSole [.Tuple [.Name x px, .Name y py] kt pt] (.Tuple [a, b] k2 pt2) pos.line X.env = pure false := by rfl) :
    LS X E (.Assign [.Tuple [.Name x px, .Name y py] kt pt] (.Tuple [a, b] k2 pt2) pos) (xPar i j f) := ⟨psMono (ps_par hc hN hi hj hij hx hy ha.pa hw hs) fun D σ H ⟨ρ, st, μ, re, rs, p⟩ =>
  ⟨ρ, st, μ, re, rs, (PostL.thn p).mono fun vs H1 ⟨ds, st1, μ1, x1, r1, s1, p1⟩ => by
    dsimp only at p1
    split at p1
    · obtain ⟨v, w', rfl, r2, r3⟩ := reps2 r1
      exact ⟨v, w', rfl, p1 _ H1 μ1 (.refl _ _) (((re.ext x1).set r2).set r3) s1⟩
    · exact p1.elim⟩⟩
def xPar3 (i j l : Nat) (f : SL) : SS := fun ρ st => (f ρ st).thn fun ds st => match ds with
  | [d, d', d2] => .nx (((ρ.set i (some d)).set j (some d')).set l (some d2)) st
  | _ => .stuck
/-- name op= e -/
def xAug (i : Nat) (F : F2) (f : SE) : SS := fun ρ st => match ρ[i]? with
  | some (some d) => (f ρ st).thn fun d' st => (F d d' st).thn fun z st => .nx (ρ.set i (some z)) st
  | _ => .stuck
def IpL (X : Cx) (E : XK) (op : Operator) (F : F2) : Prop := PIp X op (lift2 X.K E F)
theorem ls_aug (i : Nat) {x : Str} {e : Expr} {f : SE} {op : Operator} {F : F2} {pos' : Pos} (hN : X.N.Nodup) (he : LE X E e f) (ho : IpL X E op F) (hi : X.N[i]? = some x := by rfl) (hx : Loc X.env.scope x := by first | exact .inl rfl | exact .inr rfl) (hf : X.fn x = true ∨ X.env.scope.names.lookup x = some .local := by first | exact .inl rfl | exact .inr rfl) :
    LS X E (.AugAssign (.Name x pos') op e pos) (xAug i F f) := ⟨psMono (ps_aug hN hi hx he.pe ho hf) fun D σ H ⟨ρ, st, μ, re, rs, p⟩ => by
      unfold xAug at p
      split at p
      · rename_i d q
        obtain ⟨v, e1, r⟩ := re.2 i d q
        refine ⟨v, e1, ρ, st, μ, re, rs, (Post.thn p).mono fun w H1 ⟨d', st1, μ1, x1, r1, s1, p1⟩ => ?_⟩
        refine ⟨d, d', st1, μ1, r.ext x1, r1, s1, (Post.thn p1).mono fun z H2 ⟨dz, st2, μ2, x2, r2, s2, p2⟩ => ?_⟩
        exact p2 _ H2 μ2 (.refl _ _) (((re.ext x1).ext x2).set r2) s2
      · exact p.elim⟩
def vAddI : F2 := fun x y st => match x, y with
  | .int i, .int j => .ok (.int (i + j)) st
  | _, _ => .stuck
theorem ip_vAdd : IpL X E .Add vAddI := by
  intro pins s σ H x y v u Q I rx ry ⟨d, d', st, μ, h1, h2, h3, p⟩
  cases d <;> cases d' <;> first | exact (show False from p).elim | skip
  cases h1; cases h2
  exact ip_add pins s σ H _ _ v u Q I rx ry ⟨_, _, rfl, rfl, p _ H μ (.refl _ _) (.int _) h3⟩
theorem ip_vSub : IpL X E .Sub vSub := by
  intro pins s σ H x y v u Q I rx ry ⟨d, d', st, μ, h1, h2, h3, p⟩
  cases d <;> cases d' <;> first | exact (show False from p).elim | skip
  cases h1; cases h2
  exact ip_sub pins s σ H _ _ v u Q I rx ry ⟨_, _, rfl, rfl, p _ H μ (.refl _ _) (.int _) h3⟩
/-- o[i] = value -/
def xSetL (fv fo fi : SE) : SS := fun ρ st => (fv ρ st).thn fun v st => (fo ρ st).thn fun o st => (fi ρ st).thn fun i st => match o, i with
  | .ref n, .int k => match st[n]? with
    | some (.lst xs) => match ixN xs.length k with
      | some j => .nx ρ (st.set n (.lst (xs.set j v)))
      | none => .stuck
    | _ => .stuck
  | _, _ => .stuck
theorem ls_setL {o i e : Expr} {fv fo fi : SE} {tpos : Pos} (hv : LE X E e fv) (ho : LE X E o fo) (hi : LE X E i fi)
    (ha : ∀ v, assign (.Subscript o i tpos) X.env v = (do
      let ov ← holding [v] (eval o X.env)
      let iv ← holding [v, ov] (eval i X.env)
      standAt tpos
      holding [v, ov, iv] (setItem ov iv v)
      release [v, ov, iv] []) := by intro _; rfl)
    (hs : swapsWithSole [.Subscript o i tpos] e pos.line X.env = pure false := by rfl) (hw : swappedStores [.Subscript o i tpos] e X.env = pure none := by rfl)
    (h1 : (assignEach [.Subscript o i tpos] X.env).map (·.2) = [assign (.Subscript o i tpos) X.env] := by rfl) : LS X E (.Assign [.Subscript o i tpos] e pos) (xSetL fv fo fi) :=
  ⟨psMono (ps_asg hv.pe (pg_sub ho.pe hi.pe set_list ha) hs hw h1) fun D σ H ⟨ρ, st, μ, re, rs, p⟩ =>
    ⟨ρ, st, μ, re, rs, (Post.thn p).mono fun v H1 ⟨dv, st1, μ1, x1, r1, s1, p1⟩ => ⟨ρ, st1, μ1, re.ext x1, s1, (Post.thn p1).mono fun ov H2 ⟨do_, st2, μ2, x2, r2, s2, p2⟩ =>
      ⟨ρ, st2, μ2, (re.ext x1).ext x2, s2, (Post.thn p2).mono fun iv H3 ⟨di, st3, μ3, x3, r3, s3, p3⟩ => by
        dsimp only at p3
        split at p3
        · rename_i n k
          split at p3
          · rename_i xs q1
            split at p3
            · rename_i j ej
              obtain ⟨a', f1, ws, g1, rr⟩ := s3.at q1
              cases r3
              have r2' := r2.ext x3
              cases r2' with
              | ref e2 =>
                rw [e2] at f1; cases f1
                have rv := (r1.ext x2).ext x3
                have x : Ext H3 μ3 (upd H3 _ (.lst (ws.set j v))) μ3 := .write (List.mem_of_getElem? e2)
                refine ⟨_, _, _, j, rfl, rfl, g1, by rw [← rr.length]; exact ej, p3 σ _ μ3 x ((((re.ext x1).ext x2).ext x3).ext x) (s3.write e2 ⟨_, upd_same, (rr.set rv j).ext x⟩)⟩
            · exact p3.elim
          · exact p3.elim
        · exact p3.elim⟩⟩⟩⟩
open Classical in
/-- the store swept behind a statement -/
noncomputable def xSwp (f : SS) : SS := fun ρ st => match f ρ st with
  | .nx ρ' st' => if st.length ≤ st'.length ∧ (∀ d, some d ∈ ρ' → d.low st.length = true) ∧ ∀ (i : Nat) (o : SO), i < st.length → st'[i]? = some o → st[i]? = some o ∨ o.low st.length = true then .nx ρ' (st'.take st.length) else .nx ρ' st'
  | r => r
theorem ls_swp {s : Stmt} {f : SS} (h : LS X E s f) : LS X E s (xSwp f) := ⟨psMono h.ps fun D σ H ⟨ρ, st, μ, re, rs, p⟩ => by
  refine ⟨ρ, st, μ, re, rs, ?_⟩
  unfold xSwp at p
  cases e : f ρ st with
  | nx ρ' st' =>
    rw [e] at p
    dsimp only at p
    split at p
    · rename_i hc
      obtain ⟨hl, hd, hq⟩ := hc
      intro σ' H' μ' x a b
      obtain ⟨x2, s2⟩ := rs.sweep x b hq hl
      refine p σ' H' μ x2 ⟨a.1, fun i d q => ?_⟩ s2
      obtain ⟨v, e1, r⟩ := a.2 i d q
      obtain ⟨m, em, f⟩ := x.pre
      rw [em] at r
      exact ⟨v, e1, r.cut (by rw [rs.len]; exact hd d (List.mem_of_getElem? q))⟩
    · exact p
  | rt d st' => rw [e] at p; exact p
  | bk ρ' st' => rw [e] at p; exact p
  | ct ρ' st' => rw [e] at p; exact p
  | exc y st' => rw [e] at p; exact p
  | stuck => rw [e] at p; exact p⟩
end
end L3

namespace L3
open PySem PySem.Spec PyProof.Rows L2

/-! ### what is walked -/
inductive Src where
  | its (ds : List D)
  | lst (n : Nat) (ds : List D)
def Src.all : Src → List D
  | .its ds => ds
  | .lst _ ds => ds
def Src.ok (src : Src) (st : Store) : Prop := match src with
  | .its _ => True
  | .lst n ds => st[n]? = some (.lst ds)
abbrev SI := Envr → Store → Res Src
def SrcOk (K : PySem.W.Frag) (src : Src) (J : It) (H0 : Hp) (μ0 : List Addr) : Prop :=
  ∀ (H : Hp) (μ : List Addr) (st : Store), Ext H0 μ0 H μ → RepS K H μ st → src.ok st → ∀ i : Nat,
    (i < src.all.length → J.go i H ∧ ∀ x H', J.yld i H x H' → ∃ d, src.all[i]? = some d ∧ Ext H μ H' μ ∧ RepS K H' μ st ∧ Rep K H' μ d x) ∧ (i = src.all.length → J.stop i H)
def PostI (K : PySem.W.Frag) (H : Hp) (μ : List Addr) (r : Res Src) (R : It → Hp → Prop) (E : XK) : Prop :=
  match r with
  | .ok src st => ∀ J H' μ', Ext H μ H' μ' → RepS K H' μ' st → SrcOk K src J H' μ' → R J H'
  | .exc x st => ∀ c od H' μ', Ext H μ H' μ' → RepX K H' μ' x c od → RepS K H' μ' st → E c od H'
  | .stuck => False
def liftI (K : PySem.W.Frag) (E : XK) (f : SI) : TI := fun σ H R => ∃ ρ st μ, RepE K H μ ρ σ ∧ RepS K H μ st ∧ PostI K H μ (f ρ st) R E
structure LI (X : Cx) (E : XK) (tg iter : Expr) (f : SI) : Prop where
  pi : PI X tg iter (liftI X.K E f)
section
variable {X : Cx} {E : XK} {pos : Pos} {tg : Expr}
theorem piMono {iter : Expr} {t t' : TI} (h : PI X tg iter t) (m : ∀ σ H Q, t' σ H Q → t σ H Q) : PI X tg iter t' := ⟨fun pins s σ H Q I q => h.run pins s σ H Q I (m σ H Q q)⟩
theorem PostI.ext {K : PySem.W.Frag} {H H1 : Hp} {μ μ1 : List Addr} {r : Res Src} {Q : It → Hp → Prop} (x : Ext H μ H1 μ1) (p : PostI K H μ r Q E) : PostI K H1 μ1 r Q E := by
  cases r with
  | ok d st => exact fun J H' μ' e a => p J H' μ' (x.trans e) a
  | exc y st => exact fun c od H' μ' e a b => p c od H' μ' (x.trans e) a b
  | stuck => exact p
theorem Post.bindI {K : PySem.W.Frag} {H : Hp} {μ : List Addr} {r : Res D} {f : D → Store → Res Src} {Q : It → Hp → Prop} (p : PostI K H μ (r.bind f) Q E) : Post K H μ r (Then K H μ fun d st1 H1 μ1 => PostI K H1 μ1 (f d st1) Q E) E := by
  cases r with
  | ok d st => exact fun v H' μ' e a b => ⟨d, st, μ', e, a, b, p.ext e⟩
  | exc y st => exact p
  | stuck => exact p
theorem PostL.bindI {K : PySem.W.Frag} {H : Hp} {μ : List Addr} {r : Res (List D)} {f : List D → Store → Res Src} {Q : It → Hp → Prop} (p : PostI K H μ (r.bind f) Q E) : PostL K H μ r (ThenL K H μ fun d st1 H1 μ1 => PostI K H1 μ1 (f d st1) Q E) E := by
  cases r with
  | ok d st => exact fun v H' μ' e a b => ⟨d, st, μ', e, a, b, p.ext e⟩
  | exc y st => exact p
  | stuck => exact p
/-- a list, a tuple, a text -/
def iAny (K : PySem.W.Frag) (tl : TE) : TI := fun σ H R => tl σ H fun x H1 => (∃ a, x = .ref a ∧ (∃ xs, SqL K H1 a xs) ∧ R (Itl K a) H1) ∨ (∃ a, x = .ref a ∧ (∃ xs, SqT K H1 a xs) ∧ R (Itt K a) H1) ∨ (∃ z, x = .str z ∧ R (Its z) H1)
theorem pi_any {l : Expr} {tl : TE} (hl : PE X l tl) : PI X tg l (iAny X.K tl) := by
  refine ⟨fun pins s σ H R I h => ?_⟩
  refine thn (hl.run pins s σ H _ I h) fun v s1 ⟨x, H1, I1, r1, q1⟩ => ?_
  rcases q1 with ⟨a, e, ⟨xs, hq⟩, q⟩ | ⟨a, e, ⟨xs, hq⟩, q⟩ | ⟨z, e, q⟩
  · subst e
    cases r1
    obtain ⟨its, rv, p, hz⟩ := I1.list hq
    refine wpAny_pyIter_list p.isList ?_
    refine ⟨s1.heap.objs.size, [s1.heap.objs.size], _, _, H1, rfl, I1.kept (t' := s1.toks) fun b o e => Heap.get?_push_of_some _ e, turn_list a _, ⟨_, Heap.get?_push_size _ rfl, rfl, rfl⟩, fun b hb => ?_, q⟩
    have e : b = s1.heap.objs.size := by simpa using hb
    subst e
    exact I1.fpOk (Nat.le_refl _) (I1.hok.fresh (Nat.le_refl _))
  · subst e
    cases r1
    obtain ⟨its, rv, p, hz⟩ := I1.tuple hq
    refine wpAny_pyIter_tuple (show s1.heap.IsTuple a its.toArray from p) ?_
    refine ⟨s1.heap.objs.size, [s1.heap.objs.size], _, _, H1, rfl, I1.kept (t' := s1.toks) fun b o e => Heap.get?_push_of_some _ e, turn_tuple a _, ⟨_, Heap.get?_push_size _ rfl, rfl, rfl⟩, fun b hb => ?_, q⟩
    have e : b = s1.heap.objs.size := by simpa using hb
    subst e
    exact I1.fpOk (Nat.le_refl _) (I1.hok.fresh (Nat.le_refl _))
  · subst e
    obtain ⟨t, rfl⟩ := r1
    cases ha : z.cps.all (· < 128)
    · exact wpAny_pyIter_wide ha (pi_one (tk := s1.toks) I1 _ (turn_str _ z t "str_iterator" (.inr rfl)) ⟨_, Heap.get?_push_size _ rfl, rfl, rfl⟩ q)
    · exact wpAny_pyIter_ascii ha (pi_one (tk := s1.toks) I1 _ (turn_str _ z t "str_ascii_iterator" (.inl rfl)) ⟨_, Heap.get?_push_size _ rfl, rfl, rfl⟩ q)
def chars (z : Str) : List D := z.cps.toList.map fun c => .str ⟨#[c]⟩
def srcOf (d : D) (st : Store) : Option Src := match d with
  | .tup xs => some (.its xs)
  | .rl xs => some (.its xs)
  | .str z => some (.its (chars z))
  | .ref n => match st[n]? with
    | some (.lst xs) => some (.lst n xs)
    | _ => none
  | _ => none
def iSeq (f : SE) : SI := fun ρ st => (f ρ st).bind fun d st => match srcOf d st with
  | some src => .ok src st
  | none => .stuck
theorem src_tup {K : PySem.W.Frag} {H : Hp} {μ : List Addr} {a : Addr} {xs : List D} {vs : List V} (t : TupAt K H μ a vs) (r : Reps K H μ xs vs) : SrcOk K (.its xs) (Itt K a) H μ := fun H1 μ1 st1 x1 s1 _ i =>
  ⟨fun hi => by
    have hv : i < vs.length := by rw [← r.length]; exact hi
    refine ⟨⟨vs, vs[i], (t.ext x1).sq, by simp [hv]⟩, fun y H' ⟨e1, e2⟩ => ?_⟩
    subst e1
    obtain ⟨d, e3, r3⟩ := (r.ext x1).getV (e2 vs (t.ext x1).sq)
    exact ⟨d, e3, .refl _ _, s1, r3⟩, fun hi => ⟨vs, (t.ext x1).sq, by rw [hi, ← r.length]; exact Nat.le_refl _⟩⟩
theorem src_rl {K : PySem.W.Frag} {H : Hp} {μ : List Addr} {a : Addr} {xs : List D} {vs : List V} (t : RlAt K H μ a vs) (r : Reps K H μ xs vs) : SrcOk K (.its xs) (Itl K a) H μ := fun H1 μ1 st1 x1 s1 _ i =>
  ⟨fun hi => by
    have hv : i < vs.length := by rw [← r.length]; exact hi
    refine ⟨⟨vs, vs[i], (t.ext x1).sq, by simp [hv]⟩, fun y H' ⟨e1, e2⟩ => ?_⟩
    subst e1
    obtain ⟨d, e3, r3⟩ := (r.ext x1).getV (e2 vs (t.ext x1).sq)
    exact ⟨d, e3, .refl _ _, s1, r3⟩, fun hi => ⟨vs, (t.ext x1).sq, by rw [hi, ← r.length]; exact Nat.le_refl _⟩⟩
theorem src_lst {K : PySem.W.Frag} {H : Hp} {μ : List Addr} {n : Nat} {a : Addr} {xs : List D} (e : μ[n]? = some a) : SrcOk K (.lst n xs) (Itl K a) H μ := fun H1 μ1 st1 x1 s1 ok i => by
  obtain ⟨a', f1, vs, g1, r⟩ := s1.at (show st1[n]? = some (.lst xs) from ok)
  rw [x1.get e] at f1; cases f1
  refine ⟨fun hi => ?_, fun hi => ⟨vs, .of g1, by rw [hi, ← r.length]; exact Nat.le_refl _⟩⟩
  have hv : i < vs.length := by rw [← r.length]; exact hi
  refine ⟨⟨vs, vs[i], .of g1, by simp [hv]⟩, fun y H' ⟨e1, e2⟩ => ?_⟩
  subst e1
  obtain ⟨d, e3, r3⟩ := r.getV (e2 vs (.of g1))
  exact ⟨d, e3, .refl _ _, s1, r3⟩
theorem src_str {K : PySem.W.Frag} {H : Hp} {μ : List Addr} (z : Str) : SrcOk K (.its (chars z)) (Its z) H μ := fun H1 μ1 st1 x1 s1 _ i => by
  have hl : (chars z).length = z.cps.size := by simp [chars]
  refine ⟨fun hi => ?_, fun hi => ?_⟩
  · have hi' : i < z.cps.size := by rw [← hl]; exact hi
    refine ⟨hi', fun y H' ⟨e1, c, e2, e3⟩ => ?_⟩
    subst e1 e3
    refine ⟨.str ⟨#[c]⟩, ?_, .refl _ _, s1, .str _⟩
    show (chars z)[i]? = _
    unfold chars
    rw [List.getElem?_map, Array.getElem?_toList, e2]
    rfl
  · have : i = (chars z).length := hi
    show z.cps.size ≤ i
    omega
theorem li_seq {l : Expr} {f : SE} (h : LE X E l f) : LI X E tg l (iSeq f) := ⟨piMono (pi_any h.pe) fun σ H R ⟨ρ, st, μ, re, rs, p⟩ => by
  refine ⟨ρ, st, μ, re, rs, (Post.bindI p).mono fun v H1 ⟨d, st1, μ1, x1, r1, s1, p1⟩ => ?_⟩
  dsimp only at p1
  split at p1
  · rename_i src q
    cases d with
    | tup xs =>
      cases q
      cases r1 with
      | tup t r => exact .inr (.inl ⟨_, rfl, ⟨_, t.sq⟩, p1 _ H1 μ1 (.refl _ _) s1 (src_tup t r)⟩)
    | rl xs =>
      cases q
      cases r1 with
      | rl t r => exact .inl ⟨_, rfl, ⟨_, t.sq⟩, p1 _ H1 μ1 (.refl _ _) s1 (src_rl t r)⟩
    | str z =>
      cases q
      cases r1
      exact .inr (.inr ⟨z, rfl, p1 _ H1 μ1 (.refl _ _) s1 (src_str z)⟩)
    | ref n =>
      cases r1 with
      | ref e1 =>
        simp only [srcOf] at q
        split at q
        · rename_i xs q1
          cases q
          obtain ⟨a, f1, ws, g1, r⟩ := s1.at q1
          rw [e1] at f1; cases f1
          exact .inl ⟨_, rfl, ⟨_, .of g1⟩, p1 _ H1 μ1 (.refl _ _) s1 (src_lst e1)⟩
        · cases q
    | _ => cases q
  · exact p1.elim⟩
/-- range -/
def rangeD (lo : Int) (n : Nat) : List D := (List.range n).map fun k => .int (lo + (k : Nat))
theorem src_rng {K : PySem.W.Frag} {H : Hp} {μ : List Addr} (lo : Int) (n : Nat) : SrcOk K (.its (rangeD lo n)) (Itr lo n) H μ := fun H1 μ1 st1 x1 s1 _ i => by
  have hl : (rangeD lo n).length = n := by simp [rangeD]
  refine ⟨fun hi => ?_, fun hi => ?_⟩
  · have hi' : i < n := by rw [← hl]; exact hi
    refine ⟨hi', fun y H' ⟨e1, e2⟩ => ?_⟩
    subst e1 e2
    refine ⟨.int (lo + i), ?_, .refl _ _, s1, .int _⟩
    show (rangeD lo n)[i]? = _
    unfold rangeD
    rw [List.getElem?_map, List.getElem?_range hi']
    rfl
  · have : i = (rangeD lo n).length := hi
    show n ≤ i
    omega
def iRange1 (f : SL) : SI := fun ρ st => (f ρ st).bind fun ds st => match ds with
  | [.int j] => if -(2 ^ 62) ≤ j ∧ j < 2 ^ 62 then .ok (.its (rangeD 0 j.toNat)) st else .stuck
  | _ => .stuck
theorem li_range1 {a : Expr} {f : SL} {p : Pos} (hg : Gl X "range") (hm : X.mg "range" = none) (ha : LL X E [a] f) (hs : starEach [a] X.env = [(false, eval a X.env)] := by rfl) : LI X E tg (.Call (.Name "range" p) [a] [] pos) (iRange1 f) :=
  ⟨piMono (pi_range1 hg hm ha.pa hs) fun σ H R ⟨ρ, st, μ, re, rs, p⟩ => by
    refine ⟨ρ, st, μ, re, rs, (PostL.bindI p).mono fun vs H1 ⟨ds, st1, μ1, x1, r1, s1, p1⟩ => ?_⟩
    dsimp only at p1
    split at p1
    · split at p1
      · rename_i hz
        obtain ⟨v, rfl, r⟩ := reps1 r1
        cases r
        exact ⟨_, rfl, hz.1, hz.2, p1 _ H1 μ1 (.refl _ _) s1 (src_rng 0 _)⟩
      · exact p1.elim
    · exact p1.elim⟩
def iRange2 (f : SL) : SI := fun ρ st => (f ρ st).bind fun ds st => match ds with
  | [.int i, .int j] => if -(2 ^ 62) ≤ i ∧ i < 2 ^ 62 ∧ -(2 ^ 62) ≤ j ∧ j < 2 ^ 62 then .ok (.its (rangeD i (j - i).toNat)) st else .stuck
  | _ => .stuck
theorem li_range2 {a b : Expr} {f : SL} {p : Pos} (hg : Gl X "range") (hm : X.mg "range" = none) (ha : LL X E [a, b] f) (hs : starEach [a, b] X.env = [(false, eval a X.env), (false, eval b X.env)] := by rfl) (hs2 : starEach [b] X.env = [(false, eval b X.env)] := by rfl) : LI X E tg (.Call (.Name "range" p) [a, b] [] pos) (iRange2 f) :=
  ⟨piMono (pi_range2 hg hm ha.pa hs hs2) fun σ H R ⟨ρ, st, μ, re, rs, p⟩ => by
    refine ⟨ρ, st, μ, re, rs, (PostL.bindI p).mono fun vs H1 ⟨ds, st1, μ1, x1, r1, s1, p1⟩ => ?_⟩
    dsimp only at p1
    split at p1
    · split at p1
      · rename_i hz
        obtain ⟨v, w', rfl, r, r'⟩ := reps2 r1
        cases r; cases r'
        exact ⟨_, _, rfl, hz, p1 _ H1 μ1 (.refl _ _) s1 (src_rng _ _)⟩
      · exact p1.elim
    · exact p1.elim⟩

/-! ### for -/
open Classical in
noncomputable def forL (src : Src) (t : Tgt) (body : SS) : List D → Envr → Store → SRes
  | [], ρ, st => if src.ok st then .nx ρ st else .stuck
  | d :: ds, ρ, st => if src.ok st then match t.ev d ρ with
    | some ρ1 => match body ρ1 st with
      | .nx ρ2 st2 => forL src t body ds ρ2 st2
      | .ct ρ2 st2 => forL src t body ds ρ2 st2
      | .bk ρ2 st2 => .nx ρ2 st2
      | r => r
    | none => .stuck
    else .stuck
noncomputable def xFor (f : SI) (t : Tgt) (body : SS) : SS := fun ρ st => (f ρ st).thn fun src st => forL src t body src.all ρ st
theorem PostI.thn {K : PySem.W.Frag} {H : Hp} {μ : List Addr} {r : Res Src} {f : Src → Store → SRes} {De : Ends} (p : PostS K H μ (r.thn f) De E) :
    PostI K H μ r (fun J H1 => ∃ src st1 μ1, Ext H μ H1 μ1 ∧ RepS K H1 μ1 st1 ∧ SrcOk K src J H1 μ1 ∧ PostS K H1 μ1 (f src st1) De E) E := by
  cases r with
  | ok d st => exact fun J H' μ' e b so => ⟨d, st, μ', e, b, so, PostS.ext e p⟩
  | exc y st => exact p
  | stuck => exact p
theorem PostI.mono {K : PySem.W.Frag} {H : Hp} {μ : List Addr} {r : Res Src} {Q Q' : It → Hp → Prop} (p : PostI K H μ r Q E) (h : ∀ v H', Q v H' → Q' v H') : PostI K H μ r Q' E := by
  cases r with
  | ok d st => exact fun J H' μ' e b so => h J H' (p J H' μ' e b so)
  | exc y st => exact p
  | stuck => exact p
theorem ls_for {iter : Expr} {body : List Stmt} {f : SI} {t : Tgt} {g : SS} (hp : PassesOwn (model X.prog X.w) X.A X.env X.xe) (hc : X.calm = true) (hi : LI X E tg iter f) (ht : LTg X tg t) (hb : LSs X E body g)
    (hs : ∀ x, foldedSetIterable iter X.env x = pure x := by intro _; rfl) : LS X E (.For tg iter body [] pos) (xFor f t g) :=
  ⟨psMono (ps_for hp hc hi.pi ht.pg hb.pss hs) fun De σ H ⟨ρ, st, μ, re, rs, p⟩ => by
    refine ⟨ρ, st, μ, re, rs, (PostI.thn p).mono fun J H1 ⟨src, st1, μ1, x1, s1, so, p1⟩ => ?_⟩
    refine ⟨fun i m σ' H' => ∃ ρ' st' μ', Ext H1 μ1 H' μ' ∧ RepE X.K H' μ' ρ' σ' ∧ RepS X.K H' μ' st' ∧ m = src.all.length - i ∧ i ≤ src.all.length ∧ PostS X.K H' μ' (forL src t g (src.all.drop i) ρ' st') De E,
      ⟨_, ρ, st1, μ1, .refl _ _, re.ext x1, s1, rfl, Nat.zero_le _, by rw [List.drop_zero]; exact p1⟩, ?_⟩
    rintro i m σ2 H2 ⟨ρ2, st2, μ2, x2, re2, s2, rfl, hi, p2⟩
    by_cases hlt : i < src.all.length
    · rw [List.drop_eq_getElem_cons hlt] at p2
      simp only [forL] at p2
      split at p2
      · rename_i ok
        obtain ⟨h1, h2⟩ := (so H2 μ2 st2 x2 s2 ok i).1 hlt
        refine .inr ⟨h1, fun σ' H' => ∃ ρ' st' μ', Ext H1 μ1 H' μ' ∧ RepE X.K H' μ' ρ' σ' ∧ RepS X.K H' μ' st' ∧ PostS X.K H' μ' (forL src t g (src.all.drop (i + 1)) ρ' st') De E,
          fun σ' H' ⟨ρ', st', μ', a, b, c, d⟩ => ⟨src.all.length - (i + 1), by omega, ρ', st', μ', a, b, c, rfl, hlt, d⟩, fun x H3 hy => ?_⟩
        obtain ⟨d, ed, x3, s3, r3⟩ := h2 x H3 hy
        have ed' : src.all[i] = d := by rw [List.getElem?_eq_getElem hlt] at ed; exact Option.some.inj ed
        rw [ed'] at p2
        split at p2
        · rename_i ρ3 e3
          refine Tgt.ok t r3 (re2.ext x3) e3 fun σ4 re4 _ => ⟨ρ3, st2, μ2, re4, s3, ?_⟩
          have p3 := PostS.ext x3 p2
          cases e : g ρ3 st2 with
          | nx ρ5 st5 => rw [e] at p3; exact fun σ' H' μ' a b c => ⟨ρ5, st5, μ', (x2.trans x3).trans a, b, c, PostS.ext a p3⟩
          | ct ρ5 st5 => rw [e] at p3; exact fun σ' H' μ' a b c => ⟨ρ5, st5, μ', (x2.trans x3).trans a, b, c, PostS.ext a p3⟩
          | bk ρ5 st5 => rw [e] at p3; exact p3
          | rt d st5 => rw [e] at p3; exact p3
          | exc y st5 => rw [e] at p3; exact p3
          | stuck => rw [e] at p3; exact p3
        · exact p2.elim
      · exact p2.elim
    · have e : i = src.all.length := by omega
      subst e
      rw [List.drop_length] at p2
      simp only [forL] at p2
      split at p2
      · rename_i ok
        exact .inl ⟨(so H2 μ2 st2 x2 s2 ok _).2 rfl, p2 σ2 H2 μ2 (.refl _ _) re2 s2⟩
      · exact p2.elim⟩

/-! ### while, of so many turns at most -/
def whileL (t : SB) (body : SS) : Nat → SS
  | 0 => fun _ _ => .stuck
  | n + 1 => fun ρ st => (t ρ st).thn fun b st => if b = true then match body ρ st with
      | .nx ρ2 st2 => whileL t body n ρ2 st2
      | .ct ρ2 st2 => whileL t body n ρ2 st2
      | .bk ρ2 st2 => .nx ρ2 st2
      | r => r
    else .nx ρ st
theorem ls_while {c : Expr} {body : List Stmt} {t : SB} {g : SS} (n : Nat) (hp : PassesOwn (model X.prog X.w) X.A X.env X.xe) (hc : LB X E c t) (hb : LSs X E body g) : LS X E (.While c body [] pos) (whileL t g n) :=
  ⟨psMono (ps_while hp hc.pt hb.pss) fun De σ H ⟨ρ, st, μ, re, rs, p⟩ => by
    refine ⟨fun m σ' H' => ∃ ρ' st' μ', RepE X.K H' μ' ρ' σ' ∧ RepS X.K H' μ' st' ∧ PostS X.K H' μ' (whileL t g m ρ' st') De E, ⟨n, ρ, st, μ, re, rs, p⟩, ?_⟩
    rintro m σ1 H1 ⟨ρ1, st1, μ1, re1, s1, p1⟩
    cases m with
    | zero => exact p1.elim
    | succ m =>
      refine ⟨ρ1, st1, μ1, re1, s1, (PostB.thn p1).mono fun b H2 ⟨st2, μ2, x2, s2, p2⟩ => ?_⟩
      cases b with
      | false => rw [if_neg Bool.false_ne_true] at p2 ⊢; exact p2 σ1 H2 μ2 (.refl _ _) (re1.ext x2) s2
      | true =>
        rw [if_pos rfl] at p2 ⊢
        refine ⟨fun σ' H' => ∃ ρ' st' μ', RepE X.K H' μ' ρ' σ' ∧ RepS X.K H' μ' st' ∧ PostS X.K H' μ' (whileL t g m ρ' st') De E, fun σ' H' h => ⟨m, Nat.lt_succ_self m, h⟩, ρ1, st2, μ2, re1.ext x2, s2, ?_⟩
        cases e : g ρ1 st2 with
        | nx ρ5 st5 => rw [e] at p2; exact fun σ' H' μ' a b c => ⟨ρ5, st5, μ', b, c, PostS.ext a p2⟩
        | ct ρ5 st5 => rw [e] at p2; exact fun σ' H' μ' a b c => ⟨ρ5, st5, μ', b, c, PostS.ext a p2⟩
        | bk ρ5 st5 => rw [e] at p2; exact p2
        | rt d st5 => rw [e] at p2; exact p2
        | exc y st5 => rw [e] at p2; exact p2
        | stuck => rw [e] at p2; exact p2⟩

/-! ### comprehensions -/
def Res.calm {α : Type} (r : Res α) : Res α := match r with
  | .exc _ _ => .stuck
  | r => r
theorem calm_ok {α : Type} {a : α} {st : Store} : (Res.ok a st).calm = .ok a st := rfl
theorem Post.calm {K : PySem.W.Frag} {H : Hp} {μ : List Addr} {r : Res D} {Q : VK} (p : Post K H μ r.calm Q E) : Post K H μ r Q E0 := by
  cases r with
  | ok d st => exact p
  | exc y st => exact p.elim
  | stuck => exact p
theorem PostB.calm {K : PySem.W.Frag} {H : Hp} {μ : List Addr} {r : Res Bool} {Q : Bool → Hp → Prop} (p : PostB K H μ r.calm Q E) : PostB K H μ r Q E0 := by
  cases r with
  | ok d st => exact p
  | exc y st => exact p.elim
  | stuck => exact p
open Classical in
noncomputable def lcL (src : Src) (t : Tgt) (test : SB) (elt : SE) (ρ : Envr) : List D → List D → Store → Res (List D)
  | [], acc, st => if src.ok st then .ok acc st else .stuck
  | d :: ds, acc, st => if src.ok st then match t.ev d ρ with
    | some ρ1 => (test ρ1 st).calm.bind fun b st => if b = true then (elt ρ1 st).calm.bind fun y st => if acc.length < sizeLine then lcL src t test elt ρ ds (acc ++ [y]) st else .stuck else lcL src t test elt ρ ds acc st
    | none => .stuck
    else .stuck
def wipeE (ρ : Envr) : List Nat → Envr
  | [] => ρ
  | v :: vs => (wipeE ρ vs).set v none
theorem RepE.wipe {K : PySem.W.Frag} {H : Hp} {μ : List Addr} {ρ : Envr} {σ : L2.St} (h : RepE K H μ ρ σ) : ∀ vs, RepE K H μ (wipeE ρ vs) (L2.wipe σ vs)
  | [] => h
  | v :: vs => by
    obtain ⟨h1, h2⟩ := h.wipe vs
    refine ⟨by simp [wipeE, L2.wipe, h1], fun i d e => ?_⟩
    simp only [wipeE, L2.wipe] at e ⊢
    by_cases hv : v = i
    · subst hv
      by_cases hl : v < (wipeE ρ vs).length
      · rw [List.getElem?_set_self hl] at e; cases e
      · rw [List.getElem?_eq_none (by simpa using hl)] at e; cases e
    · rw [List.getElem?_set_ne hv] at e
      rw [List.getElem?_set_ne hv]
      exact h2 i d e
def sYes : SB := fun _ st => .ok true st
noncomputable def sLc (f : SI) (t : Tgt) (test : SB) (elt : SE) (vs : List Nat) : SE := fun ρ st => (f ρ st).bind fun src st => (lcL src t test elt (wipeE ρ vs) src.all [] st).bind fun ds st => .ok (.ref st.length) (st ++ [.lst ds])
structure LTs (X : Cx) (E : XK) (ifs : List Expr) (f : SB) : Prop where
  pts : PTs X ifs (liftB X.K E f)
theorem lts_yes : LTs X E [] sYes := ⟨⟨fun pins s σ H Q I ⟨ρ, st, μ, re, rs, p⟩ => pts_nil.run pins s σ H Q I (p H μ (.refl _ _) rs)⟩⟩
theorem lts_one {c : Expr} {t : SB} (h : LB X E c t) : LTs X E [c] t := ⟨pts_one h.pt⟩
theorem PostI.bind {K : PySem.W.Frag} {H : Hp} {μ : List Addr} {r : Res Src} {f : Src → Store → Res D} {Q : VK} (p : Post K H μ (r.bind f) Q E) :
    PostI K H μ r (fun J H1 => ∃ src st1 μ1, Ext H μ H1 μ1 ∧ RepS K H1 μ1 st1 ∧ SrcOk K src J H1 μ1 ∧ Post K H1 μ1 (f src st1) Q E) E := by
  cases r with
  | ok d st => exact fun J H' μ' e b so => ⟨d, st, μ', e, b, so, p.ext e⟩
  | exc y st => exact p
  | stuck => exact p
theorem wipe_wipe (σ : L2.St) (vs : List Nat) : L2.wipe (L2.wipe σ vs) vs = L2.wipe σ vs := by
  have pt : ∀ (ws : List Nat) (τ : L2.St) (i : Nat), (L2.wipe τ ws)[i]? = if i ∈ ws ∧ i < τ.length then some none else τ[i]? := by
    intro ws
    induction ws with
    | nil => intro τ i; simp [L2.wipe]
    | cons w ws ih =>
      intro τ i
      simp only [L2.wipe]
      by_cases hw : w = i
      · subst hw
        by_cases hl : w < τ.length
        · rw [List.getElem?_set_self (by rw [L2.wipe_length]; exact hl), if_pos ⟨by simp, hl⟩]
        · rw [List.getElem?_eq_none (by rw [List.length_set, L2.wipe_length]; omega), if_neg (fun h => hl h.2), List.getElem?_eq_none (by omega)]
      · rw [List.getElem?_set_ne hw, ih]
        have : (i ∈ w :: ws) ↔ i ∈ ws := by simp [Ne.symm hw]
        simp only [this]
  apply List.ext_getElem?
  intro i
  rw [pt vs (L2.wipe σ vs) i, L2.wipe_length, pt vs σ i]
  split <;> rfl
theorem lift_lc {K : PySem.W.Frag} {f : SI} {t : Tgt} {test : SB} {elt : SE} {vs : List Nat} {σ : L2.St} {H : Hp} {Q : VK} (ht : ∀ i ∈ t.slots, i ∈ vs) (h : lift K E (sLc f t test elt vs) σ H Q) :
    tLc (liftI K E f) (Tgt.rd K t) (liftB K E0 test) (lift K E0 elt) vs σ H Q := by
  obtain ⟨ρ, st, μ, re, rs, p⟩ := h
  refine ⟨ρ, st, μ, re, rs, (PostI.bind p).mono fun J H1 ⟨src, st1, μ1, x1, s1, so, p1⟩ => fun L hL => ?_⟩
  have hLμ : L ∉ μ1 := s1.free hL
  refine ⟨fun i m H' => ∃ st' μ' acc vacc, RepS K H' μ' st' ∧ H' L = some (.lst vacc) ∧ Reps K H' μ' acc vacc ∧ L ∉ μ' ∧ Ext H1 μ1 H' μ' ∧ m = src.all.length - i ∧ i ≤ src.all.length ∧
      Post K H1 μ1 ((lcL src t test elt (wipeE ρ vs) (src.all.drop i) acc st').bind fun ds st => .ok (.ref st.length) (st ++ [.lst ds])) Q E, ?_, ?_⟩
  · refine ⟨_, st1, μ1, [], [], s1.new hL, upd_same, .nil, hLμ, .new hL, rfl, Nat.zero_le _, ?_⟩
    rw [List.drop_zero]
    exact p1
  · rintro i m H2 ⟨st2, μ2, acc, vacc, s2, hl2, ra, hn2, x2, rfl, hi, p2⟩
    by_cases hlt : i < src.all.length
    · rw [List.drop_eq_getElem_cons hlt] at p2
      simp only [lcL] at p2
      by_cases ok : src.ok st2
      · rw [if_pos ok] at p2
        obtain ⟨h1, h2⟩ := (so H2 μ2 st2 x2 s2 ok i).1 hlt
        refine .inr ⟨h1, fun H' => ∃ st' μ' acc vacc, RepS K H' μ' st' ∧ H' L = some (.lst vacc) ∧ Reps K H' μ' acc vacc ∧ L ∉ μ' ∧ Ext H1 μ1 H' μ' ∧
            Post K H1 μ1 ((lcL src t test elt (wipeE ρ vs) (src.all.drop (i + 1)) acc st').bind fun ds st => .ok (.ref st.length) (st ++ [.lst ds])) Q E,
          fun H' ⟨st', μ', acc, vacc, b, c, d, e, g, k⟩ => ⟨src.all.length - (i + 1), by omega, st', μ', acc, vacc, b, c, d, e, g, rfl, hlt, k⟩, fun x H3 hy => ?_⟩
        obtain ⟨d, ed, x3, s3, r3⟩ := h2 x H3 hy
        have ed' : src.all[i] = d := by rw [List.getElem?_eq_getElem hlt] at ed; exact Option.some.inj ed
        rw [ed'] at p2
        have hl3 : H3 L = some (.lst vacc) := x3.keep _ _ hl2 hn2
        have ra3 := ra.ext x3
        cases e3 : t.ev d (wipeE ρ vs) with
        | none => rw [e3] at p2; exact p2.elim
        | some ρ3 =>
          rw [e3] at p2
          dsimp only at p2
          refine Tgt.ok t r3 (((re.ext x1).ext x2).ext x3 |>.wipe vs) e3 fun σ4 re4 w4 => ⟨(w4 vs ht).trans (wipe_wipe σ vs), ?_⟩
          refine ⟨ρ3, st2, μ2, re4, s3, ?_⟩
          cases et : test ρ3 st2 with
          | exc y st5 => rw [et] at p2; exact p2.elim
          | stuck => rw [et] at p2; exact p2.elim
          | ok b st5 =>
            rw [et, calm_ok, bind_ok] at p2
            intro H5 μ5 x5 s5
            have hl5 : H5 L = some (.lst vacc) := x5.keep _ _ hl3 hn2
            have hn5 : L ∉ μ5 := x5.not_mem hl3 hn2
            cases b with
            | false =>
              rw [if_neg Bool.false_ne_true] at p2 ⊢
              exact ⟨st5, μ5, acc, vacc, s5, hl5, ra3.ext x5, hn5, (x2.trans x3).trans x5, p2⟩
            | true =>
              rw [if_pos rfl] at p2 ⊢
              refine ⟨ρ3, st5, μ5, re4.ext x5, s5, ?_⟩
              cases ee : elt ρ3 st5 with
              | exc y st6 => rw [ee] at p2; exact p2.elim
              | stuck => rw [ee] at p2; exact p2.elim
              | ok dy st6 =>
                rw [ee, calm_ok, bind_ok] at p2
                intro y H6 μ6 x6 r6 s6
                have hl6 : H6 L = some (.lst vacc) := x6.keep _ _ hl5 hn5
                have hn6 : L ∉ μ6 := x6.not_mem hl5 hn5
                have ra6 := (ra3.ext x5).ext x6
                by_cases hz : acc.length < sizeLine
                · rw [if_pos hz] at p2
                  refine ⟨vacc, hl6, by rw [← ra6.length]; exact hz, ?_⟩
                  have x16 := ((x2.trans x3).trans x5).trans x6
                  refine ⟨st6, μ6, acc ++ [dy], vacc ++ [y], s6.chg hl6 hn6, upd_same, (ra6.append (.cons r6 .nil)).chg hl6, hn6, ⟨x16.pre, fun b o hb hnb => ?_, fun b hb => ?_⟩, p2⟩
                  · rw [upd_ne (ne_of_none hb hL)]
                    exact x16.keep b o hb hnb
                  · by_cases q : b = L
                    · rw [q]; exact hL
                    · rw [upd_ne q] at hb; exact x16.live b hb
                · rw [if_neg hz] at p2; exact p2.elim
      · rw [if_neg ok] at p2; exact p2.elim
    · have e : i = src.all.length := by omega
      subst e
      rw [List.drop_length] at p2
      simp only [lcL] at p2
      by_cases ok : src.ok st2
      · rw [if_pos ok, bind_ok] at p2
        refine .inl ⟨(so H2 μ2 st2 x2 s2 ok _).2 rfl, ?_⟩
        -- the new list enters the store
        refine p2 (.ref L) H2 (μ2 ++ [L]) ⟨?_, x2.keep, x2.live⟩ (.ref (by rw [← s2.len, List.getElem?_append_right (Nat.le_refl _)]; simp)) ?_
        · obtain ⟨m, em, f⟩ := x2.pre
          exact ⟨m ++ [L], by rw [em, List.append_assoc], fun a ha => by
            rcases List.mem_append.mp ha with h | h
            · exact f a h
            · have : a = L := by simpa using h
              rw [this]; exact hL⟩
        · have xe : Ext H2 μ2 H2 (μ2 ++ [L]) → True := fun _ => trivial
          refine ⟨by simp [s2.len], ?_, fun i b u e f => ?_⟩
          · rw [List.nodup_append]
            refine ⟨s2.nd, by simp, fun x hx y hy => ?_⟩
            have : y = L := by simpa using hy
            subst this
            rintro rfl
            exact hn2 hx
          · by_cases hi : i < μ2.length
            · rw [List.getElem?_append_left hi] at e
              rw [List.getElem?_append_left (by rw [← s2.len]; exact hi)] at f
              exact (s2.obj i b u e f).more hl2
            · have hj : i < (μ2 ++ [L]).length := (List.getElem?_eq_some_iff.mp e).1
              have : i = μ2.length := by simp at hj; omega
              subst this
              rw [List.getElem?_append_right (Nat.le_refl _)] at e
              rw [s2.len, List.getElem?_append_right (Nat.le_refl _)] at f
              simp at e f
              subst e f
              exact ⟨vacc, hl2, ra.more hl2⟩
      · rw [if_neg ok] at p2; exact p2.elim
theorem le_lc {elt iter : Expr} {ifs : List Expr} {scope : Scope} {own : List (Str × Nat)} {vs : List Nat} {f : SI} {t : Tgt} {test : SB} {g : SE} (hc : X.calm = true) (hN : X.N.Nodup) (hi : LI X E tg iter f) (ok : BlkOk X.N X.env.scope scope own) (hs : ∀ i ∈ t.slots, i ∈ vs)
    (hg : ∀ (s : Shared) (H : Hp) (C : Addr) (cl : List (Str × Addr)) (fp : List Addr), LTg (X.blk s H scope (compEnvC scope cl C X.env) fp) tg t)
    (ht : ∀ (s : Shared) (H : Hp) (C : Addr) (cl : List (Str × Addr)) (fp : List Addr), LTs (X.blk s H scope (compEnvC scope cl C X.env) fp) E0 ifs test)
    (he : ∀ (s : Shared) (H : Hp) (C : Addr) (cl : List (Str × Addr)) (fp : List Addr), LE (X.blk s H scope (compEnvC scope cl C X.env) fp) E0 elt g) (hs2 : ∀ x, foldedSetIterable iter X.env x = pure x := by intro _; rfl) (hv : own.map (·.2) = vs := by rfl) :
    LE X E (.ListComp elt [⟨tg, iter, ifs, 0⟩] scope pos) (sLc f t test g vs) :=
  ⟨peMono (pe_lc hc hN hi.pi ok (fun s H C cl fp => (hg s H C cl fp).pg) (fun s H C cl fp => (ht s H C cl fp).pts) (fun s H C cl fp => (he s H C cl fp).pe) hs2) fun σ H Q h => by rw [hv]; exact lift_lc hs h⟩
theorem ls_setLc (i : Nat) {y : Str} {py spos : Pos} {elt iter : Expr} {ifs : List Expr} {scope : Scope} {own : List (Str × Nat)} {vs : List Nat} {f : SI} {t : Tgt} {test : SB} {g : SE} (hc : X.calm = true) (hN : X.N.Nodup) (hi : LI X E tg iter f) (ok : BlkOk X.N X.env.scope scope own) (hs : ∀ i ∈ t.slots, i ∈ vs)
    (hg : ∀ (s : Shared) (H : Hp) (C : Addr) (cl : List (Str × Addr)) (fp : List Addr), LTg (X.blk s H scope (compEnvC scope cl C X.env) fp) tg t)
    (ht : ∀ (s : Shared) (H : Hp) (C : Addr) (cl : List (Str × Addr)) (fp : List Addr), LTs (X.blk s H scope (compEnvC scope cl C X.env) fp) E0 ifs test)
    (he : ∀ (s : Shared) (H : Hp) (C : Addr) (cl : List (Str × Addr)) (fp : List Addr), LE (X.blk s H scope (compEnvC scope cl C X.env) fp) E0 elt g) (hy : X.N[i]? = some y := by rfl) (hyl : X.env.scope.names.lookup y = some .local := by rfl)
    (hsw : swapsWith (.ListComp elt [⟨tg, iter, ifs, 0⟩] scope pos) (some (.Name y py)) spos.line X.env = pure true := by exact sw_true rfl rfl rfl (by decide +kernel)) (hs2 : ∀ x, foldedSetIterable iter X.env x = pure x := by intro _; rfl) (hv : own.map (·.2) = vs := by rfl) :
    LS X E (.Assign [.Name y py] (.ListComp elt [⟨tg, iter, ifs, 0⟩] scope pos) spos) (xAsg (.nm i) (sLc f t test g vs)) :=
  ⟨psMono (ps_setLc hc hN hy hyl hsw hi.pi ok (fun s H C cl fp => (hg s H C cl fp).pg) (fun s H C cl fp => (ht s H C cl fp).pts) (fun s H C cl fp => (he s H C cl fp).pe) hs2) fun De σ H h => by
    obtain ⟨ρ, st, μ, re, rs, p⟩ := lift_xAsg h
    have h2 := lift_lc hs ⟨ρ, st, μ, re, rs, p⟩
    simp only [Tgt.rd] at h2
    rw [hv]
    exact h2⟩

/-! ### a def -/
noncomputable def fnBody (n : Nat) (body : SS) : FL := fun ds st => swept st (match body (ds.map some ++ List.replicate (n - ds.length) none) st with
  | .rt d st' => .ok d st'
  | .nx _ st' => .ok .non st'
  | .exc x st' => .exc x st'
  | _ => .stuck)
theorem repE_start {K : PySem.W.Frag} {H : Hp} {μ : List Addr} {ds : List D} {vs : List V} {N : List Str} (r : Reps K H μ ds vs) : RepE K H μ (ds.map some ++ List.replicate (N.length - ds.length) none) (L2.start N vs) := by
  unfold L2.start
  refine ⟨by simp [r.length], fun i d e => ?_⟩
  by_cases hi : i < ds.length
  · rw [List.getElem?_append_left (by simpa using hi), List.getElem?_map] at e
    cases q : ds[i]? with
    | none => rw [q] at e; cases e
    | some d' =>
      rw [q] at e
      have e' : d' = d := by simpa using e
      subst e'
      obtain ⟨v, e1, r1⟩ := r.get q
      exact ⟨v, by rw [List.getElem?_append_left (by rw [List.length_map, ← r.length]; exact hi), List.getElem?_map, e1]; rfl, r1⟩
  · rw [List.getElem?_append_right (by simpa using hi), List.getElem?_replicate] at e
    split at e <;> cases e
theorem fn_ok {P : Program} {w : World} {K : PySem.W.Frag} {mg : Str → Option Value} {base : Heap} {x qual : Str} {st : Stmt} {f : Addr} {fd : FuncData} {N ps : List Str} {k : Nat} {body : SS} (F : Fun K x qual st f fd) (S : FnScope N ps (defScope st))
    (hb : ∀ (cdv : Value) (A : Around) (outer : List Env) (s : Shared) (H : Hp) (E : XK), Room k (A.deeper (envOfC qual (defScope st) s.heap.objs.size f cdv)) → LSs (cxOf CX0 P w K mg base N qual (defScope st) f cdv A outer s H E).nox E0 (defBody st) body) :
    FnOk P w K mg base CX0 (k + 1) f fd ps (spOf K ps.length (fnBody N.length body)) :=
  F.ok S (spOf_len rfl) fun cdv A outer s H vs Q E hr ⟨hl, ds, st1, μ, r, rs, p⟩ => ⟨_, (hb cdv A outer s H E hr).pss, _, st1, μ, repE_start r, rs, by
    have p1 := post_swept rs p
    revert p1
    cases body (ds.map some ++ List.replicate (N.length - ds.length) none) st1 with
    | nx ρ st' => exact fun p1 σ' H' μ' a b c => p1 .non H' μ' a .non c
    | rt d st' => exact fun p1 => p1
    | bk ρ st' => exact fun p1 => p1.elim
    | ct ρ st' => exact fun p1 => p1.elim
    | exc y st' => exact fun p1 => p1
    | stuck => exact fun p1 => p1⟩
end
end L3

namespace L3
open PySem PySem.Spec PyProof.Rows L2

section
variable {X : Cx} {E : XK} {pos : Pos}
/-! ### a test, the store swept behind it -/
open Classical in
noncomputable def sweptB (st : Store) (r : Res Bool) : Res Bool := match r with
  | .ok d st' => if st.length ≤ st'.length ∧ ∀ (i : Nat) (o : SO), i < st.length → st'[i]? = some o → st[i]? = some o ∨ o.low st.length = true then .ok d (st'.take st.length) else .ok d st'
  | r => r
noncomputable def sSwpB (f : SB) : SB := fun ρ st => sweptB st (f ρ st)
theorem lb_swp {e : Expr} {f : SB} (h : LB X E e f) : LB X E e (sSwpB f) := ⟨ptMono h.pt fun σ H Q ⟨ρ, st, μ, re, rs, p⟩ => ⟨ρ, st, μ, re, rs, by
  unfold sSwpB at p
  cases e : f ρ st with
  | ok d st' =>
    rw [e] at p
    unfold sweptB at p
    simp only at p
    split at p
    · rename_i hc
      intro H' μ' x s'
      obtain ⟨x2, s2⟩ := rs.sweep x s' hc.2 hc.1
      exact p H' μ x2 s2
    · exact p
  | exc y st' => rw [e] at p; exact p
  | stuck => rw [e] at p; exact p⟩⟩

/-! ### defs by their names -/
def HasFn (P : Program) (w : World) (K : PySem.W.Frag) (mg : Str → Option Value) (base : Heap) (x : Str) (lvl : Nat) (ps : List Str) (G : FL) : Prop :=
  ∃ f fd, FnOk P w K mg base CX0 lvl f fd ps (spOf K ps.length G) ∧ mg x = some (.ref f) ∧ PySem.W.keepIn K (.ref f) = true ∧ Binds K fd ps []
theorem le_fn {x : Str} {p : Pos} {e : Expr} {es : List Expr} {k : Nat} {ps : List Str} {G : FL} {g : SL} (F : HasFn X.prog X.w X.K X.mg X.base x k ps G) (hr : Room k X.A) (hg : Gl X x)
    (ha : LL X E0 (e :: es) g) (hl : LenIs g ps.length) (hdb : (x == ("__debug__" : Str)) = false := by decide) (he : starEach (e :: es) X.env = (false, eval e X.env) :: starEach es X.env := by rfl) (hpl : (backTo pos (starEach es X.env)).any (·.1) = false := by rfl) :
    LE X E0 (.Call (.Name x p) (e :: es) [] pos) (sCB G g) := by
  obtain ⟨f, fd, F, hm, hk, hb⟩ := F
  exact le_call F hr hg hm hk hb pass0 ha hl hdb he hpl
theorem le_fn0 {x : Str} {p : Pos} {k : Nat} {G : FL} (F : HasFn X.prog X.w X.K X.mg X.base x k [] G) (hr : Room k X.A) (hg : Gl X x) (hdb : (x == ("__debug__" : Str)) = false := by decide) :
    LE X E0 (.Call (.Name x p) [] [] pos) (sCB G sNil) := by
  obtain ⟨f, fd, F, hm, hk, hb⟩ := F
  exact ⟨peMono (pe_call0 F hr hg hm hk hb .nil pass0 hdb) fun σ H Q ⟨ρ, st, μ, re, rs, p⟩ => ⟨rfl, [], st, μ, .nil, rs, p⟩⟩
/-- keywords: the values in the call's order, taken in the parameters' order -/
def permL {α : Type} (pm : List Nat) (xs : List α) : List α := pm.filterMap fun i => xs[i]?
def permC {α : Type} (na nb : Nat) (pm : List Nat) (us ws : List α) : List α := if us.length = na ∧ ws.length = nb then permL pm (us ++ ws) else []
def sCBk (G : FL) (pm : List Nat) (f g : SL) : SE := fun ρ st => (f ρ st).bind fun ds st => (g ρ st).bind fun es st => G (permL pm (ds ++ es)) st
theorem permL_rel {α β : Type} {R : α → β → Prop} : ∀ (pm : List Nat) {xs : List α} {ys : List β}, (∀ i : Nat, (xs[i]? = none ∧ ys[i]? = none) ∨ ∃ a b, xs[i]? = some a ∧ ys[i]? = some b ∧ R a b) → Paired R (permL pm xs) (permL pm ys)
  | [], _, _, _ => .nil
  | i :: pm, xs, ys, h => by
    unfold permL
    rcases h i with ⟨h1, h2⟩ | ⟨a, b, h1, h2, r⟩
    · rw [List.filterMap_cons_none h1, List.filterMap_cons_none h2]; exact permL_rel pm h
    · rw [List.filterMap_cons_some h1, List.filterMap_cons_some h2]; exact .cons r (permL_rel pm h)
theorem Reps.paired {K : PySem.W.Frag} {H : Hp} {μ : List Addr} : ∀ {ds : List D} {vs : List V}, Paired (Rep K H μ) ds vs → Reps K H μ ds vs
  | _, _, .nil => .nil
  | _, _, .cons r t => .cons r (Reps.paired t)
theorem Reps.perm {K : PySem.W.Frag} {H : Hp} {μ : List Addr} {ds : List D} {vs : List V} (r : Reps K H μ ds vs) (pm : List Nat) : Reps K H μ (permL pm ds) (permL pm vs) :=
  Reps.paired (permL_rel pm fun i => by
    by_cases hi : i < ds.length
    · obtain ⟨v, e, q⟩ := r.get (List.getElem?_eq_getElem hi)
      exact .inr ⟨_, v, List.getElem?_eq_getElem hi, e, q⟩
    · exact .inl ⟨List.getElem?_eq_none (by omega), List.getElem?_eq_none (by rw [← r.length]; omega)⟩)
def HasFnK (P : Program) (w : World) (K : PySem.W.Frag) (mg : Str → Option Value) (base : Heap) (x : Str) (lvl : Nat) (ps : List Str) (G : FL) (na : Nat) (ks : List Str) (pm : List Nat) : Prop :=
  ∃ f fd, FnOk P w K mg base CX0 lvl f fd ps (spOf K ps.length G) ∧ mg x = some (.ref f) ∧ PySem.W.keepIn K (.ref f) = true ∧ KBinds K fd ps ks (permC na ks.length pm) (permC na ks.length pm)
theorem permC_vals {na nb : Nat} {pm : List Nat} {vs zs : List V} {us ws : List Value} (r1 : Vals vs us) (r2 : Vals zs ws) : Vals (permC na nb pm vs zs) (permC na nb pm us ws) := by
  unfold permC
  rw [r1.length, r2.length]
  split
  · have r := r1.append r2
    exact permL_rel pm fun i => by
      by_cases hi : i < (vs ++ zs).length
      · obtain ⟨v, e, q⟩ := r.get (List.getElem?_eq_getElem hi)
        exact .inr ⟨_, v, List.getElem?_eq_getElem hi, e, q⟩
      · exact .inl ⟨List.getElem?_eq_none (by omega), List.getElem?_eq_none (by rw [← r.length]; omega)⟩
  · exact .nil
theorem fun_kbinds {K : PySem.W.Frag} {x qual : Str} {st : Stmt} {f : Addr} {fd : FuncData} {ps ks : List Str} {na : Nat} {pm : List Nat} (F : Fun K x qual st f fd) (hp : ps ≠ [])
    (h : ∀ (kV doc pmv : Value) (an : Option Addr) (cdv ct : Value) (us ws : List Value), us.length = na → ws.length = ks.length → bindArgs (PySem.W.fnOf x qual (defArgs st) (defBody st) (defScope st) .none kV doc pmv an cdv ct) ⟨us, ks.zip ws⟩ = pure (ps.zip (permL pm (us ++ ws)))) :
    KBinds K fd ps ks (permC na ks.length pm) (permC na ks.length pm) := by
  obtain ⟨oc, od, kV, doc, pmv, an, cdv, ct, osl, rfl, lk, hcd⟩ := F.ex
  refine ⟨fun s us ws _ hl => ?_, fun r1 r2 => permC_vals r1 r2⟩
  unfold permC at hl ⊢
  split at hl
  · rename_i hc
    rw [if_pos hc]
    exact .of_eq (h kV doc pmv an cdv ct us ws hc.1 hc.2)
  · exact (hp (List.eq_nil_of_length_eq_zero hl.symm)).elim
theorem lift_cbk {K : PySem.W.Frag} {G : FL} {na nb n : Nat} {pm : List Nat} {f g : SL} {σ : L2.St} {H : Hp} {Q : VK} {E' : XK} (hl : LenIs f na) (hl2 : LenIs g nb) (hn : ∀ xs : List V, xs.length = na + nb → (permL pm xs).length = n) (h : lift K E0 (sCBk G pm f g) σ H Q) :
    tCallK (spOf K n G) (permC na nb pm) E' (liftL K E0 f) (liftL K E0 g) σ H Q := by
  obtain ⟨ρ, st, μ, re, rs, p⟩ := h
  refine ⟨ρ, st, μ, re, rs, ((PostL.bind p).len fun ds st' e => hl _ _ _ _ e).mono fun vs H1 ⟨en, ds, st1, μ1, x1, r1, s1, p1⟩ => ?_⟩
  refine ⟨ρ, st1, μ1, re.ext x1, s1, ((PostL.bind p1).len fun ds st' e => hl2 _ _ _ _ e).mono fun zs H2 ⟨en2, es, st2, μ2, x2, r2, s2, p2⟩ => ?_⟩
  have e : permC na nb pm vs zs = permL pm (vs ++ zs) := by unfold permC; rw [if_pos ⟨en, en2⟩]
  rw [e]
  exact ⟨hn _ (by rw [List.length_append, en, en2]), _, st2, μ2, ((r1.ext x2).append r2).perm pm, s2, p2⟩
theorem le_fnk {x : Str} {p : Pos} {e : Expr} {es : List Expr} {kws : List Keyword} {k na : Nat} {ps ks : List Str} {pm : List Nat} {G : FL} {f g : SL} (F : HasFnK X.prog X.w X.K X.mg X.base x k ps G na ks pm) (hr : Room k X.A) (hg : Gl X x)
    (ha : LL X E0 (e :: es) f) (hkw : LK X E0 kws g) (hl : LenIs f na) (hl2 : LenIs g ks.length) (hn : ∀ xs : List V, xs.length = na + ks.length → (permL pm xs).length = ps.length)
    (hall : (backToKw pos (keywordEach kws X.env)).all (·.1.isSome) = true := by rfl) (hks : (backToKw pos (keywordEach kws X.env)).filterMap (·.1) = ks := by rfl)
    (hdb : (x == ("__debug__" : Str)) = false := by decide) (he : starEach (e :: es) X.env = (false, eval e X.env) :: starEach es X.env := by rfl)
    (hpl : ((backTo pos (starEach (e :: es) X.env)).any (·.1) || (backToKw pos (keywordEach kws X.env)).any (·.1.isNone)) = false := by rfl) :
    LE X E0 (.Call (.Name x p) (e :: es) kws pos) (sCBk G pm f g) := by
  obtain ⟨fa, fd, F, hm, hk, hb⟩ := F
  exact ⟨peMono (pe_callK F hr hg hm hk hb pass0 ha.pa hkw.pk hall hks hdb he hpl) fun σ H Q h => lift_cbk hl hl2 hn h⟩
theorem pe_callK0 {x : Str} {p : Pos} {kws : List Keyword} {CX : CXT} {k : Nat} {f : Addr} {fd : FuncData} {ps ks : List Str} {sp : Sp} {tk : TA} {g : List Value → List Value → List Value} {gV : List V → List V → List V} (F : FnOk X.prog X.w X.K X.mg X.base CX k f fd ps sp) (hr : Room k X.A) (hg : Gl X x) (hm : X.mg x = some (.ref f)) (hk : PySem.W.keepIn X.K (.ref f) = true) (hb : KBinds X.K fd ps ks g gV) (hx : Passes CX X E)
    (hkw : PK X kws tk) (hall : (backToKw pos (keywordEach kws X.env)).all (·.1.isSome) = true) (hks : (backToKw pos (keywordEach kws X.env)).filterMap (·.1) = ks)
    (hdb : (x == ("__debug__" : Str)) = false) (hpl : ((backTo pos (starEach [] X.env)).any (·.1) || (backToKw pos (keywordEach kws X.env)).any (·.1.isNone)) = false) :
    PE X (.Call (.Name x p) [] kws pos) (tCallK sp gV E tNil tk) := by
  refine ⟨fun pins s σ H Q I h => ?_⟩
  refine wpAny_Call_Name_kw (ld_glob I hg hm ?_ hdb)
  refine PySem.W.callWith_KW0 (h₀ := X.base) I.ok.mod.kin hk hall (thn (hkw.run pos pins s σ H _ I h) fun ws s2 ⟨zs, H2, I2, rz, q2⟩ => ⟨I2.kIn, ?_⟩) hpl
  rw [hks]
  exact run_fnk (us := []) F hr hb hx I2 .nil rz q2
theorem le_fnk0 {x : Str} {p : Pos} {kws : List Keyword} {k : Nat} {ps ks : List Str} {pm : List Nat} {G : FL} {g : SL} (F : HasFnK X.prog X.w X.K X.mg X.base x k ps G 0 ks pm) (hr : Room k X.A) (hg : Gl X x)
    (hkw : LK X E0 kws g) (hl2 : LenIs g ks.length) (hn : ∀ xs : List V, xs.length = 0 + ks.length → (permL pm xs).length = ps.length)
    (hall : (backToKw pos (keywordEach kws X.env)).all (·.1.isSome) = true := by rfl) (hks : (backToKw pos (keywordEach kws X.env)).filterMap (·.1) = ks := by rfl)
    (hdb : (x == ("__debug__" : Str)) = false := by decide) (hpl : ((backTo pos (starEach [] X.env)).any (·.1) || (backToKw pos (keywordEach kws X.env)).any (·.1.isNone)) = false := by rfl) :
    LE X E0 (.Call (.Name x p) [] kws pos) (sCBk G pm sNil g) := by
  obtain ⟨fa, fd, F, hm, hk, hb⟩ := F
  exact ⟨peMono (pe_callK0 F hr hg hm hk hb pass0 hkw.pk hall hks hdb hpl) fun σ H Q h => by
    have h1 := lift_cbk (E' := E0) lenIs_nil hl2 hn h
    obtain ⟨ρ, st, μ, re, rs, p⟩ := h1
    exact p [] H μ (.refl _ _) .nil rs⟩

/-! ### built-ins' values -/
theorem bt_abs : bootBuiltins "abs" = some (.builtin "abs") := by decide +kernel
theorem bt_len : bootBuiltins "len" = some (.builtin "len") := by decide +kernel
theorem bt_max : bootBuiltins "max" = some (.builtin "max") := by decide +kernel
theorem bt_min : bootBuiltins "min" = some (.builtin "min") := by decide +kernel
theorem bt_sum : bootBuiltins "sum" = some (.builtin "sum") := by decide +kernel
theorem bt_sorted : bootBuiltins "sorted" = some (.builtin "sorted") := by decide +kernel
theorem bt_int : bootBuiltins "int" = some (.type "int") := by decide +kernel
theorem bt_str : bootBuiltins "str" = some (.type "str") := by decide +kernel
theorem bt_tuple : bootBuiltins "tuple" = some (.type "tuple") := by decide +kernel
theorem bt_list : bootBuiltins "list" = some (.type "list") := by decide +kernel

/-! ### three at once -/
theorem reps3 {K : PySem.W.Frag} {H : Hp} {μ : List Addr} {d d' d2 : D} {vs : List V} (r : Reps K H μ [d, d', d2] vs) : ∃ v w z, vs = [v, w, z] ∧ Rep K H μ d v ∧ Rep K H μ d' w ∧ Rep K H μ d2 z := by
  cases r with
  | cons r t =>
    obtain ⟨w, z, e, r2, r3⟩ := reps2 t
    subst e
    exact ⟨_, _, _, rfl, r, r2, r3⟩
theorem ls_par3 (i j l : Nat) {x y z : Str} {a b c : Expr} {f : SL} {px py pz pt : Pos} {kt k2 : Nat} {pt2 : Pos} (hc : X.calm = true) (hN : X.N.Nodup) (ha : LL X E [a, b, c] f) (hi : X.N[i]? = some x := by rfl) (hj : X.N[j]? = some y := by rfl) (hl : X.N[l]? = some z := by rfl) (hij : i ≠ j := by decide) (hil : i ≠ l := by decide) (hjl : j ≠ l := by decide)
    (hx : X.env.scope.names.lookup x = some .local := by rfl) (hy : X.env.scope.names.lookup y = some .local := by rfl) (hz : X.env.scope.names.lookup z = some .local := by rfl)
    (hw : swappedStores [.Tuple [.Name x px, .Name y py, .Name z pz] kt pt] (.Tuple [a, b, c] k2 pt2) X.env = pure (some [x, y, z]) := by rfl)
    (hs : swapsWithSole [.Tuple [.Name x px, .Name y py, .Name z pz] kt pt] (.Tuple [a, b, c] k2 pt2) pos.line X.env = pure false := by rfl) :
    LS X E (.Assign [.Tuple [.Name x px, .Name y py, .Name z pz] kt pt] (.Tuple [a, b, c] k2 pt2) pos) (xPar3 i j l f) := ⟨psMono (ps_par3 hc hN hi hj hl hij hil hjl hx hy hz ha.pa hw hs) fun D σ H ⟨ρ, st, μ, re, rs, p⟩ =>
  ⟨ρ, st, μ, re, rs, (PostL.thn p).mono fun vs H1 ⟨ds, st1, μ1, x1, r1, s1, p1⟩ => by
    dsimp only at p1
    split at p1
    · obtain ⟨v, w', z', rfl, r2, r3, r4⟩ := reps3 r1
      exact ⟨v, w', z', rfl, p1 _ H1 μ1 (.refl _ _) ((((re.ext x1).set r2).set r3).set r4) s1⟩
    · exact p1.elim⟩⟩

/-! ### o[i] op= e, o a list -/
theorem pg_list : PGet X (rIxL X.K) := by
  intro pins s σ H x y v u Q I rx ry h
  obtain ⟨p, xs, i, z, rfl, rfl, hq, he, q⟩ := h
  cases rx
  obtain ⟨t, rfl⟩ := ry
  obtain ⟨its, r, pl, hz⟩ := I.list hq
  obtain ⟨j, h1, h2, h3, h4, h5⟩ := atI_get he
  obtain ⟨w', ew, rw'⟩ := r.get h2
  have hl := r.length
  have hn := line63
  have fin : EP X pins σ Q w' s := ⟨z, H, I, rw', q⟩
  by_cases h0 : 0 ≤ i
  · have hj : i.toNat = j := by
      rw [seqIndex_of h0 h5] at h1
      exact Option.some.inj h1
    exact wpAny_getItem_list pl.isList h0 (by omega) (by rw [hj]; simpa using ew) fin
  · have hj : (i + (its.toArray.size : Int)).toNat = j := by
      rw [seqIndex_neg (by omega) h4] at h1
      rw [List.size_toArray, ← hl]
      exact Option.some.inj h1
    exact wpAny_getItem_list_neg pl.isList (by omega) (by rw [List.size_toArray] <;> omega) (by omega) (by rw [hj]; simpa using ew) fin
def xAugL (F : F2) (fo fi fe : SE) : SS := fun ρ st => (fo ρ st).thn fun o st => (fi ρ st).thn fun i st => match o, i with
  | .ref n, .int k => match st[n]? with
    | some (.lst xs) => match L2.atI xs k with
      | some x => (fe ρ st).thn fun y st => (F x y st).thn fun z st => match st[n]? with
        | some (.lst ys) => match ixN ys.length k with
          | some j => .nx ρ (st.set n (.lst (ys.set j z)))
          | none => .stuck
        | _ => .stuck
      | none => .stuck
    | _ => .stuck
  | _, _ => .stuck
theorem ls_augL {o i e : Expr} {fo fi fe : SE} {F : F2} {op : Operator} {tpos : Pos} (hp : IpL X E op F) (ho : LE X E o fo) (hi : LE X E i fi) (he : LE X E e fe)
    (ha : ∀ ov iv new, augStore i ov iv new = (do holding [new, ov, iv] (setItem ov iv new); release [new, ov, iv] []; pure .next) := by intros; rfl) : LS X E (.AugAssign (.Subscript o i tpos) op e pos) (xAugL F fo fi fe) :=
  ⟨psMono (ps_augS ho.pe hi.pe pg_list he.pe hp set_list ha) fun De σ H ⟨ρ, st, μ, re, rs, p⟩ =>
    ⟨ρ, st, μ, re, rs, (Post.thn p).mono fun ov H1 ⟨do_, st1, μ1, x1, r1, s1, p1⟩ => ⟨ρ, st1, μ1, re.ext x1, s1, (Post.thn p1).mono fun iv H2 ⟨di, st2, μ2, x2, r2, s2, p2⟩ => by
      cases do_ with
      | ref n => cases di with
       | int k =>
        dsimp only at p2
        split at p2
        · rename_i xs q1
          split at p2
          · rename_i x ex
            cases r2
            have r1' := r1.ext x2
            cases r1' with
            | @ref _ a e2 =>
              obtain ⟨a', f1, ws, g1, rr⟩ := s2.at q1
              rw [e2] at f1; cases f1
              obtain ⟨z, ez, rz⟩ := rr.atI ex
              refine ⟨_, ws, k, z, rfl, rfl, .of g1, ez, ρ, st2, μ2, (re.ext x1).ext x2, s2, (Post.thn p2).mono fun y H4 ⟨dy, st4, μ4, x4, r4, s4, p4⟩ => ?_⟩
              refine ⟨x, dy, st4, μ4, rz.ext x4, r4, s4, (Post.thn p4).mono fun w5 H5 ⟨dz, st5, μ5, x5, r5, s5, p5⟩ => ?_⟩
              dsimp only at p5
              split at p5
              · rename_i ys q5
                split at p5
                · rename_i j ej
                  obtain ⟨a', f1, ws5, g5, rr5⟩ := s5.at q5
                  rw [x5.get (x4.get e2)] at f1; cases f1
                  have e5 := x5.get (x4.get e2)
                  have xw : Ext H5 μ5 (upd H5 a (.lst (ws5.set j w5))) μ5 := .write (List.mem_of_getElem? e5)
                  exact ⟨_, _, _, j, rfl, rfl, g5, by rw [← rr5.length]; exact ej, p5 σ _ μ5 xw (((((re.ext x1).ext x2).ext x4).ext x5).ext xw) (s5.write e5 ⟨_, upd_same, (rr5.set r5 j).ext xw⟩)⟩
                · exact p5.elim
              · exact p5.elim
          · exact p2.elim
        · exact p2.elim
       | _ => exact (show False from p2).elim
      | _ => (cases di <;> exact (show False from p2).elim)⟩⟩⟩
/-! ### xs[::-1] of a list -/
def vRev : F1 := fun d st => match d with
  | .ref n => match st[n]? with
    | some (.lst xs) => .ok (.ref st.length) (st ++ [.lst xs.reverse])
    | _ => .stuck
  | _ => .stuck
theorem le_rev {e : Expr} {f : SE} {k : Nat} {p1 p2 p3 : Pos} (he : LE X E e f) : LE X E (.Subscript e (.Slice none none (some (.UnaryOp .USub (.Constant (.int 1) k p1) p2)) p3) pos) (s1 vRev f) :=
  ⟨peMono (pe_revL he.pe) fun σ H Q h => by
    obtain ⟨ρ, st, μ, re, rs, p⟩ := lift_s1 h
    refine ⟨ρ, st, μ, re, rs, p.mono fun v H1 ⟨d, st1, μ1, r1, s1, p1⟩ => ?_⟩
    cases d with
    | ref n =>
      simp only [vRev] at p1
      split at p1
      · rename_i xs q1
        obtain ⟨a, f1, ws, g1, r⟩ := s1.at q1
        cases r1 with
        | ref e1 =>
          rw [e1] at f1; cases f1
          exact ⟨_, ws, rfl, .of g1, fun b hb => post_lst p1 r.reverse s1 hb⟩
      · exact p1.elim
    | _ => exact (show False from p1).elim⟩
end
end L3
namespace L3
open PySem PySem.Spec PyProof.Rows L2
theorem permL_len {α β : Type} (pm : List Nat) {xs : List α} {ys : List β} (h : xs.length = ys.length) : (permL pm xs).length = (permL pm ys).length := by
  induction pm with
  | nil => rfl
  | cons i pm ih =>
    unfold permL at ih ⊢
    by_cases hi : i < xs.length
    · rw [List.filterMap_cons_some (List.getElem?_eq_getElem hi), List.filterMap_cons_some (List.getElem?_eq_getElem (h ▸ hi)), List.length_cons, List.length_cons, ih]
    · rw [List.filterMap_cons_none (List.getElem?_eq_none (by omega)), List.filterMap_cons_none (List.getElem?_eq_none (by omega)), ih]
theorem lenOk (na nb : Nat) (pm : List Nat) {n : Nat} (h : (permL pm (List.range (na + nb))).length = n) : ∀ xs : List V, xs.length = na + nb → (permL pm xs).length = n := fun xs e => by
  rw [permL_len pm (ys := List.range (na + nb)) (by rw [e, List.length_range])]; exact h
/-- a def as the top has left it -/
def FnAt (K : PySem.W.Frag) (x : Str) (st : Stmt) : Prop := ∃ f fd, Fun K x x st f fd ∧ PySem.W.nsIn K mainGlobals x = some (some (.ref f))
theorem FnAt.mk {K : PySem.W.Frag} {x : Str} {st : Stmt} {f : Addr} {oc : Value} {od an : Option Addr} {osl : Array (Option Value)} {kV doc pm cdv ct : Value} (a : PySem.W.nsIn K mainGlobals x = some (some (.ref f)))
    (l : K.lookup f = some ⟨oc, od, .func (PySem.W.fnOf x x (defArgs st) (defBody st) (defScope st) .none kV doc pm an cdv ct), osl⟩)
    (c : PySem.W.codeIn K cdv x = true) (k : PySem.W.keepIn K (.ref f) = true) : FnAt K x st := ⟨f, _, fun_mk l c k, a⟩
theorem FnAt.get {K : PySem.W.Frag} {x : Str} {st : Stmt} {h : Heap} {mg : Str → Option Value} (F : FnAt K x st) (X : K.In h) (G : h.Ns mainGlobals mg) : ∃ f fd, Fun K x x st f fd ∧ mg x = some (.ref f) := by
  obtain ⟨f, fd, F, a⟩ := F
  exact ⟨f, fd, F, PySem.W.mg_of X G a⟩
theorem law_sp {K : PySem.W.Frag} {F : FL} (ht : ∀ ns : List Int, ns.length ≤ 63 → ∃ st, F [.rl (ns.map D.int)] [] = .ok (.bl true) st) {vs : List V} {H : Hp} {Q : VK} {E : XK}
    (h : ∃ (a : Addr) (ns : List Int), vs = [.ref a] ∧ SqL K H a (ns.map V.int) ∧ ns.length ≤ 63 ∧ Only H ∧ ∀ H1, Q (.bl true) H1) : spOf K 1 F vs H Q E := by
  obtain ⟨a, ns, rfl, hS, hl, hO, q⟩ := h
  obtain ⟨st, e⟩ := ht ns hl
  refine ⟨rfl, _, [], [], .cons (.rl ?_ (reps_ints ns)) .nil, ⟨rfl, .nil, fun i a o h => by simp at h⟩, ?_⟩
  · rcases hS with (h | h) | h
    · rcases hO a with h2 | ⟨o, xs, h2⟩
      · rw [h2] at h; cases h
      · rw [h2] at h; cases h
    · exact .inl ⟨h, by simp⟩
    · exact .inr h
  · rw [e]
    intro v H' μ' x r s
    cases r
    exact q H'
end L3

/-! L3h: dicts by whole numbers and texts. -/
namespace L3
open PySem PySem.Spec PyProof.Rows L2
section
variable {X : Cx} {E : XK} {pos : Pos}
def keyOf : D → Option Key
  | .int i => some (.inl i)
  | .str z => some (.inr z)
  | _ => none
theorem rep_key {K : PySem.W.Frag} {H : Hp} {μ : List Addr} {d : D} {k : Key} {v : V} (r : Rep K H μ d v) (e : keyOf d = some k) : v = kV k := by
  cases r <;> simp [keyOf] at e
  · subst e; rfl
  · subst e; rfl
def lookD (kvs : List (Key × D)) (k : Key) : Option D := (kvs.find? fun p => decide (p.1 = k)).map fun p => p.2
def setD (kvs : List (Key × D)) (k : Key) (d : D) : List (Key × D) := if (kvs.any fun p => decide (p.1 = k)) = true then kvs.map (fun p => if p.1 = k then (p.1, d) else p) else kvs ++ [(k, d)]
theorem RepF.len {κ : Type} {K : PySem.W.Frag} {H : Hp} {μ : List Addr} : ∀ {ds : List (κ × D)} {vs : List (κ × V)}, RepF K H μ ds vs → ds.length = vs.length
  | _, _, .nil => rfl
  | _, _, .cons _ t => congrArg (· + 1) (RepF.len t)
theorem RepF.look {K : PySem.W.Frag} {H : Hp} {μ : List Addr} {k : Key} : ∀ {ds : List (Key × D)} {vs : List (Key × V)}, RepF K H μ ds vs → (∀ d, lookD ds k = some d → ∃ v, valV vs k = some v ∧ Rep K H μ d v) ∧ (lookD ds k = none → valV vs k = none)
  | _, _, .nil => ⟨fun d e => by simp [lookD] at e, fun _ => rfl⟩
  | _, _, .cons (k := j) (d := d0) (v := v0) r t => by
    have ih := RepF.look (k := k) t
    by_cases h : j = k
    · subst h
      refine ⟨fun d e => ⟨v0, valV_pos rfl, ?_⟩, fun e => by simp [lookD] at e⟩
      have : d0 = d := by simpa [lookD] using e
      rw [← this]; exact r
    · refine ⟨fun d e => ?_, fun e => ?_⟩
      · rw [valV_neg h]; exact ih.1 d (by simpa [lookD, h] using e)
      · rw [valV_neg h]; exact ih.2 (by simpa [lookD, h] using e)
theorem RepF.any {K : PySem.W.Frag} {H : Hp} {μ : List Addr} {k : Key} : ∀ {ds : List (Key × D)} {vs : List (Key × V)}, RepF K H μ ds vs → (ds.any fun p => decide (p.1 = k)) = (vs.any fun p => decide (p.1 = k))
  | _, _, .nil => rfl
  | _, _, .cons _ t => by simp only [List.any_cons]; rw [RepF.any t]
theorem RepF.repl {K : PySem.W.Frag} {H : Hp} {μ : List Addr} {k : Key} {d : D} {v : V} (r : Rep K H μ d v) : ∀ {ds : List (Key × D)} {vs : List (Key × V)}, RepF K H μ ds vs →
    RepF K H μ (ds.map fun p => if p.1 = k then (p.1, d) else p) (vs.map fun p => if p.1 = k then (p.1, v) else p)
  | _, _, .nil => .nil
  | _, _, .cons (k := j) r1 t => by
    simp only [List.map_cons]
    by_cases h : j = k
    · rw [if_pos h, if_pos h]; exact .cons r (RepF.repl r t)
    · rw [if_neg h, if_neg h]; exact .cons r1 (RepF.repl r t)
theorem RepF.snoc {K : PySem.W.Frag} {H : Hp} {μ : List Addr} {k : Key} {d : D} {v : V} (r : Rep K H μ d v) : ∀ {ds : List (Key × D)} {vs : List (Key × V)}, RepF K H μ ds vs → RepF K H μ (ds ++ [(k, d)]) (vs ++ [(k, v)])
  | _, _, .nil => .cons r .nil
  | _, _, .cons r1 t => .cons r1 (RepF.snoc r t)
theorem RepF.set {K : PySem.W.Frag} {H : Hp} {μ : List Addr} {k : Key} {d : D} {v : V} {ds : List (Key × D)} {vs : List (Key × V)} (h : RepF K H μ ds vs) (r : Rep K H μ d v) : RepF K H μ (setD ds k d) (putK vs k v) := by
  unfold setD putK
  rw [h.any]
  split
  · exact h.repl r
  · exact h.snoc r
def vDix : F2 := fun x y st => match x, keyOf y with
  | .ref n, some k => match st[n]? with
    | some (.dK kvs) => match lookD kvs k with
      | some d => .ok d st
      | none => .stuck
    | _ => .stuck
  | _, _ => .stuck
theorem le_dix {a b : Expr} {f g : SE} (hu : X.A.units + 64 < cLine) (ha : LE X E a f) (hb : LE X E b g) (hs : NoSl b := by intro _ _; rfl) : LE X E (.Subscript a b pos) (s2 vDix f g) :=
  ⟨peMono (pe_dget (by omega) ha.pe hb.pe hs) fun σ H Q h => by
    obtain ⟨ρ, st, μ, re, rs, p⟩ := h
    refine ⟨ρ, st, μ, re, rs, (Post.bind p).mono fun v H1 ⟨d, st1, μ1, x1, r1, s1, p1⟩ => ⟨ρ, st1, μ1, re.ext x1, s1, (Post.bind p1).mono fun u H2 ⟨d2, st2, μ2, x2, r2, s2, p2⟩ => ?_⟩⟩
    unfold vDix at p2
    cases d <;> try exact p2.elim
    rename_i n
    cases q0 : keyOf d2 with
    | none => simp only [q0] at p2; exact p2.elim
    | some k =>
      simp only [q0] at p2
      split at p2
      · rename_i kvs q1
        split at p2
        · rename_i d q2
          have hk := rep_key r2 q0
          obtain ⟨a', f1, ws, g1, rr⟩ := s2.at q1
          obtain ⟨v', e3, r3⟩ := rr.look.1 d q2
          have r1' := r1.ext x2
          cases r1' with
          | ref e2 =>
            rw [e2] at f1; cases f1
            exact ⟨_, v', rfl, .inl ⟨ws, k, .inl g1, hk, e3.symm⟩, p2 v' H2 μ2 (.refl _ _) r3 s2⟩
        · exact p2.elim
      · exact p2.elim⟩
noncomputable def xSetD (fv fo fi : SE) : SS := fun ρ st => (fv ρ st).thn fun v st => (fo ρ st).thn fun o st => (fi ρ st).thn fun i st => match o, keyOf i with
  | .ref n, some k => match st[n]? with
    | some (.dK kvs) => if kvs.length < sizeLine then .nx ρ (st.set n (.dK (setD kvs k v))) else .stuck
    | _ => .stuck
  | _, _ => .stuck
theorem ls_setD {o i e : Expr} {fv fo fi : SE} {tpos : Pos} (hu : X.A.units + 64 < cLine) (hv : LE X E e fv) (ho : LE X E o fo) (hi : LE X E i fi)
    (hs : swapsWith e (some (.Subscript o i tpos)) pos.line X.env = pure false := by rfl) : LS X E (.Assign [.Subscript o i tpos] e pos) (xSetD fv fo fi) :=
  ⟨psMono (ps_dput (by omega) ho.pe hi.pe hv.pe hs) fun De σ H ⟨ρ, st, μ, re, rs, p⟩ =>
    ⟨ρ, st, μ, re, rs, (Post.thn p).mono fun v H1 ⟨dv, st1, μ1, x1, r1, s1, p1⟩ => ⟨ρ, st1, μ1, re.ext x1, s1, (Post.thn p1).mono fun ov H2 ⟨do_, st2, μ2, x2, r2, s2, p2⟩ =>
      ⟨ρ, st2, μ2, (re.ext x1).ext x2, s2, (Post.thn p2).mono fun iv H3 ⟨di, st3, μ3, x3, r3, s3, p3⟩ => by
        cases do_ <;> try exact p3.elim
        rename_i n
        cases q0 : keyOf di with
        | none => simp only [q0] at p3; exact p3.elim
        | some k =>
          simp only [q0] at p3
          split at p3
          · rename_i kvs q1
            split at p3
            · rename_i hz
              have hk := rep_key r3 q0
              obtain ⟨a', f1, ws, g1, rr⟩ := s3.at q1
              have r2' := r2.ext x3
              cases r2' with
              | ref e2 =>
                rw [e2] at f1; cases f1
                have rv := (r1.ext x2).ext x3
                have x : Ext H3 μ3 (upd H3 _ (.dK (putK ws k v))) μ3 := .write (List.mem_of_getElem? e2)
                refine ⟨_, _, rfl, .inl ⟨ws, k, g1, hk, by rw [← rr.len]; exact hz, rfl⟩, p3 σ _ μ3 x ((((re.ext x1).ext x2).ext x3).ext x) (s3.write e2 ⟨_, upd_same, (rr.set rv).ext x⟩)⟩
            · exact p3.elim
          · exact p3.elim⟩⟩⟩⟩
/-! displays -/
structure LP (X : Cx) (E : XK) (pos : Pos) (keys : List (Option Expr)) (values : List Expr) (ks : List Key) (f : SL) : Prop where
  ex : ∃ trs, PPs X pos keys values trs ∧ ∀ σ H (Q : List (V × V) → Hp → Prop), liftL X.K E f σ H (fun vs H' => vs.length = ks.length → Q ((ks.map kV).zip vs) H') → tPairs trs σ H Q
  len : keys.length = ks.length
theorem lp_nil : LP X E pos [] [] [] sNil := ⟨⟨[], pps_nil, fun σ H Q ⟨ρ, st, μ, re, rs, p⟩ => p [] H μ (.refl _ _) .nil rs rfl⟩, rfl⟩
theorem lp_cons {z : Str} {v : Expr} {keys : List (Option Expr)} {values : List Expr} {ks : List Key} {fv : SE} {g : SL} {j : Nat} {p1 : Pos} (hv : LE X E v fv) (hr : LP X E pos keys values ks g) :
    LP X E pos (some (.Constant (.str z) j p1) :: keys) (v :: values) (.inr z :: ks) (sCons fv g) := by
  obtain ⟨⟨trs, h1, h2⟩, h3⟩ := hr
  refine ⟨⟨_, pps_cons (le_str (E := E)).pe hv.pe h1, fun σ H Q ⟨ρ, st, μ, re, rs, p⟩ => ?_⟩, by simp [h3]⟩
  refine ⟨ρ, st, μ, re, rs, fun x H1 μ1 e1 r1 s1 => ?_⟩
  cases r1
  have p1 := Post.bindL (f := fun d st => (g ρ st).bind fun ds st => .ok (d :: ds) st) (p.ext e1)
  refine ⟨ρ, st, μ1, re.ext e1, s1, p1.mono fun y H2 ⟨d, st2, μ2, x2, r2, s2, p2⟩ => ?_⟩
  refine h2 σ H2 _ ⟨ρ, st2, μ2, (re.ext e1).ext x2, s2, (PostL.bindL (f := fun ds st => .ok (d :: ds) st) p2).mono fun vs H3 ⟨ds, st3, μ3, x3, r3, s3, p3⟩ => fun hl => ?_⟩
  exact p3 (y :: vs) H3 μ3 (.refl _ _) (.cons (r2.ext x3) r3) s3 (by simp [hl])
def dictOf (ks : List Key) (ds : List D) : List (Key × D) := (ks.zip ds).foldl (fun acc p => setD acc p.1 p.2) []
theorem RepF.merge {K : PySem.W.Frag} {H : Hp} {μ : List Addr} : ∀ {ks : List Key} {ds : List D} {vs : List V} {ad : List (Key × D)} {av : List (Key × V)}, RepF K H μ ad av → Reps K H μ ds vs →
    RepF K H μ ((ks.zip ds).foldl (fun acc p => setD acc p.1 p.2) ad) (mergeK av (ks.zip vs))
  | [], _, _, _, _, a, _ => by simpa [mergeK] using a
  | _ :: _, _, _, _, _, a, .nil => by simpa [mergeK] using a
  | k :: ks, _, _, _, _, a, .cons r t => by
    have := RepF.merge (ks := ks) (a.set (k := k) r) t
    simpa [mergeK] using this
noncomputable def sDisp (ks : List Key) (f : SL) : SE := fun ρ st => (f ρ (st ++ [.dK []])).bind fun ds st' => match st'[st.length]? with
  | some (.dK []) => if ds.length = ks.length then .ok (.ref st.length) (st'.set st.length (.dK (dictOf ks ds))) else .stuck
  | _ => .stuck
theorem zip_kV : ∀ {ks : List Key} {vs : List V}, (ks.map kV).zip vs = (ks.zip vs).map fun p => (kV p.1, p.2)
  | [], _ => rfl
  | _ :: _, [] => rfl
  | k :: ks, v :: vs => by simp [zip_kV (ks := ks) (vs := vs)]
theorem le_disp {keys : List (Option Expr)} {values : List Expr} {ks : List Key} {f : SL} (h : LP X E pos keys values ks f) (hall : keys.all (·.isSome) = true := by rfl) (hl : keys.length = values.length := by rfl) (h0 : keys ≠ [] := by intro h; cases h) (h15 : keys.length ≤ 15 := by decide) :
    LE X E (.Dict keys values pos) (sDisp ks f) := by
  obtain ⟨⟨trs, h1, h2⟩, h3⟩ := h
  refine ⟨peMono (pe_disp h1 hall hl h0 h15) fun σ H Q ⟨ρ, st, μ, re, rs, p⟩ a ha => h2 σ _ _ ?_⟩
  have x0 : Ext H μ (upd H a (.dK [])) (μ ++ [a]) := .newS ha
  have s0 : RepS X.K (upd H a (.dK [])) (μ ++ [a]) (st ++ [.dK []]) := rs.push ha ⟨[], upd_same, .nil⟩
  have p0 := p.ext x0
  refine ⟨ρ, _, _, re.ext x0, s0, (PostL.bind (f := fun ds st' => match st'[st.length]? with
    | some (.dK []) => if ds.length = ks.length then .ok (.ref st.length) (st'.set st.length (.dK (dictOf ks ds))) else .stuck
    | _ => .stuck) p0).mono fun vs H1 ⟨ds, st1, μ1, x1, r1, s1, q1⟩ hvl => ?_⟩
  have ea : (μ ++ [a])[st.length]? = some a := by rw [← rs.len, List.getElem?_append_right (Nat.le_refl _)]; simp
  have ea1 := x1.get ea
  dsimp only at q1
  split at q1
  · rename_i e1
    split at q1
    · obtain ⟨a', f1, ws, g1, rr⟩ := s1.at e1
      rw [ea1] at f1; cases f1
      cases rr
      refine ⟨g1, (ks.zip vs), zip_kV, ?_, ?_⟩
      · rw [List.length_zip, hvl, Nat.min_self, ← h3]; exact h15
      · have x : Ext H1 μ1 (upd H1 a (.dK (mergeK [] (ks.zip vs)))) μ1 := .write (List.mem_of_getElem? ea1)
        exact q1 (.ref a) _ μ1 x (.ref ea1) (s1.write ea1 ⟨_, upd_same, RepF.merge .nil (r1.ext x)⟩)
    · exact q1.elim
  · exact q1.elim
/-! list.index, whole numbers -/
def mIndex : FM := fun n ds st => match ds, st[n]? with
  | [.int i], some (.lst xs) => match intsOf xs with
    | some ns => match ns.findIdx? fun z => decide (z = i) with
      | some j => .ok (.int (j : Nat)) st
      | none => .stuck
    | none => .stuck
  | _, _ => .stuck
theorem ml_index : MtR X "list.index" (liftM X.K E mIndex) := by
  intro pins s σ H x vs v us Q I rx rvs ⟨n, a, ds, st, μ, hx, e, r, hs, p⟩
  subst hx
  unfold mIndex at p
  split at p
  · rename_i i xs q1
    split at p
    · rename_i ns q2
      split at p
      · rename_i j q3
        obtain ⟨v1, rfl, ri⟩ := reps1 r
        cases ri
        obtain ⟨a', f1, ws, g1, r1⟩ := hs.at q1
        rw [e] at f1; cases f1
        have hx := intsOf_eq q2
        subst hx
        have hw := r1.ints
        subst hw
        obtain ⟨hj, h1, h2⟩ := List.findIdx?_eq_some_iff_getElem.mp q3
        refine mt_index pins s σ H _ _ v us Q I rx rvs ⟨a, ns.map V.int, .int i, j, .int ns[j], rfl, rfl, .of g1, rfl, by simp [flatV], by simp [hj], ?_, fun m z hm hz => ?_, p _ H μ (.refl _ _) (.int _) hs⟩
        · have : ns[j] = i := by simpa using h1
          simp [eqV, this]
        · have hml : m < ns.length := by omega
          have := h2 m hm
          have e3 : z = .int ns[m] := by simpa [hml] using hz.symm
          subst e3
          simpa [eqV] using this
      · exact p.elim
    · exact p.elim
  · exact p.elim
end
end L3

/-! L3i: a tuple turned about. -/
namespace L3
open PySem PySem.Spec PyProof.Rows L2
section
variable {prog : Program} {w : World} {A : Around} {E : Value → Shared → Prop} {s : Shared}
theorem adjust_back (n : Nat) : Builtin.Slice.sliceAdjust none none (-1) (n : Int) = ((n : Int) - 1, -1) := by
  unfold Builtin.Slice.sliceAdjust
  simp
theorem places_back (n : Nat) : Builtin.Slice.slicePlaces ((n : Int) - 1) (-1) (-1) = n := by
  unfold Builtin.Slice.slicePlaces
  have h1 : ¬ ((-1 : Int) > 0) := by omega
  simp only [h1, if_false]
  rw [show (-(-1 : Int)) = 1 from rfl, Int.ediv_one]
  split <;> omega
theorem applied_back {sl : Addr} {vl vu vs : Value} {n : Nat} {Q : Int × Int × Nat → Shared → Prop} (hs : s.heap.IsSliceOf sl vl vu vs) (pl : IsPart vl none) (pu : IsPart vu none) (ps : IsPart vs (some (-1)))
    (h : Q ((n : Int) - 1, -1, n) s) : wpAny (model prog w) A (Builtin.Slice.sliceApplied (.ref sl) (pure (n : Int))) Q E s := by
  obtain ⟨os, hos, hcs, hds⟩ := id hs
  unfold Builtin.Slice.sliceApplied Builtin.Slice.sliceFields
  refine wpAny_bind (wpAny_bind (wpAny_field hos hds (x := vl) rfl (wpAny_bind (wpAny_field hos hds (x := vu) rfl (wpAny_bind (wpAny_field hos hds (x := vs) rfl (wpAny_pure ?_)))))))
  refine wpAny_bind (HT.slicePart_ ps ?_)
  show wpAny _ _ (if ((-1 : Int) == 0) = true then _ else _) _ _ s
  rw [if_neg (by decide)]
  refine wpAny_bind (HT.slicePart_ pl (wpAny_bind (HT.slicePart_ pu (wpAny_bind (wpAny_pure ?_)))))
  show wpAny _ _ (match Builtin.Slice.sliceAdjust none none (-1) (n : Int) with | (lo, hi) => pure (lo, (-1 : Int), Builtin.Slice.slicePlaces lo hi (-1))) _ _ s
  rw [adjust_back n]
  show wpAny _ _ (pure ((n : Int) - 1, (-1 : Int), Builtin.Slice.slicePlaces ((n : Int) - 1) (-1) (-1))) _ _ s
  rw [places_back]
  exact wpAny_pure h
theorem fmap_congr {α β : Type} {f g : α → Option β} : ∀ {xs : List α}, (∀ x ∈ xs, f x = g x) → xs.filterMap f = xs.filterMap g
  | [], _ => rfl
  | x :: xs, h => by simp only [List.filterMap_cons]; rw [h x (by simp), fmap_congr fun y hy => h y (by simp [hy])]
theorem pick_back (its : List Value) : ((List.range its.length).filterMap fun (k : Nat) => its.toArray[((its.length : Int) - 1 + (k : Int) * (-1)).toNat]?).toArray = its.reverse.toArray := by
  have h1 : (List.range its.length).filterMap (fun (k : Nat) => its.toArray[((its.length : Int) - 1 + (k : Int) * (-1)).toNat]?) = (List.range its.length).filterMap (fun (m : Nat) => its.reverse.toArray[(((0 : Nat) : Int) + (m : Int) * 1).toNat]?) := by
    refine fmap_congr fun k hk => ?_
    have hk' : k < its.length := by simpa using hk
    have e1 : ((its.length : Int) - 1 + (k : Int) * (-1)).toNat = its.length - 1 - k := by omega
    have e2 : (((0 : Nat) : Int) + (k : Int) * 1).toNat = k := by omega
    rw [e1, e2, List.getElem?_toArray, List.getElem?_toArray, List.getElem?_reverse hk']
  rw [h1, HT.pick_gen]
  simp [List.take_of_length_le]
theorem getItem_tuple_back {t sl : Addr} {its : List Value} {vl vu vs : Value} {Q : Value → Shared → Prop} (ht : IsTup s.heap t its.toArray) (hs : s.heap.IsSliceOf sl vl vu vs) (pl : IsPart vl none) (pu : IsPart vu none) (ps : IsPart vs (some (-1)))
    (h : Q (.ref s.heap.objs.size) { s with heap := s.heap.push { cls := .type "tuple", data := .seq its.reverse.toArray } }) (hsz : its.length ≤ sizeLine) : wpAny (model prog w) A (getItem (.ref t) (.ref sl)) Q E s := by
  have htake : sizeOk (.seq its.reverse.toArray) := by
    show its.reverse.toArray.size ≤ sizeLine
    rw [List.size_toArray, List.length_reverse]
    exact hsz
  obtain ⟨os, hos, hcs, hds⟩ := id hs
  have hTs : s.TypeIs (.ref sl) "slice" := ⟨os, hos, hcs⟩
  unfold getItem
  try with_reducible refine wpAny_holding ?_
  first | refine wpAny_bind (wpAny_pure ?_) | skip
  refine wpAny_bind (wpAny_sequenceKey ht.typeIs (by decide) ?_)
  refine wpAny_bind (wpAny_callSpecial?_slot (name := Str.ofString "__getitem__") ht.typeIs PyProof.Rows.slot_tuple_getitem
    (wpAny_call_entry PyProof.Rows.slot_tuple_getitem ht.typeIs entry_tuple_getitem ?_ (args_tuple_getitem _ _)))
  show wpAny _ _ (Builtin.Tuple.tupleItemsOf (.ref t) >>= _) _ _ s
  refine wpAny_bind (tupleItemsOf_ ht ?_)
  refine wpAny_bind (wpAny_typeOf hTs ?_)
  rw [if_pos (by decide)]
  refine wpAny_bind (applied_back (n := its.toArray.size) hs pl pu ps ?_)
  have hno : ¬ ((((its.toArray.size : Nat) : Int) - 1 == 0 && (-1 : Int) == 1 && its.toArray.size == its.toArray.size) = true) := by
    intro q
    rw [Bool.and_eq_true, Bool.and_eq_true] at q
    exact absurd q.1.2 (by decide)
  show wpAny _ _ (if (((its.toArray.size : Nat) : Int) - 1 == 0 && (-1 : Int) == 1 && its.toArray.size == its.toArray.size) = true then _ else _) _ _ s
  rw [if_neg hno, List.size_toArray, pick_back]
  first
    | exact wpAny_bind (m := Builtin.Tuple.tupleExact _) (wpAny_newObj_type (wpAny_pure ⟨_, rfl, wpAny_pure h⟩) htake)
    | exact wpAny_bind (m := Builtin.Tuple.tupleExact _) (wpAny_newObj_type (wpAny_bind (wpAny_pure (wpAny_pure ⟨_, rfl, wpAny_pure h⟩))) htake)
    | exact wpAny_bind (wpAny_bind (m := Builtin.Tuple.tupleExact _) (wpAny_newObj_type (wpAny_pure (wpAny_pure ⟨_, rfl, wpAny_pure h⟩)) htake))
    | exact wpAny_bind (wpAny_bind (m := Builtin.Tuple.tupleExact _) (wpAny_newObj_type (wpAny_pure ⟨_, rfl, wpAny_pure h⟩) htake))
end
end L3
namespace L3
open PySem PySem.Spec PyProof.Rows L2
section
variable {X : Cx} {E : XK} {pos : Pos}
/-- x[::-1], a list or a tuple -/
def tBack (K : PySem.W.Frag) (te : TE) : TE := fun σ H Q => te σ H fun x H1 => ∃ a xs, x = .ref a ∧ ((SqL K H1 a xs ∧ ∀ p, H1 p = none → Q (.ref p) (upd H1 p (.lst xs.reverse))) ∨ (SqT K H1 a xs ∧ ∀ p, H1 p = none → Q (.ref p) (upd H1 p (.tup xs.reverse))))
theorem pe_back {e : Expr} {te : TE} {k : Nat} {p1 p2 p3 : Pos} (he : PE X e te) : PE X (.Subscript e (.Slice none none (some (.UnaryOp .USub (.Constant (.int 1) k p1) p2)) p3) pos) (tBack X.K te) := by
  refine ⟨fun pins s σ H Q I hyp => ?_⟩
  refine Subscript_ (thn (he.run pins s σ H _ I hyp) fun v s1 ⟨x, H1, I1, r1, got⟩ => ?_)
  obtain ⟨a, xs, ex, hq⟩ := got
  subst ex
  cases r1
  have hst : PO X (some (.UnaryOp .USub (.Constant (.int 1) k p1) p2)) (tPart (tUn (rU fun i => .int (-i)) (tC (.int 1)))) := po_some (pe_un un_neg pe_int)
  refine wpAny_Slice (thn (po_none.run pins s1 σ H1 (fun o H2 => o = none ∧ H2 = H1) I1 ⟨rfl, rfl⟩) fun vl s2 ⟨l, H2, I2, pl, el, e2⟩ => ?_)
  subst el e2
  refine thn (po_none.run pins s2 σ H2 (fun o H3 => o = none ∧ H3 = H2) I2 ⟨rfl, rfl⟩) fun vu s3 ⟨u, H3, I3, pu, eu, e3⟩ => ?_
  subst eu e3
  refine thn (hst.run pins s3 σ H3 (fun o H4 => o = some (-1) ∧ H4 = H3) I3 ⟨1, rfl, -1, rfl, rfl, rfl⟩) fun vs s4 ⟨o, H4, I4, ps, eo, e4⟩ => ?_
  subst eo e4
  have I5 : Inv X pins σ H4 { s4 with heap := s4.heap.push { cls := .type "slice", data := .fields #[vl, vu, vs] } } := I4.kept (t' := s4.toks) fun b ob q => Heap.get?_push_of_some _ q
  show wpAny (model X.prog X.w) X.A (subscriptTail e (.Slice none none (some (.UnaryOp .USub (.Constant (.int 1) k p1) p2)) p3) (.ref a) (.ref s4.heap.objs.size)) (EP X pins σ Q) X.xe { s4 with heap := s4.heap.push { cls := .type "slice", data := .fields #[vl, vu, vs] } }
  rcases hq with ⟨hx, q⟩ | ⟨hx, q⟩
  · obtain ⟨its, r, ht, hz⟩ := I5.list hx
    have hlen := r.length
    refine tail_any (ops := [.ref a, .ref s4.heap.objs.size]) ht.isList.typeIs (PySem.slot_list_getitem.lookup) ?_ (by with_unfolding_all rfl)
    refine wpAny_getItem_list_slice ht.isList (Heap.IsSliceOf.new _ vl vu vs) pl pu ps (by decide) ?_ (by rw [List.size_toArray]; omega)
    rw [PySem.W.krv_pick]
    refine ⟨.ref _, _, I5.laid (t' := s4.toks) (o := .lst xs.reverse) (fun b ob q => Heap.get?_push_of_some _ q) (Nat.le_refl _) ?_, rfl, q _ (I5.hok.fresh (Nat.le_refl _))⟩
    exact ⟨by rw [List.length_reverse]; exact hz, _, 0, r.reverse, Heap.get?_push_size _ rfl⟩
  · obtain ⟨its, r, ht, hz⟩ := I5.tuple hx
    have hlen := r.length
    refine tail_any (ops := [.ref a, .ref s4.heap.objs.size]) ht.typeIs (PyProof.Rows.slot_tuple_getitem.lookup) ?_ (by with_unfolding_all rfl)
    refine getItem_tuple_back ht (Heap.IsSliceOf.new _ vl vu vs) pl pu ps ?_ (by omega)
    refine ⟨.ref _, _, I5.laid (t' := s4.toks) (o := .tup xs.reverse) (fun b ob q => Heap.get?_push_of_some _ q) (Nat.le_refl _) ?_, rfl, q _ (I5.hok.fresh (Nat.le_refl _))⟩
    exact ⟨by rw [List.length_reverse]; exact hz, _, r.reverse, IsTup.new _ _⟩
def vBack : F1 := fun d st => match d with
  | .ref n => match st[n]? with
    | some (.lst xs) => .ok (.ref st.length) (st ++ [.lst xs.reverse])
    | _ => .stuck
  | .tup xs => .ok (.tup xs.reverse) st
  | _ => .stuck
theorem le_back {e : Expr} {f : SE} {k : Nat} {p1 p2 p3 : Pos} (he : LE X E e f) : LE X E (.Subscript e (.Slice none none (some (.UnaryOp .USub (.Constant (.int 1) k p1) p2)) p3) pos) (s1 vBack f) :=
  ⟨peMono (pe_back he.pe) fun σ H Q h => by
    obtain ⟨ρ, st, μ, re, rs, p⟩ := lift_s1 h
    refine ⟨ρ, st, μ, re, rs, p.mono fun v H1 ⟨d, st1, μ1, r1, s1, p1⟩ => ?_⟩
    cases d with
    | ref n =>
      simp only [vBack] at p1
      split at p1
      · rename_i xs q1
        obtain ⟨a, f1, ws, g1, r⟩ := s1.at q1
        cases r1 with
        | ref e1 =>
          rw [e1] at f1; cases f1
          exact ⟨_, ws, rfl, .inl ⟨.of g1, fun b hb => post_lst p1 r.reverse s1 hb⟩⟩
      · exact p1.elim
    | tup xs =>
      cases r1 with
      | tup t1 rr => exact ⟨_, _, rfl, .inr ⟨t1.sq, fun b hb => post_tup p1 rr.reverse s1 hb⟩⟩
    | _ => exact (show False from p1).elim⟩
end
end L3

/-! L4: reckoning with the layer's functions. -/
namespace L3
open PySem L2
/-! ### low -/
mutual
theorem D.low_mono {m n : Nat} (h : m ≤ n) : ∀ d : D, d.low m = true → d.low n = true
  | .non, _ => rfl
  | .bl _, _ => rfl
  | .int _, _ => rfl
  | .str _, _ => rfl
  | .tup xs, q => D.lows_mono h xs q
  | .rl xs, q => D.lows_mono h xs q
  | .ref k, q => decide_eq_true (Nat.lt_of_lt_of_le (of_decide_eq_true q) h)
theorem D.lows_mono {m n : Nat} (h : m ≤ n) : ∀ ds : List D, D.lows m ds = true → D.lows n ds = true
  | [], _ => rfl
  | d :: ds, q => Bool.and_eq_true_iff.mpr ⟨D.low_mono h d (Bool.and_eq_true_iff.mp q).1, D.lows_mono h ds (Bool.and_eq_true_iff.mp q).2⟩
end
theorem lows_iff {n : Nat} : ∀ {ds : List D}, D.lows n ds = true ↔ ∀ d ∈ ds, d.low n = true
  | [] => by simp [D.lows]
  | d :: ds => by simp [D.lows, lows_iff (ds := ds)]
@[simp] theorem low_non {n : Nat} : D.low n .non = true := by first | rw [D.low] | rw [D.lows]
@[simp] theorem low_bl {n : Nat} {b : Bool} : D.low n (.bl b) = true := by first | rw [D.low] | rw [D.lows]
@[simp] theorem low_int {n : Nat} {b : Int} : D.low n (.int b) = true := by first | rw [D.low] | rw [D.lows]
@[simp] theorem low_str {n : Nat} {b : Str} : D.low n (.str b) = true := by first | rw [D.low] | rw [D.lows]
@[simp] theorem low_tup {n : Nat} {b : List D} : D.low n (.tup b) = D.lows n b := by first | rw [D.low] | rw [D.lows]
@[simp] theorem low_rl {n : Nat} {b : List D} : D.low n (.rl b) = D.lows n b := by first | rw [D.low] | rw [D.lows]
@[simp] theorem low_ref {n k : Nat} : D.low n (.ref k) = decide (k < n) := by first | rw [D.low] | rw [D.lows]
@[simp] theorem lows_nil {n : Nat} : D.lows n [] = true := by first | rw [D.low] | rw [D.lows]
@[simp] theorem lows_cons {n : Nat} {d : D} {ds : List D} : D.lows n (d :: ds) = (D.low n d && D.lows n ds) := by first | rw [D.low] | rw [D.lows]
@[simp] theorem lows_append {n : Nat} {d ds : List D} : D.lows n (d ++ ds) = (D.lows n d && D.lows n ds) := by
  induction d with
  | nil => simp
  | cons x xs ih => simp [ih, Bool.and_assoc]
@[simp] theorem lows_map {α : Type} {n : Nat} {f : α → D} (h : ∀ a, (f a).low n = true) (xs : List α) : D.lows n (xs.map f) = true := lows_iff.mpr fun d hd => by
  obtain ⟨a, _, rfl⟩ := List.mem_map.mp hd
  exact h a
@[simp] theorem lows_ints {n : Nat} (xs : List Int) : D.lows n (xs.map D.int) = true := lows_map (fun _ => rfl) xs

/-! ### swept -/
@[simp] theorem swept_stuck {st : Store} : swept st .stuck = .stuck := (rfl)
theorem swept_len {st st' : Store} {d : D} (h : st'.length = st.length) : swept st (.ok d st') = .ok d st' := by
  unfold swept
  simp only
  split
  · rw [← h, List.take_length]
  · rfl
@[simp] theorem swept_same {st : Store} {d : D} : swept st (.ok d st) = .ok d st := swept_len rfl
theorem swept_more {st st1 more : Store} {d : D} (hl : st1.length = st.length) (hd : d.low 0 = true) (ho : ∀ (i : Nat) (o : SO), st1[i]? = some o → st[i]? = some o ∨ o.low st.length = true) : swept st (.ok d (st1 ++ more)) = .ok d st1 := by
  unfold swept
  simp only
  rw [if_pos]
  · rw [← hl]; simp
  · refine ⟨by simp [hl], D.low_mono (Nat.zero_le _) d hd, fun i o hi e => ?_⟩
    rw [List.getElem?_append_left (by omega)] at e
    exact ho i o e
@[simp] theorem swept_push {st more : Store} {d : D} (hd : d.low 0 = true) : swept st (.ok d (st ++ more)) = .ok d st := swept_more rfl hd fun i o e => .inl e
/-! ### plain steps -/
@[simp] theorem sVar_ev {i : Nat} {ρ : Envr} {st : Store} : sVar i ρ st = match ρ[i]? with
  | some (some d) => .ok d st
  | _ => .stuck := (rfl)
@[simp] theorem sC_ev {d : D} {ρ : Envr} {st : Store} : sC d ρ st = .ok d st := (rfl)
@[simp] theorem sNil_ev {ρ : Envr} {st : Store} : sNil ρ st = .ok [] st := (rfl)
@[simp] theorem sCons_ev {f : SE} {g : SL} {ρ : Envr} {st : Store} : sCons f g ρ st = (f ρ st).bind fun d st => (g ρ st).bind fun ds st => .ok (d :: ds) st := (rfl)
@[simp] theorem sTup_ev {f : SL} {ρ : Envr} {st : Store} : sTup f ρ st = (f ρ st).bind fun ds st => .ok (.tup ds) st := (rfl)
@[simp] theorem sLst_ev {f : SL} {ρ : Envr} {st : Store} : sLst f ρ st = (f ρ st).bind fun ds st => .ok (.ref st.length) (st ++ [.lst ds]) := (rfl)
@[simp] theorem s2_ev {F : F2} {f g : SE} {ρ : Envr} {st : Store} : s2 F f g ρ st = (f ρ st).bind fun x st => (g ρ st).bind fun y st => F x y st := (rfl)
@[simp] theorem s1_ev {F : F1} {f : SE} {ρ : Envr} {st : Store} : s1 F f ρ st = (f ρ st).bind fun x st => F x st := (rfl)
@[simp] theorem sCB_ev {F : FL} {g : SL} {ρ : Envr} {st : Store} : sCB F g ρ st = (g ρ st).bind F := (rfl)
@[simp] theorem sCBk_ev {F : FL} {pm : List Nat} {f g : SL} {ρ : Envr} {st : Store} : sCBk F pm f g ρ st = (f ρ st).bind fun ds st => (g ρ st).bind fun es st => F (permL pm (ds ++ es)) st := (rfl)
@[simp] theorem sBool_bl {f : SE} {ρ : Envr} {st st' : Store} {b : Bool} (h : f ρ st = .ok (.bl b) st') : sBool f ρ st = .ok b st' := by unfold sBool; rw [h]; rfl
@[simp] theorem sBool_ev {f : SE} {ρ : Envr} {st : Store} : sBool f ρ st = (f ρ st).bind fun x st => match x with
  | .bl b => .ok b st
  | _ => .stuck := (rfl)
@[simp] theorem sTruth_ev {f : SE} {ρ : Envr} {st : Store} : sTruth f ρ st = (f ρ st).bind fun x st => match truth x st with
  | some b => .ok b st
  | none => .stuck := (rfl)
@[simp] theorem sNot_ev {t : SB} {ρ : Envr} {st : Store} : sNot t ρ st = (t ρ st).bind fun b st => .ok (!b) st := (rfl)
@[simp] theorem sNotV_ev {t : SB} {ρ : Envr} {st : Store} : sNotV t ρ st = (t ρ st).bind fun b st => .ok (.bl (!b)) st := (rfl)
@[simp] theorem sAnd_ev {t u : SB} {ρ : Envr} {st : Store} : sAnd t u ρ st = (t ρ st).bind fun b st => if b = true then u ρ st else .ok false st := (rfl)
@[simp] theorem sOr_ev {t u : SB} {ρ : Envr} {st : Store} : sOr t u ρ st = (t ρ st).bind fun b st => if b = true then .ok true st else u ρ st := (rfl)
@[simp] theorem sIte_ev {t : SB} {f g : SE} {ρ : Envr} {st : Store} : sIte t f g ρ st = (t ρ st).bind fun b st => if b = true then f ρ st else g ρ st := (rfl)
@[simp] theorem sAndV_ev {f g : SE} {ρ : Envr} {st : Store} : sAndV f g ρ st = (f ρ st).bind fun x st => match truth x st with
  | some true => g ρ st
  | some false => .ok x st
  | none => .stuck := (rfl)
@[simp] theorem sOrV_ev {f g : SE} {ρ : Envr} {st : Store} : sOrV f g ρ st = (f ρ st).bind fun x st => match truth x st with
  | some true => .ok x st
  | some false => g ρ st
  | none => .stuck := (rfl)
@[simp] theorem sChain_ev {F G : F2} {f g h : SE} {ρ : Envr} {st : Store} : sChain F G f g h ρ st = (f ρ st).bind fun x st => (g ρ st).bind fun y st => (F x y st).bind fun z st => match z with
  | .bl true => (h ρ st).bind fun w st => G y w st
  | .bl false => .ok (.bl false) st
  | _ => .stuck := (rfl)
@[simp] theorem sSwp_ev {f : SE} {ρ : Envr} {st : Store} : sSwp f ρ st = swept st (f ρ st) := (rfl)
@[simp] theorem sSwpB_ev {f : SB} {ρ : Envr} {st : Store} : sSwpB f ρ st = sweptB st (f ρ st) := (rfl)
@[simp] theorem sweptB_same {st : Store} {d : Bool} : sweptB st (.ok d st) = .ok d st := by
  unfold sweptB; simp only; split
  · rw [List.take_length]
  · rfl
@[simp] theorem sweptB_push {st more : Store} {d : Bool} : sweptB st (.ok d (st ++ more)) = .ok d st := by
  unfold sweptB; simp only; rw [if_pos]
  · simp
  · refine ⟨by simp, fun i o hi e => ?_⟩
    rw [List.getElem?_append_left hi] at e
    exact .inl e
@[simp] theorem sSlice_ev {F : FS} {f : SE} {g h : SO'} {ρ : Envr} {st : Store} : sSlice F f g h ρ st = (f ρ st).bind fun d st => (g ρ st).bind fun lo st => (h ρ st).bind fun hi st => F d lo hi st := (rfl)
@[simp] theorem sNoPart_ev {ρ : Envr} {st : Store} : sNoPart ρ st = .ok none st := (rfl)
@[simp] theorem sPart_ev {f : SE} {ρ : Envr} {st : Store} : sPart f ρ st = (f ρ st).bind fun d st => match d with
  | .int i => .ok (some i) st
  | _ => .stuck := (rfl)
@[simp] theorem sIsi_ev {T : String} {f : SE} {ρ : Envr} {st : Store} : sIsi T f ρ st = (f ρ st).bind fun d st => match tyName d st with
  | some n => match kitB n T with
    | some b => .ok (.bl b) st
    | none => .stuck
  | none => .stuck := (rfl)
@[simp] theorem sML_ev {F : FM} {f : SE} {g : SL} {ρ : Envr} {st : Store} : sML F f g ρ st = (f ρ st).bind fun d st => match d with
  | .ref n => if isLst st n = true then (g ρ st).bind fun ds st => F n ds st else .stuck
  | _ => .stuck := (rfl)
@[simp] theorem sMT_ev {F : FT} {f : SE} {g : SL} {ρ : Envr} {st : Store} : sMT F f g ρ st = (f ρ st).bind fun d st => match d with
  | .str z => (g ρ st).bind fun ds st => F z ds st
  | _ => .stuck := (rfl)
@[simp] theorem sYes_ev {ρ : Envr} {st : Store} : sYes ρ st = .ok true st := (rfl)
@[simp] theorem bind_ok' {α β : Type} {a : α} {st : Store} {f : α → Store → Res β} : (Res.ok a st).bind f = f a st := (rfl)
@[simp] theorem bind_stuck' {α β : Type} {f : α → Store → Res β} : (Res.stuck : Res α).bind f = .stuck := (rfl)
@[simp] theorem thn_ok' {α : Type} {a : α} {st : Store} {f : α → Store → SRes} : (Res.ok a st).thn f = f a st := (rfl)
@[simp] theorem thn_stuck' {α : Type} {f : α → Store → SRes} : (Res.stuck : Res α).thn f = .stuck := (rfl)
@[simp] theorem calm_ok' {α : Type} {a : α} {st : Store} : (Res.ok a st).calm = .ok a st := (rfl)
@[simp] theorem bind_ite {α β : Type} {c : Prop} [Decidable c] {a b : Res α} {f : α → Store → Res β} : (if c then a else b).bind f = if c then a.bind f else b.bind f := by split <;> rfl
@[simp] theorem thn_ite {α : Type} {c : Prop} [Decidable c] {a b : Res α} {f : α → Store → SRes} : (if c then a else b).thn f = if c then a.thn f else b.thn f := by split <;> rfl
/-! statements -/
@[simp] theorem xNil_ev {ρ : Envr} {st : Store} : xNil ρ st = .nx ρ st := (rfl)
@[simp] theorem xSeq_ev {f g : SS} {ρ : Envr} {st : Store} : xSeq f g ρ st = (f ρ st).thn g := (rfl)
@[simp] theorem nx_thn {g : SS} {ρ : Envr} {st : Store} : (SRes.nx ρ st).thn g = g ρ st := (rfl)
@[simp] theorem rt_thn {g : SS} {d : D} {st : Store} : (SRes.rt d st).thn g = .rt d st := (rfl)
@[simp] theorem bk_thn {g : SS} {ρ : Envr} {st : Store} : (SRes.bk ρ st).thn g = .bk ρ st := (rfl)
@[simp] theorem ct_thn {g : SS} {ρ : Envr} {st : Store} : (SRes.ct ρ st).thn g = .ct ρ st := (rfl)
@[simp] theorem stuck_thn {g : SS} : SRes.stuck.thn g = .stuck := (rfl)
@[simp] theorem sthn_ite {c : Prop} [Decidable c] {a b : SRes} {g : SS} : (if c then a else b).thn g = if c then a.thn g else b.thn g := by split <;> rfl
@[simp] theorem xRet_ev {f : SE} {ρ : Envr} {st : Store} : xRet f ρ st = (f ρ st).thn fun d st => .rt d st := (rfl)
@[simp] theorem xRetN_ev {ρ : Envr} {st : Store} : xRetN ρ st = .rt .non st := (rfl)
@[simp] theorem xBreak_ev {ρ : Envr} {st : Store} : xBreak ρ st = .bk ρ st := (rfl)
@[simp] theorem xCont_ev {ρ : Envr} {st : Store} : xCont ρ st = .ct ρ st := (rfl)
@[simp] theorem xExpr_ev {f : SE} {ρ : Envr} {st : Store} : xExpr f ρ st = (f ρ st).thn fun _ st => .nx ρ st := (rfl)
@[simp] theorem xIf_ev {t : SB} {f g : SS} {ρ : Envr} {st : Store} : xIf t f g ρ st = (t ρ st).thn fun b st => if b = true then f ρ st else g ρ st := (rfl)
@[simp] theorem xAsg_ev {t : Tgt} {f : SE} {ρ : Envr} {st : Store} : xAsg t f ρ st = (f ρ st).thn fun d st => match t.ev d ρ with
  | some ρ' => .nx ρ' st
  | none => .stuck := (rfl)
@[simp] theorem ev_nm {i : Nat} {d : D} {ρ : Envr} : (Tgt.nm i).ev d ρ = some (ρ.set i (some d)) := by simp only [Tgt.ev]
@[simp] theorem ev_tp {ts : List Tgt} {ds : List D} {ρ : Envr} : (Tgt.tp ts).ev (.tup ds) ρ = Tgt.evs ts ds ρ := by simp only [Tgt.ev]
@[simp] theorem evs_nil {ρ : Envr} : Tgt.evs [] [] ρ = some ρ := by simp only [Tgt.evs]
@[simp] theorem evs_cons {t : Tgt} {ts : List Tgt} {d : D} {ds : List D} {ρ : Envr} : Tgt.evs (t :: ts) (d :: ds) ρ = match Tgt.ev t d ρ with
    | some ρ1 => Tgt.evs ts ds ρ1
    | none => none := by first | (rw [Tgt.evs]; done) | (rw [Tgt.evs]; cases t.ev d ρ <;> rfl)
@[simp] theorem xPar_ev {i j : Nat} {f : SL} {ρ : Envr} {st : Store} : xPar i j f ρ st = (f ρ st).thn fun ds st => match ds with
  | [d, d'] => .nx ((ρ.set i (some d)).set j (some d')) st
  | _ => .stuck := (rfl)
@[simp] theorem xPar3_ev {i j l : Nat} {f : SL} {ρ : Envr} {st : Store} : xPar3 i j l f ρ st = (f ρ st).thn fun ds st => match ds with
  | [d, d', d2] => .nx (((ρ.set i (some d)).set j (some d')).set l (some d2)) st
  | _ => .stuck := (rfl)
@[simp] theorem xAug_ev {i : Nat} {F : F2} {f : SE} {ρ : Envr} {st : Store} : xAug i F f ρ st = match ρ[i]? with
  | some (some d) => (f ρ st).thn fun d' st => (F d d' st).thn fun z st => .nx (ρ.set i (some z)) st
  | _ => .stuck := (rfl)
@[simp] theorem xSetL_ev {fv fo fi : SE} {ρ : Envr} {st : Store} : xSetL fv fo fi ρ st = (fv ρ st).thn fun v st => (fo ρ st).thn fun o st => (fi ρ st).thn fun i st => match o, i with
  | .ref n, .int k => match st[n]? with
    | some (.lst xs) => match ixN xs.length k with
      | some j => .nx ρ (st.set n (.lst (xs.set j v)))
      | none => .stuck
    | _ => .stuck
  | _, _ => .stuck := (rfl)
@[simp] theorem xFor_ev {f : SI} {t : Tgt} {body : SS} {ρ : Envr} {st : Store} : xFor f t body ρ st = (f ρ st).thn fun src st => forL src t body src.all ρ st := (rfl)
@[simp] theorem iSeq_ev {f : SE} {ρ : Envr} {st : Store} : iSeq f ρ st = (f ρ st).bind fun d st => match srcOf d st with
  | some src => .ok src st
  | none => .stuck := (rfl)
@[simp] theorem srcOf_tup {xs : List D} {st : Store} : srcOf (.tup xs) st = some (.its xs) := (rfl)
@[simp] theorem srcOf_rl {xs : List D} {st : Store} : srcOf (.rl xs) st = some (.its xs) := (rfl)
@[simp] theorem srcOf_str {z : Str} {st : Store} : srcOf (.str z) st = some (.its (chars z)) := (rfl)
@[simp] theorem src_its_ok {xs : List D} {st : Store} : (Src.its xs).ok st = True := (rfl)
@[simp] theorem src_lst_ok {n : Nat} {xs : List D} {st : Store} : (Src.lst n xs).ok st = (st[n]? = some (.lst xs)) := (rfl)
@[simp] theorem src_its_all {xs : List D} : (Src.its xs).all = xs := (rfl)
@[simp] theorem src_lst_all {n : Nat} {xs : List D} : (Src.lst n xs).all = xs := (rfl)
/-! values -/
@[simp] theorem vAdd_int {i j : Int} {st : Store} : vAdd (.int i) (.int j) st = .ok (.int (i + j)) st := (rfl)
@[simp] theorem vAddI_int {i j : Int} {st : Store} : vAddI (.int i) (.int j) st = .ok (.int (i + j)) st := (rfl)
@[simp] theorem vSub_int {i j : Int} {st : Store} : vSub (.int i) (.int j) st = .ok (.int (i - j)) st := (rfl)
@[simp] theorem vMul_int {i j : Int} {st : Store} : vMul (.int i) (.int j) st = if wid i + wid j < 1000000 then .ok (.int (i * j)) st else .stuck := (rfl)
@[simp] theorem vFdiv_int {i j : Int} {st : Store} : vFdiv (.int i) (.int j) st = if 0 < j ∧ wid j < 9000 then .ok (.int (i / j)) st else .stuck := (rfl)
@[simp] theorem vMod_int {i j : Int} {st : Store} : vMod (.int i) (.int j) st = if 0 < j then .ok (.int (i % j)) st else .stuck := (rfl)
@[simp] theorem vNeg_int {i : Int} {st : Store} : vNeg (.int i) st = .ok (.int (-i)) st := (rfl)
@[simp] theorem vCmpI_int {p : Int → Int → Bool} {i j : Int} {st : Store} : vCmpI p (.int i) (.int j) st = .ok (.bl (p i j)) st := (rfl)
@[simp] theorem vEq_int {i j : Int} {st : Store} : vEq (.int i) (.int j) st = .ok (.bl (decide (i = j))) st := (rfl)
@[simp] theorem vEq_str {i j : Str} {st : Store} : vEq (.str i) (.str j) st = .ok (.bl (decide (i = j))) st := (rfl)
@[simp] theorem vNe_int {i j : Int} {st : Store} : vNe (.int i) (.int j) st = .ok (.bl (!decide (i = j))) st := (rfl)
@[simp] theorem vNe_str {i j : Str} {st : Store} : vNe (.str i) (.str j) st = .ok (.bl (!decide (i = j))) st := (rfl)
@[simp] theorem vIx_tup {xs : List D} {i : Int} {st : Store} : vIx (.tup xs) (.int i) st = match L2.atI xs i with
    | some d => .ok d st
    | none => .stuck := (rfl)
@[simp] theorem vIx_rl {xs : List D} {i : Int} {st : Store} : vIx (.rl xs) (.int i) st = match L2.atI xs i with
    | some d => .ok d st
    | none => .stuck := (rfl)
@[simp] theorem vIx_ref {n : Nat} {i : Int} {st : Store} : vIx (.ref n) (.int i) st = match st[n]? with
    | some (.lst xs) => match L2.atI xs i with
      | some d => .ok d st
      | none => .stuck
    | _ => .stuck := (rfl)
theorem atI_ofNat {α : Type} {xs : List α} {j : Nat} : L2.atI xs (j : Int) = xs[j]? := by
  cases h : xs[j]? with
  | some v => exact atI_nat h
  | none =>
    have := List.getElem?_eq_none_iff.mp h
    unfold L2.atI ixN
    rw [if_pos (by omega), if_neg (by omega)]
    rfl
@[simp] theorem atI_zero {α : Type} {xs : List α} : L2.atI xs 0 = xs[0]? := atI_ofNat (j := 0)
end L3
namespace L3
open PySem L2
@[simp] theorem atI_one {α : Type} {xs : List α} : L2.atI xs 1 = xs[1]? := atI_ofNat (j := 1)
@[simp] theorem atI_two {α : Type} {xs : List α} : L2.atI xs 2 = xs[2]? := atI_ofNat (j := 2)
@[simp] theorem atI_three {α : Type} {xs : List α} : L2.atI xs 3 = xs[3]? := atI_ofNat (j := 3)
@[simp] theorem atI_nat' {α : Type} {xs : List α} {j : Nat} : L2.atI xs (j : Int) = xs[j]? := atI_ofNat
theorem atI_of {α : Type} {xs : List α} {i : Int} (h : 0 ≤ i) : L2.atI xs i = xs[i.toNat]? := by
  obtain ⟨j, rfl⟩ := Int.eq_ofNat_of_zero_le h
  exact atI_ofNat
/-! ### comprehensions -/
theorem lcL_map {α : Type} {src : Src} {t : Tgt} {test : SB} {elt : SE} {ρ : Envr} {st : Store} {enc : α → D} {p : α → Bool} {g : α → D} (hs : src.ok st) :
    ∀ (xs : List α) (acc : List D), (∀ x ∈ xs, ∃ ρ1, t.ev (enc x) ρ = some ρ1 ∧ test ρ1 st = .ok (p x) st ∧ (p x = true → elt ρ1 st = .ok (g x) st)) → acc.length + xs.length ≤ sizeLine →
      lcL src t test elt ρ (xs.map enc) acc st = .ok (acc ++ (xs.filter p).map g) st
  | [], acc, _, _ => by simp [lcL, hs]
  | x :: xs, acc, h, hl => by
    obtain ⟨ρ1, h1, h2, h3⟩ := h x (by simp)
    have ih := fun acc' hl' => lcL_map (enc := enc) (p := p) (g := g) hs xs acc' (fun y hy => h y (by simp [hy])) hl'
    simp only [List.map_cons, lcL, if_pos hs, h1, h2, calm_ok', bind_ok']
    cases hp : p x with
    | true =>
      rw [if_pos rfl, h3 hp]
      simp only [calm_ok', bind_ok']
      rw [if_pos (by simp at hl; omega), ih _ (by simp at hl ⊢; omega), List.filter_cons_of_pos hp]
      simp
    | false =>
      rw [if_neg (by simp), ih _ (by simp at hl; omega), List.filter_cons_of_neg (by simp [hp])]
theorem sLc_map {α : Type} {f : SI} {t : Tgt} {test : SB} {elt : SE} {vs : List Nat} {ρ : Envr} {st st1 : Store} {src : Src} (enc : α → D) (p : α → Bool) (g : α → D) (xs : List α) (hf : f ρ st = .ok src st1) (ha : src.all = xs.map enc) (hs : src.ok st1)
    (h : ∀ x ∈ xs, ∃ ρ1, t.ev (enc x) (wipeE ρ vs) = some ρ1 ∧ test ρ1 st1 = .ok (p x) st1 ∧ (p x = true → elt ρ1 st1 = .ok (g x) st1)) (hl : xs.length ≤ sizeLine) :
    sLc f t test elt vs ρ st = .ok (.ref st1.length) (st1 ++ [.lst ((xs.filter p).map g)]) := by
  unfold sLc
  rw [hf, bind_ok', ha, lcL_map (enc := enc) (p := p) (g := g) hs xs [] h (by simpa using hl)]
  rfl
/-- .. without a test -/
theorem sLc_all {α : Type} {f : SI} {t : Tgt} {elt : SE} {vs : List Nat} {ρ : Envr} {st st1 : Store} {src : Src} (enc : α → D) (g : α → D) (xs : List α) (hf : f ρ st = .ok src st1) (ha : src.all = xs.map enc) (hs : src.ok st1)
    (h : ∀ x ∈ xs, ∃ ρ1, t.ev (enc x) (wipeE ρ vs) = some ρ1 ∧ elt ρ1 st1 = .ok (g x) st1) (hl : xs.length ≤ sizeLine) :
    sLc f t sYes elt vs ρ st = .ok (.ref st1.length) (st1 ++ [.lst (xs.map g)]) := by
  rw [sLc_map (test := sYes) enc (fun _ => true) g xs hf ha hs (fun x hx => let ⟨ρ1, h1, h2⟩ := h x hx; ⟨ρ1, h1, rfl, fun _ => h2⟩) hl]
  rw [List.filter_eq_self.mpr (fun _ _ => rfl)]
theorem sLc_its {α : Type} {f : SI} {t : Tgt} {test : SB} {elt : SE} {vs : List Nat} {ρ : Envr} {st : Store} (enc : α → D) (p : α → Bool) (g : α → D) (xs : List α) (hf : f ρ st = .ok (.its (xs.map enc)) st) (hl : xs.length ≤ sizeLine)
    (h : ∀ x ∈ xs, ∃ ρ1, t.ev (enc x) (wipeE ρ vs) = some ρ1 ∧ test ρ1 st = .ok (p x) st ∧ (p x = true → elt ρ1 st = .ok (g x) st)) :
    sLc f t test elt vs ρ st = .ok (.ref st.length) (st ++ [.lst ((xs.filter p).map g)]) := sLc_map enc p g xs hf rfl trivial h hl
theorem sLc_itsA {α : Type} {f : SI} {t : Tgt} {elt : SE} {vs : List Nat} {ρ : Envr} {st : Store} (enc : α → D) (g : α → D) (xs : List α) (hf : f ρ st = .ok (.its (xs.map enc)) st) (hl : xs.length ≤ sizeLine)
    (h : ∀ x ∈ xs, ∃ ρ1, t.ev (enc x) (wipeE ρ vs) = some ρ1 ∧ elt ρ1 st = .ok (g x) st) :
    sLc f t sYes elt vs ρ st = .ok (.ref st.length) (st ++ [.lst (xs.map g)]) := sLc_all enc g xs hf rfl trivial h hl
@[simp] theorem get_last {st : Store} {o : SO} : (st ++ [o])[st.length]? = some o := by simp
@[simp] theorem wipeE_nil {ρ : Envr} : wipeE ρ [] = ρ := (rfl)
@[simp] theorem wipeE_cons {ρ : Envr} {v : Nat} {vs : List Nat} : wipeE ρ (v :: vs) = (wipeE ρ vs).set v none := (rfl)
@[simp] theorem bLen_push {st : Store} {xs : List D} : bLen [.ref st.length] (st ++ [.lst xs]) = .ok (.int xs.length) (st ++ [.lst xs]) := by simp [bLen]
@[simp] theorem bLen_tup {st : Store} {xs : List D} : bLen [.tup xs] st = .ok (.int xs.length) st := (rfl)
@[simp] theorem bLen_rl {st : Store} {xs : List D} : bLen [.rl xs] st = .ok (.int xs.length) st := (rfl)
@[simp] theorem bTuple_push {st : Store} {xs : List D} : bTuple [.ref st.length] (st ++ [.lst xs]) = .ok (.tup xs) (st ++ [.lst xs]) := by simp [bTuple, seqOf]
@[simp] theorem bTuple_tup {st : Store} {xs : List D} : bTuple [.tup xs] st = .ok (.tup xs) st := (rfl)
@[simp] theorem bSum_push {st : Store} {xs : List Int} : bSum [.ref st.length] (st ++ [.lst (xs.map D.int)]) = .ok (.int xs.sum) (st ++ [.lst (xs.map D.int)]) := by
  simp only [bSum, seqOf, get_last, Option.bind_some, intsOf_map]
@[simp] theorem bSum_tup {st : Store} {xs : List Int} : bSum [.tup (xs.map D.int)] st = .ok (.int xs.sum) st := by
  simp only [bSum, seqOf, Option.bind_some, intsOf_map]
@[simp] theorem bAbs_int {st : Store} {i : Int} : bAbs [.int i] st = .ok (.int i.natAbs) st := (rfl)
@[simp] theorem bInt_int {st : Store} {i : Int} : bInt [.int i] st = .ok (.int i) st := (rfl)
@[simp] theorem bInt_bl {st : Store} {i : Bool} : bInt [.bl i] st = .ok (.int (if i then 1 else 0)) st := (rfl)
@[simp] theorem bMax_int {st : Store} {i j : Int} : bMax [.int i, .int j] st = .ok (.int (max i j)) st := (rfl)
@[simp] theorem bMin_int {st : Store} {i j : Int} : bMin [.int i, .int j] st = .ok (.int (min i j)) st := (rfl)
/-! a def's end -/
theorem fnBody_ev {n : Nat} {body : SS} {ds : List D} {st : Store} : fnBody n body ds st = swept st (match body (ds.map some ++ List.replicate (n - ds.length) none) st with
  | .rt d st' => .ok d st'
  | .nx _ st' => .ok .non st'
  | .exc x st' => .exc x st'
  | _ => .stuck) := (rfl)
theorem fn_rt {n : Nat} {body : SS} {ds : List D} {st st' : Store} {d : D} (h : body (ds.map some ++ List.replicate (n - ds.length) none) st = .rt d st') : fnBody n body ds st = swept st (.ok d st') := by
  rw [fnBody_ev, h]
theorem fn_nx {n : Nat} {body : SS} {ds : List D} {st st' : Store} {ρ : Envr} (h : body (ds.map some ++ List.replicate (n - ds.length) none) st = .nx ρ st') : fnBody n body ds st = swept st (.ok .non st') := by
  rw [fnBody_ev, h]
/-! ### loops -/
/-- a loop that goes through: the frame and the store behind each turn are known -/
theorem forL_fold {α σ : Type} {src : Src} {t : Tgt} {body : SS} {enc : α → D} (R : σ → Envr) (S : σ → Store) (f : σ → α → σ) (hs : ∀ s, src.ok (S s)) :
    ∀ (xs : List α) (s : σ), (∀ x ∈ xs, ∀ s, ∃ ρ1, t.ev (enc x) (R s) = some ρ1 ∧ (body ρ1 (S s) = .nx (R (f s x)) (S (f s x)) ∨ body ρ1 (S s) = .ct (R (f s x)) (S (f s x)))) →
      forL src t body (xs.map enc) (R s) (S s) = .nx (R (xs.foldl f s)) (S (xs.foldl f s))
  | [], s, _ => by simp [forL, hs]
  | x :: xs, s, h => by
    obtain ⟨ρ1, h1, h2⟩ := h x (by simp) s
    simp only [List.map_cons, forL, if_pos (hs s), h1, List.foldl_cons]
    rcases h2 with h2 | h2 <;> (rw [h2]; exact forL_fold R S f hs xs _ fun y hy => h y (by simp [hy]))
/-- .. with a word about each state -/
theorem forL_inv {α : Type} {src : Src} {t : Tgt} {body : SS} {enc : α → D} (I : List α → Envr → Store → Prop) (hs : ∀ p ρ st, I p ρ st → src.ok st) :
    ∀ (xs p : List α) (ρ : Envr) (st : Store), I p ρ st → (∀ p x q ρ st, p ++ x :: q = p ++ x :: q → x ∈ xs → I p ρ st → ∃ ρ1, t.ev (enc x) ρ = some ρ1 ∧ ∃ ρ2 st2, (body ρ1 st = .nx ρ2 st2 ∨ body ρ1 st = .ct ρ2 st2) ∧ I (p ++ [x]) ρ2 st2) →
      ∃ ρ2 st2, forL src t body (xs.map enc) ρ st = .nx ρ2 st2 ∧ I (p ++ xs) ρ2 st2
  | [], p, ρ, st, h0, _ => ⟨ρ, st, by simp [forL, hs p ρ st h0], by simpa using h0⟩
  | x :: xs, p, ρ, st, h0, h => by
    obtain ⟨ρ1, h1, ρ2, st2, h2, h3⟩ := h p x [] ρ st rfl (by simp) h0
    obtain ⟨ρ3, st3, h4, h5⟩ := forL_inv I hs xs (p ++ [x]) ρ2 st2 h3 fun p y q ρ st e hy => h p y q ρ st e (by simp [hy])
    refine ⟨ρ3, st3, ?_, by simpa using h5⟩
    simp only [List.map_cons, forL, if_pos (hs p ρ st h0), h1]
    rcases h2 with h2 | h2 <;> (rw [h2]; exact h4)
end L3
namespace L3
open PySem L2
/-! ### sizes of ints -/
theorem wid_lt {i : Int} (h : i.natAbs ≤ 10 ^ 30) : wid i < 1000 := by
  unfold wid
  have h2 : i.natAbs < 2 ^ 1000 := Nat.lt_of_le_of_lt h (by decide)
  by_cases h0 : i.natAbs = 0
  · rw [h0]; decide
  · exact (Nat.log2_lt h0).mpr h2
theorem mul_ok {a b : Int} (h1 : a.natAbs ≤ 10 ^ 30) (h2 : b.natAbs ≤ 10 ^ 30) : wid a + wid b < 1000000 := by
  have := wid_lt h1
  have := wid_lt h2
  omega
theorem div_ok {b : Int} (h0 : 0 < b) (h2 : b.natAbs ≤ 10 ^ 30) : 0 < b ∧ wid b < 9000 := by
  have := wid_lt h2
  omega
theorem mul_ev {a b : Int} {st : Store} (h1 : a.natAbs ≤ 10 ^ 30) (h2 : b.natAbs ≤ 10 ^ 30) : vMul (.int a) (.int b) st = .ok (.int (a * b)) st := by
  rw [vMul_int, if_pos (mul_ok h1 h2)]
theorem fdiv_ev {a b : Int} {st : Store} (h0 : 0 < b) (h2 : b.natAbs ≤ 10 ^ 30) : vFdiv (.int a) (.int b) st = .ok (.int (a / b)) st := by
  rw [vFdiv_int, if_pos (div_ok h0 h2)]
theorem mod_ev {a b : Int} {st : Store} (h0 : 0 < b) : vMod (.int a) (.int b) st = .ok (.int (a % b)) st := by
  rw [vMod_int, if_pos h0]
@[simp] theorem vPow_int {i j : Int} {st : Store} : vPow (.int i) (.int j) st = if 0 ≤ j ∧ j ≤ 1000000 ∧ i.natAbs < 2 ^ 64 then .ok (.int (i ^ j.toNat)) st else .stuck := (rfl)
@[simp] theorem vShl_int {i j : Int} {st : Store} : vShl (.int i) (.int j) st = if 0 ≤ j ∧ j ≤ 1000000 ∧ i.natAbs < 2 ^ 64 then .ok (.int (i * 2 ^ j.toNat)) st else .stuck := (rfl)
@[simp] theorem vShr_int {i j : Int} {st : Store} : vShr (.int i) (.int j) st = if 0 ≤ j then .ok (.int (i / 2 ^ j.toNat)) st else .stuck := (rfl)
@[simp] theorem truth_bl {b : Bool} {st : Store} : truth (.bl b) st = some b := (rfl)
@[simp] theorem truth_non {st : Store} : truth .non st = some false := (rfl)
@[simp] theorem truth_int {i : Int} {st : Store} : truth (.int i) st = some (i != 0) := (rfl)
@[simp] theorem truth_tup {xs : List D} {st : Store} : truth (.tup xs) st = some (!xs.isEmpty) := (rfl)
@[simp] theorem tyName_int {i : Int} {st : Store} : tyName (.int i) st = some "int" := (rfl)
@[simp] theorem tyName_bl {i : Bool} {st : Store} : tyName (.bl i) st = some "bool" := (rfl)
@[simp] theorem tyName_str {i : Str} {st : Store} : tyName (.str i) st = some "str" := (rfl)
@[simp] theorem tyName_tup {i : List D} {st : Store} : tyName (.tup i) st = some "tuple" := (rfl)
@[simp] theorem tyName_non {st : Store} : tyName .non st = some "NoneType" := (rfl)
theorem kit_1 : kitB "int" "int" = some true := by decide +kernel
theorem kit_2 : kitB "bool" "int" = some true := by decide +kernel
theorem kit_3 : kitB "str" "int" = some false := by decide +kernel
theorem kit_4 : kitB "tuple" "int" = some false := by decide +kernel
theorem kit_5 : kitB "NoneType" "int" = some false := by decide +kernel
theorem kit_6 : kitB "int" "bool" = some false := by decide +kernel
theorem kit_7 : kitB "bool" "bool" = some true := by decide +kernel
theorem kit_8 : kitB "str" "bool" = some false := by decide +kernel
theorem kit_9 : kitB "tuple" "bool" = some false := by decide +kernel
theorem kit_10 : kitB "NoneType" "bool" = some false := by decide +kernel
theorem kit_11 : kitB "int" "str" = some false := by decide +kernel
theorem kit_12 : kitB "bool" "str" = some false := by decide +kernel
theorem kit_13 : kitB "str" "str" = some true := by decide +kernel
theorem kit_14 : kitB "tuple" "str" = some false := by decide +kernel
theorem kit_15 : kitB "NoneType" "str" = some false := by decide +kernel
theorem kit_16 : kitB "int" "tuple" = some false := by decide +kernel
theorem kit_17 : kitB "bool" "tuple" = some false := by decide +kernel
theorem kit_18 : kitB "str" "tuple" = some false := by decide +kernel
theorem kit_19 : kitB "tuple" "tuple" = some true := by decide +kernel
theorem kit_20 : kitB "NoneType" "tuple" = some false := by decide +kernel
/-! ### what changes but two lists of the store -/
structure Upd (n m : Nat) (st st' : Store) : Prop where
  len : st'.length = st.length
  at_ : ∀ i : Nat, i ≠ n → i ≠ m → st'[i]? = st[i]?
theorem Upd.refl {n m : Nat} {st : Store} : Upd n m st st := ⟨rfl, fun _ _ _ => rfl⟩
theorem Upd.trans {n m : Nat} {a b c : Store} (h : Upd n m a b) (h' : Upd n m b c) : Upd n m a c := ⟨h'.len.trans h.len, fun i h1 h2 => (h'.at_ i h1 h2).trans (h.at_ i h1 h2)⟩
theorem Upd.set1 {n m : Nat} {st : Store} {o : SO} : Upd n m st (st.set n o) := ⟨by simp, fun i h1 h2 => by rw [List.getElem?_set_ne (Ne.symm h1)]⟩
theorem Upd.set2 {n m : Nat} {st : Store} {o : SO} : Upd n m st (st.set m o) := ⟨by simp, fun i h1 h2 => by rw [List.getElem?_set_ne (Ne.symm h2)]⟩
end L3

/-! L5: what holds when a piece of code goes through. -/
namespace L3
open PySem L2
def wpD {α : Type} (r : Res α) (Q : α → Store → Prop) : Prop := match r with
  | .ok a st => Q a st
  | _ => False
def wpsD (r : SRes) (N C B : Envr → Store → Prop) (R : D → Store → Prop) : Prop := match r with
  | .nx ρ st => N ρ st
  | .ct ρ st => C ρ st
  | .bk ρ st => B ρ st
  | .rt d st => R d st
  | _ => False
/-- a piece goes through, and this holds of what it gives (a structure: nothing unfolds it unasked) -/
structure wp {α : Type} (r : Res α) (Q : α → Store → Prop) : Prop where
  run : wpD r Q
structure wps (r : SRes) (N C B : Envr → Store → Prop) (R : D → Store → Prop) : Prop where
  run : wpsD r N C B R
/-- what is left to be done, unread -/
def Kn (f : SS) (N C B : Envr → Store → Prop) (R : D → Store → Prop) : Envr → Store → Prop := fun ρ st => wps (f ρ st) N C B R
theorem wp_iff {α : Type} {r : Res α} {Q : α → Store → Prop} : wp r Q = wpD r Q := propext ⟨fun h => h.run, fun h => ⟨h⟩⟩
theorem wps_iff {r : SRes} {N C B : Envr → Store → Prop} {R : D → Store → Prop} : wps r N C B R = wpsD r N C B R := propext ⟨fun h => h.run, fun h => ⟨h⟩⟩
section
variable {α β : Type} {N C B : Envr → Store → Prop} {R : D → Store → Prop} {st : Store} {ρ : Envr}
@[simp] theorem wp_ok {a : α} {Q : α → Store → Prop} : wp (.ok a st) Q = Q a st := by rw [wp_iff]; rfl
@[simp] theorem wp_stuck {Q : α → Store → Prop} : wp (.stuck : Res α) Q = False := by rw [wp_iff]; rfl
@[simp] theorem wp_exc {x : Exn} {Q : α → Store → Prop} : wp (.exc x st : Res α) Q = False := by rw [wp_iff]; rfl
@[simp] theorem wp_bind {r : Res α} {f : α → Store → Res β} {Q : β → Store → Prop} : wp (r.bind f) Q = wp r (fun a st => wp (f a st) Q) := by rw [wp_iff, wp_iff]; cases r <;> first | exact wp_iff.symm | rfl
@[simp] theorem wp_ite {c : Prop} [Decidable c] {a b : Res α} {Q : α → Store → Prop} : wp (if c then a else b) Q = if c then wp a Q else wp b Q := by split <;> rfl
@[simp] theorem wps_nx : wps (.nx ρ st) N C B R = N ρ st := by rw [wps_iff]; rfl
@[simp] theorem wps_ct : wps (.ct ρ st) N C B R = C ρ st := by rw [wps_iff]; rfl
@[simp] theorem wps_bk : wps (.bk ρ st) N C B R = B ρ st := by rw [wps_iff]; rfl
@[simp] theorem wps_rt {d : D} : wps (.rt d st) N C B R = R d st := by rw [wps_iff]; rfl
@[simp] theorem wps_stuck : wps .stuck N C B R = False := by rw [wps_iff]; rfl
@[simp] theorem wps_exc {x : Exn} : wps (.exc x st) N C B R = False := by rw [wps_iff]; rfl
@[simp] theorem wps_thn {r : Res α} {f : α → Store → SRes} : wps (r.thn f) N C B R = wp r (fun a st => wps (f a st) N C B R) := by rw [wp_iff, wps_iff]; cases r <;> first | exact wps_iff.symm | rfl
@[simp] theorem wps_seq {r : SRes} {f : SS} : wps (r.thn f) N C B R = wps r (Kn f N C B R) C B R := by rw [wps_iff, wps_iff]; cases r <;> first | exact wps_iff.symm | rfl
@[simp] theorem Kn_ev {f : SS} : Kn f N C B R ρ st = wps (f ρ st) N C B R := (rfl)
@[simp] theorem wps_ite {c : Prop} [Decidable c] {a b : SRes} : wps (if c then a else b) N C B R = if c then wps a N C B R else wps b N C B R := by split <;> rfl
@[simp] theorem wp_sw {st : Store} {r : Res α} {f : α → Store → Res D} {Q : D → Store → Prop} : wp (swept st (r.bind f)) Q = wp r (fun d s => wp (swept st (f d s)) Q) := by
  cases r with
  | ok a s => simp
  | exc x s => rw [bind_exc, wp_exc]; exact wp_exc
  | stuck => simp
theorem wp_mono {r : Res α} {Q Q' : α → Store → Prop} (h : wp r Q) (m : ∀ a st, Q a st → Q' a st) : wp r Q' := by
  cases r with
  | ok a st => rw [wp_ok] at h ⊢; exact m a st h
  | exc x st => rw [wp_exc] at h; exact h.elim
  | stuck => rw [wp_stuck] at h; exact h.elim
theorem wps_mono {r : SRes} {N' C' B' : Envr → Store → Prop} {R' : D → Store → Prop} (h : wps r N C B R) (m1 : ∀ a st, N a st → N' a st) (m2 : ∀ a st, C a st → C' a st) (m3 : ∀ a st, B a st → B' a st) (m4 : ∀ a st, R a st → R' a st) : wps r N' C' B' R' := by
  obtain ⟨h⟩ := h
  cases r with
  | nx a st => exact ⟨m1 a st h⟩
  | ct a st => exact ⟨m2 a st h⟩
  | bk a st => exact ⟨m3 a st h⟩
  | rt a st => exact ⟨m4 a st h⟩
  | exc x st => exact ⟨h⟩
  | stuck => exact ⟨h⟩
theorem wp_of_eq {r : Res α} {a : α} {Q : α → Store → Prop} (e : r = .ok a st) (h : Q a st) : wp r Q := by rw [e]; exact ⟨h⟩
theorem eq_of_wp {r : Res α} {a : α} (h : wp r (fun d st' => d = a ∧ st' = st)) : r = .ok a st := by
  obtain ⟨h⟩ := h
  cases r with
  | ok b st' => obtain ⟨rfl, rfl⟩ := h; rfl
  | exc x st => exact h.elim
  | stuck => exact h.elim
/-- a for loop, by what holds ahead of each turn for what is still to come -/
theorem wp_for {src : Src} {t : Tgt} {body : SS} {enc : α → D} (I : List α → Envr → Store → Prop) {xs : List α} (h0 : I xs ρ st) (hend : ∀ ρ st, I [] ρ st → src.ok st ∧ N ρ st)
    (step : ∀ x ys ρ st, x ∈ xs → I (x :: ys) ρ st → src.ok st ∧ ∃ ρ1, t.ev (enc x) ρ = some ρ1 ∧ wps (body ρ1 st) (I ys) (I ys) N R) : wps (forL src t body (xs.map enc) ρ st) N C B R := by
  induction xs generalizing ρ st with
  | nil =>
    have := hend ρ st h0
    simp [forL, this.1, this.2]
  | cons x xs ih =>
    obtain ⟨h1, ρ1, h2, h3⟩ := step x xs ρ st (by simp) h0
    simp only [List.map_cons, forL, if_pos h1, h2]
    have ih' := fun ρ st h => ih (ρ := ρ) (st := st) h fun y ys ρ st hy => step y ys ρ st (by simp [hy])
    cases e : body ρ1 st with
    | nx a st => rw [e] at h3; exact ih' _ _ h3.run
    | ct a st => rw [e] at h3; exact ih' _ _ h3.run
    | bk a st => rw [e] at h3; exact ⟨h3.run⟩
    | rt a st => rw [e] at h3; exact ⟨h3.run⟩
    | exc x st => rw [e] at h3; exact h3.run.elim
    | stuck => rw [e] at h3; exact h3.run.elim
theorem wp_lc {src : Src} {t : Tgt} {test : SB} {elt : SE} {enc : α → D} {Q : List D → Store → Prop} (I : List α → List D → Store → Prop) {xs : List α} {acc : List D} (h0 : I xs acc st) (hend : ∀ acc st, I [] acc st → src.ok st ∧ Q acc st)
    (step : ∀ x ys acc st, x ∈ xs → I (x :: ys) acc st → src.ok st ∧ ∃ ρ1, t.ev (enc x) ρ = some ρ1 ∧ wp (test ρ1 st) (fun b st => if b = true then wp (elt ρ1 st) (fun d st => acc.length < sizeLine ∧ I ys (acc ++ [d]) st) else I ys acc st)) :
    wp (lcL src t test elt ρ (xs.map enc) acc st) Q := by
  induction xs generalizing acc st with
  | nil =>
    have := hend acc st h0
    simp [lcL, this.1, this.2]
  | cons x xs ih =>
    obtain ⟨h1, ρ1, h2, h3⟩ := step x xs acc st (by simp) h0
    simp only [List.map_cons, lcL, if_pos h1, h2]
    have ih' := fun acc st h => ih (acc := acc) (st := st) h fun y ys acc st hy => step y ys acc st (by simp [hy])
    cases e : test ρ1 st with
    | exc x st => rw [e] at h3; exact h3.run.elim
    | stuck => rw [e] at h3; exact h3.run.elim
    | ok b st1 =>
      rw [e] at h3
      simp only [calm_ok', bind_ok']
      simp only [wp_ok] at h3
      by_cases hb : b = true
      · rw [if_pos hb] at h3 ⊢
        cases e2 : elt ρ1 st1 with
        | exc x st => rw [e2] at h3; exact h3.run.elim
        | stuck => rw [e2] at h3; exact h3.run.elim
        | ok d st2 =>
          rw [e2] at h3
          simp only [calm_ok', bind_ok']
          simp only [wp_ok] at h3
          rw [if_pos h3.1]
          exact ih' _ _ h3.2
      · rw [if_neg hb] at h3 ⊢
        exact ih' _ _ h3
theorem wp_fn {n : Nat} {body : SS} {ds : List D} {Q : D → Store → Prop} (h : wps (body (ds.map some ++ List.replicate (n - ds.length) none) st) (fun _ st' => wp (swept st (.ok .non st')) Q) (fun _ _ => False) (fun _ _ => False) (fun d st' => wp (swept st (.ok d st')) Q)) : wp (fnBody n body ds st) Q := by
  rw [fnBody_ev]
  cases e : body (ds.map some ++ List.replicate (n - ds.length) none) st with
  | nx a st => rw [e] at h; exact h.run
  | rt a st => rw [e] at h; exact h.run
  | ct a st => rw [e] at h; exact h.run.elim
  | bk a st => rw [e] at h; exact h.run.elim
  | exc x st => rw [e] at h; exact h.run.elim
  | stuck => rw [e] at h; exact h.run.elim
end
@[simp] theorem iRange1_ev {f : SL} {ρ : Envr} {st : Store} : iRange1 f ρ st = (f ρ st).bind fun ds st => match ds with
  | [.int j] => if -(2 ^ 62) ≤ j ∧ j < 2 ^ 62 then .ok (.its (rangeD 0 j.toNat)) st else .stuck
  | _ => .stuck := (rfl)
@[simp] theorem iRange2_ev {f : SL} {ρ : Envr} {st : Store} : iRange2 f ρ st = (f ρ st).bind fun ds st => match ds with
  | [.int i, .int j] => if -(2 ^ 62) ≤ i ∧ i < 2 ^ 62 ∧ -(2 ^ 62) ≤ j ∧ j < 2 ^ 62 then .ok (.its (rangeD i (j - i).toNat)) st else .stuck
  | _ => .stuck := (rfl)
@[simp] theorem sLc_ev {f : SI} {t : Tgt} {test : SB} {elt : SE} {vs : List Nat} {ρ : Envr} {st : Store} : sLc f t test elt vs ρ st = (f ρ st).bind fun src st => (lcL src t test elt (wipeE ρ vs) src.all [] st).bind fun ds st => .ok (.ref st.length) (st ++ [.lst ds]) := (rfl)
def ofN (k : Nat) : D := .int k
theorem rangeD_zero (n : Nat) : rangeD 0 n = (List.range n).map ofN := by unfold rangeD ofN; simp
/-! ### what may change: two lists, and what lies beyond -/
structure Mor (n m : Nat) (st st' : Store) : Prop where
  len : st.length ≤ st'.length
  at_ : ∀ i : Nat, i < st.length → i ≠ n → i ≠ m → st'[i]? = st[i]?
theorem Upd.mor {n m : Nat} {st st' : Store} (h : Upd n m st st') : Mor n m st st' := ⟨by rw [h.len]; exact Nat.le_refl _, fun i _ => h.at_ i⟩
theorem Mor.refl {n m : Nat} {st : Store} : Mor n m st st := ⟨Nat.le_refl _, fun _ _ _ _ => rfl⟩
theorem Mor.trans {n m : Nat} {a b c : Store} (h : Mor n m a b) (h' : Mor n m b c) : Mor n m a c := ⟨Nat.le_trans h.len h'.len, fun i h0 h1 h2 => (h'.at_ i (Nat.lt_of_lt_of_le h0 h.len) h1 h2).trans (h.at_ i h0 h1 h2)⟩
theorem Mor.push {n m : Nat} {st more : Store} : Mor n m st (st ++ more) := ⟨by simp, fun i h _ _ => List.getElem?_append_left h⟩
theorem Mor.set {n m : Nat} {st st' : Store} (h : Mor n m st st') {i : Nat} (hi : st.length ≤ i) {o : SO} : Mor n m st (st'.set i o) := ⟨by simpa using h.len, fun j h0 h1 h2 => by rw [List.getElem?_set_ne (by omega)]; exact h.at_ j h0 h1 h2⟩
theorem get_push {st more : Store} {i : Nat} {o : SO} (h : st[i]? = some o) : (st ++ more)[i]? = some o := by
  rw [List.getElem?_append_left (List.getElem?_eq_some_iff.mp h).1, h]
theorem lt_of_get {st : Store} {i : Nat} {o : SO} (h : st[i]? = some o) : i < st.length := (List.getElem?_eq_some_iff.mp h).1
theorem wp_swept {n m : Nat} {st st1 : Store} {d : D} {Q : D → Store → Prop} (M : Mor n m st st1) (hd : d.low st.length = true) (hn : ∀ o, st1[n]? = some o → o.low st.length = true) (hm : ∀ o, st1[m]? = some o → o.low st.length = true)
    (h : ∀ st', Upd n m st st' → (n < st.length → st'[n]? = st1[n]?) → (m < st.length → st'[m]? = st1[m]?) → Q d st') : wp (swept st (.ok d st1)) Q := by
  unfold swept
  simp only
  rw [if_pos]
  · refine ⟨h _ ⟨by simp [M.len], fun i h1 h2 => ?_⟩ (fun hl => by simp [List.getElem?_take, hl]) (fun hl => by simp [List.getElem?_take, hl])⟩
    rw [List.getElem?_take]
    split
    · exact M.at_ i (by assumption) h1 h2
    · rw [List.getElem?_eq_none (by omega)]
  · refine ⟨M.len, hd, fun i o hi e => ?_⟩
    by_cases h1 : i = n
    · subst h1; exact .inr (hn o e)
    · by_cases h2 : i = m
      · subst h2; exact .inr (hm o e)
      · rw [M.at_ i hi h1 h2] at e; exact .inl e
end L3
namespace L3
open PySem L2
theorem isLst_of {st : Store} {n : Nat} {xs : List D} (h : st[n]? = some (.lst xs)) : isLst st n = true := by unfold isLst; rw [h]
theorem mAppend_ev {st : Store} {n : Nat} {xs : List D} {y : D} (h : st[n]? = some (.lst xs)) (hl : xs.length < 10 ^ 6) : mAppend n [y] st = .ok .non (st.set n (.lst (xs ++ [y]))) := by
  unfold mAppend
  simp only [h]
  rw [if_pos (by have := sizeLine_eq; omega)]
theorem vAdd_lst {st : Store} {n m : Nat} {xs ys : List D} (h : st[n]? = some (.lst xs)) (h2 : st[m]? = some (.lst ys)) (hl : xs.length + ys.length < 10 ^ 6) : vAdd (.ref n) (.ref m) st = .ok (.ref st.length) (st ++ [.lst (xs ++ ys)]) := by
  unfold vAdd
  simp only [h, h2]
  rw [if_pos (by have := sizeLine_eq; omega)]
theorem vAdd_tup {st : Store} {xs ys : List D} (hl : xs.length + ys.length < 10 ^ 6) : vAdd (.tup xs) (.tup ys) st = .ok (.tup (xs ++ ys)) st := by
  unfold vAdd
  simp only
  rw [if_pos (by have := sizeLine_eq; omega)]
theorem bTuple_ref {st : Store} {n : Nat} {xs : List D} (h : st[n]? = some (.lst xs)) : bTuple [.ref n] st = .ok (.tup xs) st := by simp [bTuple, seqOf, h]
end L3
namespace L3
open PySem L2
/-- a for loop over a range -/
theorem wp_forR {N C B : Envr → Store → Prop} {R : D → Store → Prop} {st : Store} {ρ : Envr} {ds : List D} {t : Tgt} {body : SS} {n : Nat} (I : Nat → Envr → Store → Prop) (h0 : I 0 ρ st) (hend : ∀ ρ st, I n ρ st → N ρ st)
    (step : ∀ i ρ st, i < n → I i ρ st → ∃ ρ1, t.ev (.int i) ρ = some ρ1 ∧ wps (body ρ1 st) (I (i + 1)) (I (i + 1)) N R) : wps (forL (.its ds) t body ((List.range n).map ofN) ρ st) N C B R := by
  refine wp_for (fun ys ρ s => ∃ i, i ≤ n ∧ ys = List.range' i (n - i) ∧ I i ρ s) ⟨0, by omega, by rw [List.range_eq_range']; simp, h0⟩ ?_ ?_
  · rintro ρ s ⟨i, hi, e, h⟩
    have : n - i = 0 := by simpa using e.symm
    have : i = n := by omega
    subst this
    exact ⟨trivial, hend _ _ h⟩
  · rintro x ys ρ s _ ⟨i, hi, e, h⟩
    have hlt : i < n := by
      rcases Nat.lt_or_ge i n with h | h
      · exact h
      · rw [show n - i = 0 by omega] at e; simp at e
    rw [show n - i = (n - (i + 1)) + 1 by omega, List.range'_succ] at e
    obtain ⟨rfl, rfl⟩ := List.cons.inj e
    obtain ⟨ρ1, h1, h2⟩ := step x ρ s hlt h
    exact ⟨trivial, ρ1, h1, wps_mono h2 (fun _ _ q => ⟨x + 1, hlt, rfl, q⟩) (fun _ _ q => ⟨x + 1, hlt, rfl, q⟩) (fun _ _ q => q) (fun _ _ q => q)⟩
end L3
namespace L3
open PySem L2
theorem fn_eq {n : Nat} {body : SS} {ds : List D} {st st2 : Store} {a : D} (h : wps (body (ds.map some ++ List.replicate (n - ds.length) none) st) (fun _ st' => swept st (.ok .non st') = .ok a st2) (fun _ _ => False) (fun _ _ => False) (fun d st' => swept st (.ok d st') = .ok a st2)) : fnBody n body ds st = .ok a st2 := by
  rw [fnBody_ev]
  cases e : body (ds.map some ++ List.replicate (n - ds.length) none) st with
  | nx a st => rw [e] at h; exact h.run
  | rt a st => rw [e] at h; exact h.run
  | ct a st => rw [e] at h; exact h.run.elim
  | bk a st => rw [e] at h; exact h.run.elim
  | exc x st => rw [e] at h; exact h.run.elim
  | stuck => rw [e] at h; exact h.run.elim
end L3
namespace L3
open PySem L2
@[simp] theorem swept_new {st more : Store} : swept st (.ok (.ref st.length) (st ++ more)) = .ok (.ref st.length) (st ++ more) := by
  unfold swept
  simp
theorem ofN_at {n i : Nat} (h : i < n) : ((List.range n).map ofN)[i]? = some (.int i) := by simp [ofN, h]
end L3
namespace L3
open PySem L2
/-- the store has only grown -/
def Grow (st s : Store) : Prop := ∃ more, s = st ++ more
theorem Grow.refl {st : Store} : Grow st st := ⟨[], by simp⟩
theorem Grow.push {st s more : Store} (h : Grow st s) : Grow st (s ++ more) := by
  obtain ⟨m, rfl⟩ := h
  exact ⟨m ++ more, by simp⟩
theorem Grow.swept {st s : Store} {d : D} (h : Grow st s) (hd : d.low 0 = true) : L3.swept st (.ok d s) = .ok d st := by
  obtain ⟨m, rfl⟩ := h
  exact swept_push hd
end L3
namespace L3
open PySem L2
theorem atI_mem {α : Type} {xs : List α} {i : Int} (h : 0 ≤ i ∧ i < xs.length) : ∃ d ∈ xs, L2.atI xs i = some d := by
  obtain ⟨j, rfl⟩ := Int.eq_ofNat_of_zero_le h.1
  have hj : j < xs.length := by omega
  exact ⟨xs[j], by simp, by rw [atI_ofNat]; simp [hj]⟩
theorem atI_all {α : Type} {P : α → Prop} {xs : List α} {i : Int} (h : 0 ≤ i ∧ i < xs.length) (hp : ∀ d ∈ xs, P d) : ∃ d, L2.atI xs i = some d ∧ P d := by
  obtain ⟨d, hd, e⟩ := atI_mem h
  exact ⟨d, e, hp d hd⟩
end L3
namespace L3
open PySem L2
theorem wps_xswp {f : SS} {N C B : Envr → Store → Prop} {R : D → Store → Prop} {st : Store} {ρ : Envr} (h : wps (f ρ st) (fun ρ' s => N ρ' s ∧ N ρ' (s.take st.length)) C B R) : wps (xSwp f ρ st) N C B R := by
  unfold xSwp
  cases e : f ρ st with
  | nx a s =>
    rw [e, wps_nx] at h
    simp only
    split
    · rw [wps_nx]; exact h.2
    · rw [wps_nx]; exact h.1
  | ct a s => rw [e] at h; exact ⟨h.run⟩
  | bk a s => rw [e] at h; exact ⟨h.run⟩
  | rt a s => rw [e] at h; exact ⟨h.run⟩
  | exc x s => rw [e] at h; exact ⟨h.run⟩
  | stuck => rw [e] at h; exact ⟨h.run⟩
theorem wp_swept_any {st s : Store} {d : D} {P : D → Prop} (h : P d) : wp (swept st (.ok d s)) (fun d _ => P d) := by
  unfold swept
  simp only
  split <;> exact ⟨h⟩
theorem wp_swept_up {st s : Store} {d : D} {Q : D → Store → Prop} (hd : d.low st.length = false) (h : Q d s) : wp (swept st (.ok d s)) Q := by
  unfold swept
  simp only
  rw [if_neg (fun q => by rw [hd] at q; exact absurd q.2.1 (by decide)), wp_ok]
  exact h
theorem ok_of_wp {r : Res D} {d : D} (h : wp r (fun a _ => a = d)) : ∃ st, r = .ok d st := by
  cases r with
  | ok a s => rw [wp_ok] at h; exact ⟨s, by rw [h]⟩
  | exc x s => rw [wp_exc] at h; exact h.elim
  | stuck => rw [wp_stuck] at h; exact h.elim
end L3

/-! L6: reckoning with dicts and more. -/
namespace L3
open PySem L2
@[simp] theorem keyOf_str {z : Str} : keyOf (.str z) = some (.inr z) := (rfl)
@[simp] theorem keyOf_int {z : Int} : keyOf (.int z) = some (.inl z) := (rfl)
theorem vDix_ev {n : Nat} {z : Str} {st : Store} {kvs : List (Key × D)} {d : D} (h : st[n]? = some (.dK kvs)) (hd : lookD kvs (.inr z) = some d) : vDix (.ref n) (.str z) st = .ok d st := by
  unfold vDix
  simp [h, hd]
/-- a dict's item put -/
noncomputable def putD (o i v : D) (ρ : Envr) (st : Store) : SRes := match o, keyOf i with
  | .ref n, some k => match st[n]? with
    | some (.dK kvs) => if kvs.length < sizeLine then .nx ρ (st.set n (.dK (setD kvs k v))) else .stuck
    | _ => .stuck
  | _, _ => .stuck
@[simp] theorem xSetD_ev {fv fo fi : SE} {ρ : Envr} {st : Store} : xSetD fv fo fi ρ st = (fv ρ st).thn fun v st => (fo ρ st).thn fun o st => (fi ρ st).thn fun i st => putD o i v ρ st := (rfl)
theorem putD_ev {n : Nat} {z : Str} {v : D} {ρ : Envr} {st : Store} {kvs : List (Key × D)} (h : st[n]? = some (.dK kvs)) (hl : kvs.length < 1000) : putD (.ref n) (.str z) v ρ st = .nx ρ (st.set n (.dK (setD kvs (.inr z) v))) := by
  unfold putD
  simp only [keyOf_str, h]
  rw [if_pos (by have := sizeLine_eq; omega)]
@[simp] theorem sDisp_ev {ks : List Key} {f : SL} {ρ : Envr} {st : Store} : sDisp ks f ρ st = (f ρ (st ++ [.dK []])).bind fun ds st' => match st'[st.length]? with
  | some (.dK []) => if ds.length = ks.length then .ok (.ref st.length) (st'.set st.length (.dK (dictOf ks ds))) else .stuck
  | _ => .stuck := (rfl)
theorem mIndex_ev {n : Nat} {st : Store} {ns : List Int} {i : Int} {j : Nat} (h : st[n]? = some (.lst (ns.map .int))) (hj : ns.findIdx? (fun z => decide (z = i)) = some j) : mIndex n [.int i] st = .ok (.int j) st := by
  unfold mIndex
  simp only [h, intsOf_map, hj]
theorem vMul_tup {a : List D} {k : Int} {st : Store} (h1 : -1000 ≤ k ∧ k ≤ 1000) (h2 : a.length ≤ 1000) : vMul (.tup a) (.int k) st = .ok (.tup (List.replicate k.toNat a).flatten) st := by
  unfold vMul
  simp only
  rw [if_pos ⟨h1.1, h1.2, h2⟩]
theorem vMul_lst {a : List D} {k : Int} {n : Nat} {st : Store} (h : st[n]? = some (.lst a)) (h1 : -1000 ≤ k ∧ k ≤ 1000) (h2 : a.length ≤ 1000) : vMul (.ref n) (.int k) st = .ok (.ref st.length) (st ++ [.lst (List.replicate k.toNat a).flatten]) := by
  unfold vMul
  simp only [h]
  have h3 : a.length * k.toNat ≤ 1000 * 1000 := Nat.mul_le_mul h2 (by omega)
  rw [if_pos ⟨by omega, by omega, by have := sizeLine_eq; omega⟩]
theorem srcOf_ref {n : Nat} {st : Store} : srcOf (.ref n) st = match st[n]? with
  | some (.lst xs) => some (.lst n xs)
  | _ => none := (rfl)
@[simp] theorem bList_tup {xs : List D} {st : Store} : bList [.tup xs] st = .ok (.ref st.length) (st ++ [.lst xs]) := by simp [bList, seqOf]
end L3
namespace L3
open PySem L2
theorem ixN_last {n : Nat} : ixN (n + 1) (-1) = some n := by
  unfold ixN
  rw [if_neg (by omega), if_pos (by omega)]
  congr 1
  omega
@[simp] theorem atI_last {xs : List D} {x : D} : L2.atI (xs ++ [x]) (-1) = some x := by
  unfold L2.atI
  rw [List.length_append, List.length_singleton, ixN_last]
  simp
end L3
namespace L3
open PySem L2
theorem set_a {st : Store} {a x : SO} : (st ++ [a]).set st.length x = st ++ [x] := by simp
theorem set_a0 {st : Store} {a b x : SO} : (st ++ [a, b]).set st.length x = st ++ [x, b] := by simp
theorem set_a1 {st : Store} {a b x : SO} : (st ++ [a, b]).set (st.length + 1) x = st ++ [a, x] := by
  rw [show st.length + 1 = (st ++ [a]).length by simp, show st ++ [a, b] = (st ++ [a]) ++ [b] by simp, set_a]; simp
theorem get_a0 {st more : Store} {a : SO} : (st ++ a :: more)[st.length]? = some a := by simp
theorem get_a1 {st more : Store} {a b : SO} : (st ++ a :: b :: more)[st.length + 1]? = some b := by
  rw [show st ++ a :: b :: more = (st ++ [a]) ++ b :: more by simp, show st.length + 1 = (st ++ [a]).length by simp, get_a0]
theorem get_a2 {st more : Store} {a b c : SO} : (st ++ a :: b :: c :: more)[st.length + 2]? = some c := by
  rw [show st ++ a :: b :: c :: more = (st ++ [a, b]) ++ c :: more by simp, show st.length + 2 = (st ++ [a, b]).length by simp, get_a0]
theorem swept_ref {st s : Store} {n : Nat} (h : st.length ≤ n) : swept st (.ok (.ref n) s) = .ok (.ref n) s := by
  unfold swept
  simp only
  rw [if_neg (fun q => by have := q.2.1; simp at this; omega)]
theorem ixN_nat {n j : Nat} (h : j < n) : ixN n (j : Int) = some j := by
  unfold ixN
  rw [if_pos (by omega), if_pos (by omega)]
  simp
@[simp] theorem xAugL_ev {F : F2} {fo fi fe : SE} {ρ : Envr} {st : Store} : xAugL F fo fi fe ρ st = (fo ρ st).thn fun o st => (fi ρ st).thn fun i st => match o, i with
  | .ref n, .int k => match st[n]? with
    | some (.lst xs) => match L2.atI xs k with
      | some x => (fe ρ st).thn fun y st => (F x y st).thn fun z st => match st[n]? with
        | some (.lst ys) => match ixN ys.length k with
          | some j => .nx ρ (st.set n (.lst (ys.set j z)))
          | none => .stuck
        | _ => .stuck
      | none => .stuck
    | _ => .stuck
  | _, _ => .stuck := (rfl)
end L3
namespace L3
open PySem L2
/-- what was there stays -/
structure Keep (st s : Store) : Prop where
  len : st.length ≤ s.length
  at_ : ∀ i : Nat, i < st.length → s[i]? = st[i]?
theorem Keep.refl {st : Store} : Keep st st := ⟨Nat.le_refl _, fun _ _ => rfl⟩
theorem Keep.trans {a b c : Store} (h : Keep a b) (h' : Keep b c) : Keep a c := ⟨Nat.le_trans h.len h'.len, fun i hi => (h'.at_ i (Nat.lt_of_lt_of_le hi h.len)).trans (h.at_ i hi)⟩
theorem Keep.push {st s more : Store} (h : Keep st s) : Keep st (s ++ more) := h.trans ⟨by simp, fun i hi => List.getElem?_append_left hi⟩
theorem Keep.set {st s : Store} (h : Keep st s) {i : Nat} {o : SO} (hi : st.length ≤ i) : Keep st (s.set i o) := ⟨by simpa using h.len, fun j hj => by rw [List.getElem?_set_ne (by omega)]; exact h.at_ j hj⟩
theorem Keep.take {st s : Store} (h : Keep st s) : s.take st.length = st := by
  apply List.ext_getElem?
  intro i
  rw [List.getElem?_take]
  split
  · exact h.at_ i (by assumption)
  · rw [List.getElem?_eq_none (by omega)]
theorem Keep.swept {st s : Store} {d : D} (h : Keep st s) (hd : d.low 0 = true) : L3.swept st (.ok d s) = .ok d st := by
  unfold L3.swept
  simp only
  rw [if_pos ⟨h.len, D.low_mono (Nat.zero_le _) d hd, fun i o hi e => .inl (by rw [← h.at_ i hi]; exact e)⟩, h.take]
theorem Keep.get {st s : Store} (h : Keep st s) {i : Nat} {o : SO} (e : st[i]? = some o) : s[i]? = some o := by rw [h.at_ i (lt_of_get e)]; exact e
end L3
namespace L3
open PySem L2
theorem srcOf_of {n : Nat} {st : Store} {xs : List D} (h : st[n]? = some (.lst xs)) : srcOf (.ref n) st = some (.lst n xs) := by rw [srcOf_ref, h]
theorem take_push {st more : Store} : (st ++ more).take st.length = st := by simp
theorem take_push1 {st more : Store} {a : SO} : (st ++ a :: more).take (st.length + 1) = st ++ [a] := by
  rw [show st ++ a :: more = (st ++ [a]) ++ more by simp, show st.length + 1 = (st ++ [a]).length by simp, take_push]
end L3
namespace L3
open PySem L2
theorem wp_sw1 {st : Store} {r : Res D} {Q : D → Store → Prop} : wp (swept st r) Q = wp r (fun d s => wp (swept st (.ok d s)) Q) := by
  cases r with
  | ok a s => simp
  | exc x s => rw [wp_exc]; exact wp_exc
  | stuck => simp
end L3
namespace L3
open PySem L2
@[simp] theorem vBack_tup {xs : List D} {st : Store} : vBack (.tup xs) st = .ok (.tup xs.reverse) st := (rfl)
end L3

/-! L7: the drawer's objects stand first in the store, what a def makes behind them. -/
namespace L3
open PySem L2
def W (p L : Store) : Store := p ++ L
theorem W_len {p L : Store} : (W p L).length = p.length + L.length := by simp [W]
theorem W_push {p L M : Store} : W p L ++ M = W p (L ++ M) := by simp [W]
theorem W_get {p L : Store} {n i : Nat} (h : n = p.length + i) : (W p L)[n]? = L[i]? := by
  subst h
  unfold W
  rw [List.getElem?_append_right (by omega)]
  simp
theorem W_set {p L : Store} {n i : Nat} {o : SO} (h : n = p.length + i) : (W p L).set n o = W p (L.set i o) := by
  subst h
  unfold W
  rw [List.set_append_right _ _ (by omega)]
  simp
/-- a drawer: c objects, good for k draws -/
structure Pool (c : Nat) (G : Nat → Store → Prop) : Prop where
  len : ∀ {k p}, G k p → p.length = c
  low : ∀ {k p}, G k p → ∀ o ∈ p, o.low c = true
  mono : ∀ {k k' p}, k ≤ k' → G k p → G k' p
theorem swept_W {p p' L L' : Store} {d : D} (hl : p'.length = p.length) (ho : ∀ o ∈ p', o.low p.length = true) (hd : d.low 0 = true) (K : Keep L L') : swept (W p L) (.ok d (W p' L')) = .ok d (W p' L) := by
  have hw : ∀ {n : Nat} {o : SO}, o.low p.length = true → p.length ≤ n → o.low n = true := by
    intro n o h hn
    cases o with
    | lst ds => exact D.lows_mono hn ds h
    | dK kvs =>
      have : ∀ l : List (Key × D), fpure p.length l = true → fpure n l = true := by
        intro l
        induction l with
        | nil => intro _; rfl
        | cons a r ih => intro q; simp only [fpure, Bool.and_eq_true] at q ⊢; exact ⟨D.low_mono hn _ q.1, ih q.2⟩
      exact this kvs h
    | ins C fs =>
      have : ∀ l : List (Str × D), fpure p.length l = true → fpure n l = true := by
        intro l
        induction l with
        | nil => intro _; rfl
        | cons a r ih => intro q; simp only [fpure, Bool.and_eq_true] at q ⊢; exact ⟨D.low_mono hn _ q.1, ih q.2⟩
      exact this fs h
  have hK := K.len
  unfold swept
  simp only
  rw [if_pos]
  · congr 1
    unfold W
    rw [List.take_append, List.length_append, List.take_of_length_le (by omega), show p.length + L.length - p'.length = L.length by omega, K.take]
  · refine ⟨by rw [W_len, W_len]; omega, D.low_mono (Nat.zero_le _) d hd, fun i o hi e => ?_⟩
    rw [W_len] at hi
    by_cases h : i < p'.length
    · right
      unfold W at e
      rw [List.getElem?_append_left h] at e
      exact hw (ho o (List.mem_of_getElem? e)) (by rw [W_len]; omega)
    · left
      rw [W_get (i := i - p.length) (by omega)] at e ⊢
      rw [← K.at_ _ (by omega)]
      exact e
theorem Keep.app {L M : Store} : Keep L (L ++ M) := Keep.refl.push
section
variable {c : Nat} {G : Nat → Store → Prop} (PL : Pool c G) {k k' : Nat} {p p' L L' : Store}
theorem Pool.swp (PL : Pool c G) (h : G k p) (h' : G k' p') {d : D} (hd : d.low 0 = true) (K : Keep L L') : swept (W p L) (.ok d (W p' L')) = .ok d (W p' L) :=
  swept_W (by rw [PL.len h, PL.len h']) (by rw [PL.len h]; exact PL.low h') hd K
theorem Pool.swp1 (PL : Pool c G) (h : G k p) (h' : G k' p') {d : D} {M : Store} (hd : d.low 0 = true) : swept (W p L) (.ok d (W p' (L ++ M))) = .ok d (W p' L) := PL.swp h h' hd .app
theorem Pool.swp0 (PL : Pool c G) (h : G k p) (h' : G k' p') {d : D} : swept (W p L) (.ok d (W p' L)) = .ok d (W p' L) := swept_len (by rw [W_len, W_len, PL.len h, PL.len h'])
end
theorem refW {c : Nat} {p L : Store} (h : p.length = c) : (W p L).length = c + L.length := by rw [W_len, h]
/-! the objects behind: by their places -/
theorem at_0 {L M : Store} {a : SO} {n : Nat} (h : n = L.length) : (L ++ a :: M)[n]? = some a := by subst h; simp
theorem at_1 {L M : Store} {a b : SO} {n : Nat} (h : n = L.length + 1) : (L ++ a :: b :: M)[n]? = some b := by subst h; exact get_a1
theorem at_2 {L M : Store} {a b d : SO} {n : Nat} (h : n = L.length + 2) : (L ++ a :: b :: d :: M)[n]? = some d := by subst h; exact get_a2
theorem at_3 {L M : Store} {a b d e : SO} {n : Nat} (h : n = L.length + 3) : (L ++ a :: b :: d :: e :: M)[n]? = some e := by
  rw [show L ++ a :: b :: d :: e :: M = (L ++ [a]) ++ b :: d :: e :: M by simp]; exact at_2 (by simp; omega)
theorem st_0 {L M : Store} {a x : SO} {n : Nat} (h : n = L.length) : (L ++ a :: M).set n x = L ++ x :: M := by subst h; simp
theorem st_1 {L M : Store} {a b x : SO} {n : Nat} (h : n = L.length + 1) : (L ++ a :: b :: M).set n x = L ++ a :: x :: M := by
  rw [show L ++ a :: b :: M = (L ++ [a]) ++ b :: M by simp, st_0 (by simp; omega)]; simp
theorem st_2 {L M : Store} {a b d x : SO} {n : Nat} (h : n = L.length + 2) : (L ++ a :: b :: d :: M).set n x = L ++ a :: b :: x :: M := by
  rw [show L ++ a :: b :: d :: M = (L ++ [a]) ++ b :: d :: M by simp, st_1 (by simp; omega)]; simp
theorem st_3 {L M : Store} {a b d e x : SO} {n : Nat} (h : n = L.length + 3) : (L ++ a :: b :: d :: e :: M).set n x = L ++ a :: b :: d :: x :: M := by
  rw [show L ++ a :: b :: d :: e :: M = (L ++ [a]) ++ b :: d :: e :: M by simp, st_2 (by simp; omega)]; simp
/-- append to the list at a place -/
theorem app_ev {st : Store} {n : Nat} {xs : List D} {y : D} (h : st[n]? = some (.lst xs)) (hl : xs.length < 10 ^ 6) {s : Store} (hs : s = st.set n (.lst (xs ++ [y]))) : mAppend n [y] st = .ok .non s := by rw [mAppend_ev h hl, hs]
end L3
namespace L3
open PySem L2
theorem wp_ex {α : Type} {r : Res α} {Q : α → Store → Prop} (h : wp r Q) : ∃ a s, r = .ok a s ∧ Q a s := by
  cases r with
  | ok a s => rw [wp_ok] at h; exact ⟨a, s, rfl, h⟩
  | exc x s => rw [wp_exc] at h; exact h.elim
  | stuck => rw [wp_stuck] at h; exact h.elim
theorem Keep.sweptB {st s : Store} {b : Bool} (h : Keep st s) : L3.sweptB st (.ok b s) = .ok b st := by
  unfold L3.sweptB
  simp only
  rw [if_pos ⟨h.len, fun i o hi e => .inl (by rw [← h.at_ i hi]; exact e)⟩, h.take]
end L3

namespace Ap
open PySem L2 L3
def topS (i : Nat) : Stmt := PySem.Challenge.pw_anyplay_k07_rows.main.body.getD i (.Pass ⟨0, 0, 0, 0⟩)
abbrev s_row_of : Stmt := topS 1
abbrev N_row_of : List Str := ["code", "rounds", "told", "left", "kind", "steps"]
theorem sc_row_of : FnScope N_row_of ["code", "rounds"] (defScope s_row_of) := ⟨rfl, rfl, rfl, by decide +kernel, rfl, by decide +kernel, by decide +kernel⟩
noncomputable def b_row_of : SS :=
    (xSeq (xAsg (.nm 2) (sTup sNil))
    (xSeq (xAsg (.nm 3) (sCB bList (sCons (sVar 1) sNil)))
    (xSeq (xFor (iSeq (s2 vIx (sVar 0) (sC (.int 1)))) (.tp [(.nm 4), (.nm 5)]) (xAsg (.nm 2) (s2 vAdd (sVar 2) (s2 vMul (sVar 5) (sIte (sBool (s2 vEq (sVar 4) (sC (.str "any")))) (sML mPop (sVar 3) (sCons (sC (.int 0)) sNil)) (sC (.int 1)))))))
    (xRet (sVar 2)))))
noncomputable def F_row_of : FL := fnBody 6 b_row_of
abbrev s_way_of_step : Stmt := topS 2
abbrev N_way_of_step : List Str := ["step", "places"]
theorem sc_way_of_step : FnScope N_way_of_step ["step", "places"] (defScope s_way_of_step) := ⟨rfl, rfl, rfl, by decide +kernel, rfl, by decide +kernel, by decide +kernel⟩
noncomputable def b_way_of_step : SS :=
    (xRet (sIte (sBool (s2 vEq (s2 vIx (sVar 0) (sC (.int 0))) (sC (.str "by")))) (s2 vIx (sVar 0) (sC (.int 2))) (s2 vSub (s2 vIx (sVar 0) (sC (.int 2))) (s2 vIx (sVar 1) (s2 vIx (sVar 0) (sC (.int 1)))))))
noncomputable def F_way_of_step : FL := fnBody 2 b_way_of_step
abbrev s_moves_of : Stmt := topS 3
abbrev N_moves_of : List Str := ["code", "rounds", "places", "told", "step", "way", "axis"]
theorem sc_moves_of : FnScope N_moves_of ["code", "rounds"] (defScope s_moves_of) := ⟨rfl, rfl, rfl, by decide +kernel, rfl, by decide +kernel, by decide +kernel⟩
noncomputable def b_moves_of : SS :=
    (xSeq (xAsg (.nm 2) (sLc (iSeq (s2 vIx (sVar 0) (sC (.int 0)))) (.nm 6) sYes (sC (.int 0)) [6]))
    (xSeq (xAsg (.nm 3) (sLst sNil))
    (xSeq (xFor (iSeq (sCB F_row_of (sCons (sVar 0) (sCons (sVar 1) sNil)))) (.nm 4) (xIf (sBool (s2 vEq (s2 vIx (sVar 4) (sC (.int 0))) (sC (.str "cut")))) (xExpr (sML mAppend (sVar 3) (sCons (sTup (sCons (s2 vIx (sVar 4) (sC (.int 1))) (sCons (sCB bTuple (sCons (sVar 2) sNil)) sNil))) sNil))) (xSeq (xAsg (.nm 5) (sCB F_way_of_step (sCons (sVar 4) (sCons (sVar 2) sNil))))
    (xSeq (xAugL vAddI (sVar 2) (s2 vIx (sVar 4) (sC (.int 1))) (sVar 5))
    (xExpr (sML mAppend (sVar 3) (sCons (sTup (sCons (s2 vIx (sVar 4) (sC (.int 1))) (sCons (sVar 5) sNil))) sNil)))))))
    (xRet (sVar 3)))))
noncomputable def F_moves_of : FL := fnBody 7 b_moves_of
abbrev s_is_cut : Stmt := topS 4
abbrev N_is_cut : List Str := ["move"]
theorem sc_is_cut : FnScope N_is_cut ["move"] (defScope s_is_cut) := ⟨rfl, rfl, rfl, by decide +kernel, rfl, by decide +kernel, by decide +kernel⟩
noncomputable def b_is_cut : SS :=
    (xRet (sIsi "str" (s2 vIx (sVar 0) (sC (.int 0)))))
noncomputable def F_is_cut : FL := fnBody 1 b_is_cut
abbrev s_cuts_at : Stmt := topS 5
abbrev N_cuts_at : List Str := ["code", "rounds", "move"]
theorem sc_cuts_at : FnScope N_cuts_at ["code", "rounds"] (defScope s_cuts_at) := ⟨rfl, rfl, rfl, by decide +kernel, rfl, by decide +kernel, by decide +kernel⟩
noncomputable def b_cuts_at : SS :=
    (xRet (sSwp (sCB bTuple (sCons (sLc (iSeq (sCB F_moves_of (sCons (sVar 0) (sCons (sVar 1) sNil)))) (.nm 2) (sTruth (sCB F_is_cut (sCons (sVar 2) sNil))) (sVar 2) [2]) sNil))))
noncomputable def F_cuts_at : FL := fnBody 3 b_cuts_at
abbrev s_way_of : Stmt := topS 6
abbrev N_way_of : List Str := ["code", "rounds", "move"]
theorem sc_way_of : FnScope N_way_of ["code", "rounds"] (defScope s_way_of) := ⟨rfl, rfl, rfl, by decide +kernel, rfl, by decide +kernel, by decide +kernel⟩
noncomputable def b_way_of : SS :=
    (xRet (sSwp (sCB bSum (sCons (sLc (iSeq (sCB F_moves_of (sCons (sVar 0) (sCons (sVar 1) sNil)))) (.nm 2) (sNot (sTruth (sCB F_is_cut (sCons (sVar 2) sNil)))) (sCB bAbs (sCons (s2 vIx (sVar 2) (sC (.int 1))) sNil)) [2]) sNil))))
noncomputable def F_way_of : FL := fnBody 3 b_way_of
abbrev s_turns_at : Stmt := topS 7
abbrev N_turns_at : List Str := ["code", "rounds", "axis", "place", "before", "told", "move"]
theorem sc_turns_at : FnScope N_turns_at ["code", "rounds", "axis"] (defScope s_turns_at) := ⟨rfl, rfl, rfl, by decide +kernel, rfl, by decide +kernel, by decide +kernel⟩
noncomputable def b_turns_at : SS :=
    (xSeq (xAsg (.tp [(.nm 3), (.nm 4)]) (sTup (sCons (sC (.int 0)) (sCons (sC (.int 0)) sNil))))
    (xSeq (xAsg (.nm 5) (sLst sNil))
    (xSeq (xSwp (xFor (iSeq (sCB F_moves_of (sCons (sVar 0) (sCons (sVar 1) sNil)))) (.nm 6) (xIf (sAnd (sNot (sTruth (sCB F_is_cut (sCons (sVar 6) sNil)))) (sAnd (sBool (s2 vEq (s2 vIx (sVar 6) (sC (.int 0))) (sVar 2))) (sBool (s2 vNe (s2 vIx (sVar 6) (sC (.int 1))) (sC (.int 0)))))) (xSeq (xIf (sBool (s2 vLt (s2 vMul (sVar 4) (s2 vIx (sVar 6) (sC (.int 1)))) (sC (.int 0)))) (xExpr (sML mAppend (sVar 5) (sCons (sVar 3) sNil))) xNil)
    (xSeq (xAug 3 vAddI (s2 vIx (sVar 6) (sC (.int 1))))
    (xAsg (.nm 4) (sIte (sBool (s2 vGt (s2 vIx (sVar 6) (sC (.int 1))) (sC (.int 0)))) (sC (.int 1)) (s1 vNeg (sC (.int 1))))))) xNil)))
    (xRet (sCB bTuple (sCons (sVar 5) sNil))))))
noncomputable def F_turns_at : FL := fnBody 7 b_turns_at
abbrev s_law_rig : Stmt := topS 9
abbrev N_law_rig : List Str := ["script", "ropes", "salt", "cell"]
theorem sc_law_rig : FnScope N_law_rig ["script"] (defScope s_law_rig) := ⟨rfl, rfl, rfl, by decide +kernel, rfl, by decide +kernel, by decide +kernel⟩
noncomputable def b_law_rig : SS :=
    (xSeq (xAsg (.nm 1) (sLst sNil))
    (xSeq (xAsg (.nm 2) (sC (.int 104395301)))
    (xSeq (xSwp (xFor (iSeq (sSlice vSlice (sVar 0) sNoPart (sPart (sC (.int 63))))) (.nm 3) (xSeq (xAsg (.nm 2) (s2 vMod (sCB bInt (sCons (s2 vAdd (s2 vAdd (s2 vMul (sVar 2) (sC (.int 1307))) (s2 vMod (sCB bInt (sCons (sVar 3) sNil)) (sC (.int 1000000579)))) (sC (.int 179))) sNil)) (sC (.int 4294964167))))
    (xIf (sBool (s2 vGe (sCB bInt (sCons (sVar 3) sNil)) (s2 vPow (sC (.int 10)) (sC (.int 18))))) (xExpr (sML mAppend (sVar 1) (sCons (s2 vMod (sCB bInt (sCons (sVar 3) sNil)) (s2 vPow (sC (.int 10)) (sC (.int 63)))) sNil))) xNil))))
    (xRet (sDisp [.inr "ropes", .inr "salt", .inr "knot"] (sCons (sVar 1) (sCons (sVar 2) (sCons (sC (.int 0)) sNil))))))))
noncomputable def F_law_rig : FL := fnBody 4 b_law_rig
abbrev s_law_take : Stmt := topS 10
abbrev N_law_take : List Str := ["rig", "many", "ropes", "told", "knot", "one", "two"]
theorem sc_law_take : FnScope N_law_take ["rig", "many"] (defScope s_law_take) := ⟨rfl, rfl, rfl, by decide +kernel, rfl, by decide +kernel, by decide +kernel⟩
noncomputable def b_law_take : SS :=
    (xSeq (xSetD (s2 vAdd (s2 vDix (sVar 0) (sC (.str "knot"))) (sC (.int 1))) (sVar 0) (sC (.str "knot")))
    (xSeq (xAsg (.nm 2) (s2 vDix (sVar 0) (sC (.str "ropes"))))
    (xSeq (xIf (sBool (s2 vGt (sCB bLen (sCons (sVar 2) sNil)) (sC (.int 0)))) (xSeq (xAsg (.nm 3) (s2 vMod (sCB bInt (sCons (s2 vIx (sVar 2) (s1 vNeg (sC (.int 1)))) sNil)) (sVar 1)))
    (xSeq (xSetL (s2 vFdiv (s2 vIx (sVar 2) (s1 vNeg (sC (.int 1)))) (sVar 1)) (sVar 2) (s1 vNeg (sC (.int 1))))
    (xSeq (xIf (sBool (s2 vLt (s2 vIx (sVar 2) (s1 vNeg (sC (.int 1)))) (sC (.int 3803)))) (xExpr (sML mPop (sVar 2) sNil)) xNil)
    (xRet (sVar 3))))) xNil)
    (xSeq (xAsg (.nm 4) (s2 vDix (sVar 0) (sC (.str "knot"))))
    (xSeq (xAsg (.nm 5) (s2 vMod (sCB bInt (sCons (s2 vAdd (s2 vMul (s2 vDix (sVar 0) (sC (.str "salt"))) (sC (.int 16807))) (s2 vMul (sVar 4) (sC (.int 52021)))) sNil)) (sC (.int 4294964167))))
    (xSeq (xAsg (.nm 6) (s2 vMod (sCB bInt (sCons (s2 vAdd (s2 vAdd (s2 vMul (sVar 5) (sC (.int 48271))) (s2 vFdiv (sVar 5) (sC (.int 701)))) (s2 vMul (s2 vMul (sVar 4) (sVar 4)) (sC (.int 107)))) sNil)) (sC (.int 2147483629))))
    (xRet (s2 vMod (sCB bInt (sCons (s2 vFdiv (sVar 6) (sC (.int 200))) sNil)) (sVar 1)))))))))
noncomputable def F_law_take : FL := fnBody 7 b_law_take
abbrev s_law_pick : Stmt := topS 11
abbrev N_law_pick : List Str := ["rig", "row"]
theorem sc_law_pick : FnScope N_law_pick ["rig", "row"] (defScope s_law_pick) := ⟨rfl, rfl, rfl, by decide +kernel, rfl, by decide +kernel, by decide +kernel⟩
noncomputable def b_law_pick : SS :=
    (xRet (s2 vIx (sVar 1) (sCB F_law_take (sCons (sVar 0) (sCons (sCB bLen (sCons (sVar 1) sNil)) sNil)))))
noncomputable def F_law_pick : FL := fnBody 2 b_law_pick
abbrev s_law_steps : Stmt := topS 12
abbrev N_law_steps : List Str := ["rig", "axes", "many", "tos", "steps", "habit", "k", "axis", "size", "way", "step", "kind"]
theorem sc_law_steps : FnScope N_law_steps ["rig", "axes", "many", "tos"] (defScope s_law_steps) := ⟨rfl, rfl, rfl, by decide +kernel, rfl, by decide +kernel, by decide +kernel⟩
noncomputable def b_law_steps : SS :=
    (xSeq (xAsg (.nm 4) (sLst sNil))
    (xSeq (xAsg (.nm 5) (sCB F_law_take (sCons (sVar 0) (sCons (sC (.int 4)) sNil))))
    (xSeq (xFor (iRange1 (sCons (sVar 2) sNil)) (.nm 6) (xSeq (xAsg (.nm 7) (sCB F_law_take (sCons (sVar 0) (sCons (sVar 1) sNil))))
    (xSeq (xIf (sBool (s2 vEq (sVar 5) (sC (.int 0)))) (xAsg (.nm 7) (sC (.int 0))) xNil)
    (xSeq (xAsg (.nm 8) (sSwp (sCB F_law_pick (sCons (sVar 0) (sCons (sLst (sCons (sC (.int 1)) (sCons (sC (.int 1)) (sCons (sC (.int 2)) (sCons (sC (.int 3)) (sCons (sC (.int 5)) (sCons (s2 vAdd (sC (.int 1)) (sCB F_law_take (sCons (sVar 0) (sCons (sC (.int 40)) sNil)))) (sCons (s2 vPow (sC (.int 10)) (sC (.int 9))) sNil)))))))) sNil)))))
    (xSeq (xAsg (.nm 9) (s2 vMul (sVar 8) (s2 vSub (sC (.int 1)) (s2 vMul (sC (.int 2)) (sCB F_law_take (sCons (sVar 0) (sCons (sC (.int 2)) sNil)))))))
    (xSeq (xIf (sBool (s2 vEq (sVar 5) (sC (.int 1)))) (xAsg (.nm 9) (sVar 8)) xNil)
    (xSeq (xAsg (.nm 10) (sTup (sCons (sC (.str "by")) (sCons (sVar 7) (sCons (sVar 9) sNil)))))
    (xSeq (xAsg (.nm 11) (sCB F_law_take (sCons (sVar 0) (sCons (sC (.int 5)) sNil))))
    (xSeq (xIf (sAnd (sBool (s2 vEq (sVar 11) (sC (.int 0)))) (sTruth (sVar 3))) (xAsg (.nm 10) (sTup (sCons (sC (.str "to")) (sCons (sVar 7) (sCons (sSwp (sCB F_law_pick (sCons (sVar 0) (sCons (sLst (sCons (sC (.int 0)) (sCons (sC (.int 0)) (sCons (sC (.int 1)) (sCons (sC (.int 5)) (sCons (s1 vNeg (sC (.int 3))) (sCons (s2 vSub (sCB F_law_take (sCons (sVar 0) (sCons (sC (.int 21)) sNil))) (sC (.int 10))) (sCons (s2 vPow (sC (.int 10)) (sC (.int 9))) sNil)))))))) sNil)))) sNil))))) (xIf (sAnd (sBool (s2 vEq (sVar 11) (sC (.int 1)))) (sAnd (sBool (s2 vGt (sVar 6) (sC (.int 0)))) (sBool (s2 vEq (s2 vIx (s2 vIx (sVar 4) (s1 vNeg (sC (.int 1)))) (sC (.int 0))) (sC (.str "by")))))) (xAsg (.nm 10) (sTup (sCons (sC (.str "by")) (sCons (s2 vIx (s2 vIx (sVar 4) (s1 vNeg (sC (.int 1)))) (sC (.int 1))) (sCons (s2 vSub (sC (.int 0)) (s2 vIx (s2 vIx (sVar 4) (s1 vNeg (sC (.int 1)))) (sC (.int 2)))) sNil))))) (xIf (sBool (s2 vEq (sVar 11) (sC (.int 2)))) (xAsg (.nm 10) (sTup (sCons (sC (.str "cut")) (sCons (sSwp (sCB F_law_pick (sCons (sVar 0) (sCons (sLst (sCons (sC (.str "a")) (sCons (sC (.str "b")) (sCons (sC (.str "hole")) (sCons (sC (.str "ab")) sNil))))) sNil)))) sNil)))) xNil)))
    (xExpr (sML mAppend (sVar 4) (sCons (sVar 10) sNil))))))))))))
    (xRet (sCB bTuple (sCons (sVar 4) sNil))))))
noncomputable def F_law_steps : FL := fnBody 12 b_law_steps
abbrev s_law_code : Stmt := topS 13
abbrev N_law_code : List Str := ["rig", "long", "axes", "kinds", "segments", "kind", "many", "tos", "names", "one", "name"]
theorem sc_law_code : FnScope N_law_code ["rig", "long"] (defScope s_law_code) := ⟨rfl, rfl, rfl, by decide +kernel, rfl, by decide +kernel, by decide +kernel⟩
noncomputable def b_law_code : SS :=
    (xSeq (xAsg (.nm 2) (s2 vAdd (sC (.int 1)) (sCB F_law_take (sCons (sVar 0) (sCons (sC (.int 3)) sNil)))))
    (xSeq (xAsg (.nm 3) (sSlice vSlice (sSlice vSlice (sLst (sCons (sC (.str "once")) (sCons (sC (.str "any")) (sCons (sC (.str "once")) (sCons (sC (.str "any")) (sCons (sC (.str "once")) sNil)))))) (sPart (sCB F_law_take (sCons (sVar 0) (sCons (sC (.int 4)) sNil)))) sNoPart) sNoPart (sPart (s2 vAdd (sC (.int 1)) (sCB F_law_take (sCons (sVar 0) (sCons (sC (.int 5)) sNil)))))))
    (xSeq (xIf (sBool (s2 vEq (sCB F_law_take (sCons (sVar 0) (sCons (sC (.int 6)) sNil))) (sC (.int 0)))) (xAsg (.nm 3) (sLst (sCons (sC (.str "any")) (sCons (sC (.str "any")) sNil)))) xNil)
    (xSeq (xAsg (.nm 4) (sLst sNil))
    (xSeq (xFor (iSeq (sVar 3)) (.nm 5) (xSeq (xAsg (.nm 6) (s2 vAdd (sC (.int 1)) (sSwp (sCB F_law_take (sCons (sVar 0) (sCons (sSwp (s2 vIx (sLst (sCons (sC (.int 6)) (sCons (sC (.int 30)) sNil))) (sVar 1))) sNil))))))
    (xSeq (xAsg (.nm 7) (sSwp (s2 vLt (sSwp (sCB bLen (sCons (sLc (iSeq (sVar 4)) (.nm 9) (sBool (s2 vEq (s2 vIx (sVar 9) (sC (.int 0))) (sC (.str "any")))) (sVar 9) [9]) sNil))) (sC (.int 2)))))
    (xExpr (sML mAppend (sVar 4) (sCons (sTup (sCons (sVar 5) (sCons (sCB F_law_steps (sCons (sVar 0) (sCons (sVar 2) (sCons (sVar 6) (sCons (sVar 7) sNil))))) sNil))) sNil))))))
    (xSeq (xAsg (.nm 8) (sSlice vSlice (sLst (sCons (sC (.str "x")) (sCons (sC (.str "y")) (sCons (sC (.str "z")) sNil)))) sNoPart (sPart (sVar 2))))
    (xRet (sTup (sCons (sSwp (sCB bTuple (sCons (sLc (iSeq (sVar 8)) (.nm 10) sYes (sTup (sCons (sVar 10) (sCons (sSwp (sCB F_law_pick (sCons (sVar 0) (sCons (sLst (sCons (sC (.int 0)) (sCons (sC (.int 3)) (sCons (s2 vPow (sC (.int 10)) (sC (.int 9))) sNil)))) sNil)))) sNil))) [10]) sNil))) (sCons (sCB bTuple (sCons (sVar 4) sNil)) sNil))))))))))
noncomputable def F_law_code : FL := fnBody 11 b_law_code
abbrev s_law_row : Stmt := topS 15
abbrev N_law_row : List Str := ["code", "rounds", "row", "at", "kind", "steps", "times"]
theorem sc_law_row : FnScope N_law_row ["code", "rounds"] (defScope s_law_row) := ⟨rfl, rfl, rfl, by decide +kernel, rfl, by decide +kernel, by decide +kernel⟩
noncomputable def b_law_row : SS :=
    (xSeq (xAsg (.nm 2) (sLst sNil))
    (xSeq (xAsg (.nm 3) (sC (.int 0)))
    (xSeq (xFor (iSeq (s2 vIx (sVar 0) (sC (.int 1)))) (.tp [(.nm 4), (.nm 5)]) (xSeq (xAsg (.nm 6) (sC (.int 1)))
    (xSeq (xIf (sBool (s2 vEq (sVar 4) (sC (.str "any")))) (xSeq (xAsg (.nm 6) (s2 vIx (sVar 1) (sVar 3)))
    (xAsg (.nm 3) (s2 vAdd (sVar 3) (sC (.int 1))))) xNil)
    (xAsg (.nm 2) (s2 vAdd (sVar 2) (s2 vMul (sCB bList (sCons (sVar 5) sNil)) (sVar 6)))))))
    (xRet (sVar 2)))))
noncomputable def F_law_row : FL := fnBody 7 b_law_row
abbrev s_law_rounds : Stmt := topS 14
abbrev N_law_rounds : List Str := ["rig", "code", "long", "rounds", "kind", "steps", "few", "lap", "row", "cuts", "at", "step"]
theorem sc_law_rounds : FnScope N_law_rounds ["rig", "code", "long"] (defScope s_law_rounds) := ⟨rfl, rfl, rfl, by decide +kernel, rfl, by decide +kernel, by decide +kernel⟩
noncomputable def b_law_rounds : SS :=
    (xSeq (xAsg (.nm 3) (sLst sNil))
    (xSeq (xFor (iSeq (s2 vIx (sVar 1) (sC (.int 1)))) (.tp [(.nm 4), (.nm 5)]) (xIf (sBool (s2 vEq (sVar 4) (sC (.str "any")))) (xSeq (xAsg (.nm 6) (sLst (sCons (sC (.int 1)) (sCons (sC (.int 1)) (sCons (sC (.int 2)) (sCons (sC (.int 3)) (sCons (s2 vAdd (sC (.int 1)) (sCB F_law_take (sCons (sVar 0) (sCons (sC (.int 7)) sNil)))) sNil)))))))
    (xExpr (sML mAppend (sVar 3) (sCons (sSwp (sCB F_law_pick (sCons (sVar 0) (sCons (sSwp (s2 vIx (sLst (sCons (sVar 6) (sCons (sLst (sCons (sC (.int 60)) (sCons (sC (.int 60)) (sCons (sC (.int 30)) (sCons (s2 vAdd (sC (.int 1)) (sCB F_law_take (sCons (sVar 0) (sCons (sC (.int 60)) sNil)))) sNil))))) sNil))) (sVar 2))) sNil)))) sNil)))) xNil))
    (xSeq (xFor (iRange1 (sCons (sC (.int 200)) sNil)) (.nm 7) (xSeq (xAsg (.nm 8) (sCB F_law_row (sCons (sVar 1) (sCons (sVar 3) sNil))))
    (xSeq (xAsg (.nm 9) (sSwp (sCB bLen (sCons (sLc (iSeq (sVar 8)) (.nm 11) (sBool (s2 vEq (s2 vIx (sVar 11) (sC (.int 0))) (sC (.str "cut")))) (sVar 11) [11]) sNil))))
    (xSeq (xIf (sOr (sAnd (sBool (s2 vLe (sCB bLen (sCons (sVar 8) sNil)) (sC (.int 2000)))) (sBool (s2 vLe (sVar 9) (sC (.int 300))))) (sSwpB (sBool (s2 vEq (sSwp (sCB bMax (sCons (s2 vAdd (sVar 3) (sLst (sCons (sC (.int 1)) sNil))) sNil))) (sC (.int 1)))))) xBreak xNil)
    (xSeq (xAsg (.nm 10) (sML mIndex (sVar 3) (sCons (sCB bMax (sCons (sVar 3) sNil)) sNil)))
    (xSetL (s2 vSub (s2 vSub (s2 vIx (sVar 3) (sVar 10)) (sC (.int 1))) (s2 vFdiv (s2 vIx (sVar 3) (sVar 10)) (sC (.int 12)))) (sVar 3) (sVar 10)))))))
    (xRet (sCB bTuple (sCons (sVar 3) sNil))))))
noncomputable def F_law_rounds : FL := fnBody 12 b_law_rounds
abbrev s_law_walk : Stmt := topS 16
abbrev N_law_walk : List Str := ["code", "row", "places", "cuts", "way", "turns", "last", "step", "axis", "goal", "moved", "sign"]
theorem sc_law_walk : FnScope N_law_walk ["code", "row"] (defScope s_law_walk) := ⟨rfl, rfl, rfl, by decide +kernel, rfl, by decide +kernel, by decide +kernel⟩
noncomputable def b_law_walk : SS :=
    (xSeq (xAsg (.nm 2) (sLc (iSeq (s2 vIx (sVar 0) (sC (.int 0)))) (.nm 8) sYes (sC (.int 0)) [8]))
    (xSeq (xAsg (.nm 3) (sLst sNil))
    (xSeq (xAsg (.nm 4) (sC (.int 0)))
    (xSeq (xAsg (.nm 5) (sLc (iSeq (s2 vIx (sVar 0) (sC (.int 0)))) (.nm 8) sYes (sLst sNil) [8]))
    (xSeq (xAsg (.nm 6) (sLc (iSeq (s2 vIx (sVar 0) (sC (.int 0)))) (.nm 8) sYes (sC (.int 0)) [8]))
    (xSeq (xFor (iSeq (sVar 1)) (.nm 7) (xSeq (xIf (sBool (s2 vEq (s2 vIx (sVar 7) (sC (.int 0))) (sC (.str "cut")))) (xSeq (xExpr (sML mAppend (sVar 3) (sCons (sTup (sCons (s2 vIx (sVar 7) (sC (.int 1))) (sCons (sCB bTuple (sCons (sVar 2) sNil)) sNil))) sNil)))
    xCont) xNil)
    (xSeq (xAsg (.nm 8) (s2 vIx (sVar 7) (sC (.int 1))))
    (xSeq (xAsg (.nm 9) (s2 vIx (sVar 7) (sC (.int 2))))
    (xSeq (xIf (sBool (s2 vEq (s2 vIx (sVar 7) (sC (.int 0))) (sC (.str "by")))) (xAsg (.nm 9) (s2 vAdd (s2 vIx (sVar 2) (sVar 8)) (s2 vIx (sVar 7) (sC (.int 2))))) xNil)
    (xSeq (xAsg (.nm 10) (s2 vSub (sVar 9) (s2 vIx (sVar 2) (sVar 8))))
    (xSeq (xIf (sBool (s2 vNe (sVar 10) (sC (.int 0)))) (xSeq (xAsg (.nm 11) (s2 vSub (sC (.int 1)) (s2 vMul (sC (.int 2)) (sCB bInt (sCons (s2 vLt (sVar 10) (sC (.int 0))) sNil)))))
    (xSeq (xIf (sBool (s2 vEq (s2 vIx (sVar 6) (sVar 8)) (s2 vSub (sC (.int 0)) (sVar 11)))) (xExpr (sML mAppend (s2 vIx (sVar 5) (sVar 8)) (sCons (s2 vIx (sVar 2) (sVar 8)) sNil))) xNil)
    (xSetL (sVar 11) (sVar 6) (sVar 8)))) xNil)
    (xSeq (xAsg (.nm 4) (s2 vAdd (sVar 4) (sCB bMax (sCons (sVar 10) (sCons (s2 vSub (sC (.int 0)) (sVar 10)) sNil)))))
    (xSetL (sVar 9) (sVar 2) (sVar 8))))))))))
    (xRet (sLst (sCons (sCB bTuple (sCons (sVar 3) sNil)) (sCons (sVar 4) (sCons (sVar 5) sNil)))))))))))
noncomputable def F_law_walk : FL := fnBody 12 b_law_walk
abbrev s_law_same : Stmt := topS 17
abbrev N_law_same : List Str := ["told", "due", "k"]
theorem sc_law_same : FnScope N_law_same ["told", "due"] (defScope s_law_same) := ⟨rfl, rfl, rfl, by decide +kernel, rfl, by decide +kernel, by decide +kernel⟩
noncomputable def b_law_same (G : FL) : SS :=
    (xSeq (xIf (sTruth (sIsi "str" (sVar 1))) (xRet (sAndV (sIsi "str" (sVar 0)) (s2 vEq (sVar 0) (sVar 1)))) xNil)
    (xSeq (xIf (sTruth (sIsi "int" (sVar 1))) (xRet (sAndV (sIsi "int" (sVar 0)) (sAndV (sNotV (sTruth (sIsi "bool" (sVar 0)))) (s2 vEq (sVar 0) (sVar 1))))) xNil)
    (xSeq (xIf (sOr (sNot (sTruth (sIsi "tuple" (sVar 0)))) (sBool (s2 vNe (sCB bLen (sCons (sVar 0) sNil)) (sCB bLen (sCons (sVar 1) sNil))))) (xRet (sC (.bl false))) xNil)
    (xSeq (xFor (iRange1 (sCons (sCB bLen (sCons (sVar 1) sNil)) sNil)) (.nm 2) (xIf (sNot (sTruth (sCB G (sCons (s2 vIx (sVar 0) (sVar 2)) (sCons (s2 vIx (sVar 1) (sVar 2)) sNil))))) (xRet (sC (.bl false))) xNil))
    (xRet (sC (.bl true)))))))
noncomputable def F_law_same : Nat → FL
  | 0 => fun _ _ => .stuck
  | n + 1 => fnBody 3 (b_law_same (F_law_same n))
abbrev s_law_held : Stmt := topS 18
abbrev N_law_held : List Str := ["code", "rounds", "row", "due", "axis"]
theorem sc_law_held : FnScope N_law_held ["code", "rounds"] (defScope s_law_held) := ⟨rfl, rfl, rfl, by decide +kernel, rfl, by decide +kernel, by decide +kernel⟩
noncomputable def b_law_held : SS :=
    (xSeq (xAsg (.nm 2) (sCB F_law_row (sCons (sVar 0) (sCons (sVar 1) sNil))))
    (xSeq (xAsg (.nm 3) (sCB F_law_walk (sCons (sVar 0) (sCons (sVar 2) sNil))))
    (xSeq (xIf (sOr (sNot (sTruth (sCB (F_law_same 20) (sCons (sCB F_row_of (sCons (sVar 0) (sCons (sVar 1) sNil))) (sCons (sCB bTuple (sCons (sVar 2) sNil)) sNil))))) (sNot (sTruth (sCB (F_law_same 20) (sCons (sCB F_cuts_at (sCons (sVar 0) (sCons (sVar 1) sNil))) (sCons (s2 vIx (sVar 3) (sC (.int 0))) sNil)))))) (xRet (sC (.bl false))) xNil)
    (xSeq (xIf (sNot (sTruth (sCB (F_law_same 20) (sCons (sCB F_way_of (sCons (sVar 0) (sCons (sVar 1) sNil))) (sCons (s2 vIx (sVar 3) (sC (.int 1))) sNil))))) (xRet (sC (.bl false))) xNil)
    (xSeq (xFor (iRange1 (sCons (sCB bLen (sCons (s2 vIx (sVar 0) (sC (.int 0))) sNil)) sNil)) (.nm 4) (xIf (sNot (sTruth (sCB (F_law_same 20) (sCons (sCB F_turns_at (sCons (sVar 0) (sCons (sVar 1) (sCons (sVar 4) sNil)))) (sCons (sCB bTuple (sCons (s2 vIx (s2 vIx (sVar 3) (sC (.int 2))) (sVar 4)) sNil)) sNil))))) (xRet (sC (.bl false))) xNil))
    (xRet (sC (.bl true))))))))
noncomputable def F_law_held : FL := fnBody 5 b_law_held
abbrev s_law : Stmt := topS 19
abbrev N_law : List Str := ["script", "rig", "long", "lap", "code", "rounds", "other", "many", "swing", "k"]
theorem sc_law : FnScope N_law ["script"] (defScope s_law) := ⟨rfl, rfl, rfl, by decide +kernel, rfl, by decide +kernel, by decide +kernel⟩
noncomputable def b_law : SS :=
    (xSeq (xAsg (.nm 1) (sCB F_law_rig (sCons (sVar 0) sNil)))
    (xSeq (xAsg (.nm 2) (sCB bInt (sCons (s2 vEq (sCB F_law_take (sCons (sVar 1) (sCons (sC (.int 7)) sNil))) (sC (.int 5))) sNil)))
    (xSeq (xFor (iRange1 (sCons (s2 vSub (sC (.int 3)) (s2 vMul (sC (.int 2)) (sVar 2))) sNil)) (.nm 3) (xSeq (xAsg (.nm 4) (sCB F_law_code (sCons (sVar 1) (sCons (sVar 2) sNil))))
    (xSeq (xAsg (.nm 5) (sCB F_law_rounds (sCons (sVar 1) (sCons (sVar 4) (sCons (sVar 2) sNil)))))
    (xSeq (xIf (sNot (sTruth (sCB F_law_held (sCons (sVar 4) (sCons (sVar 5) sNil))))) (xRet (sC (.bl false))) xNil)
    (xSeq (xIf (sAnd (sBool (s2 vGt (sCB bLen (sCons (sVar 5) sNil)) (sC (.int 0)))) (sNot (sTruth (sCB F_law_held (sCons (sVar 4) (sCons (s2 vMul (sTup (sCons (sC (.int 1)) sNil)) (sCB bLen (sCons (sVar 5) sNil))) sNil)))))) (xRet (sC (.bl false))) xNil)
    (xIf (sAnd (sBool (s2 vEq (sCB bLen (sCons (sVar 5) sNil)) (sC (.int 2)))) (sNot (sTruth (sVar 2)))) (xSeq (xAsg (.nm 6) (s1 vBack (sVar 5)))
    (xIf (sAnd (sSwpB (sBool (s2 vLe (sSwp (sCB bLen (sCons (sCB F_law_row (sCons (sVar 4) (sCons (sVar 6) sNil))) sNil))) (sC (.int 2000))))) (sNot (sTruth (sCB F_law_held (sCons (sVar 4) (sCons (sVar 6) sNil)))))) (xRet (sC (.bl false))) xNil)) xNil))))))
    (xSeq (xAsg (.nm 7) (s2 vAdd (sC (.int 1)) (sCB F_law_take (sCons (sVar 1) (sCons (sC (.int 9)) sNil)))))
    (xSeq (xAsg (.nm 8) (sSwp (sCB bTuple (sCons (sLc (iRange1 (sCons (sVar 7) sNil)) (.nm 9) sYes (sTup (sCons (sC (.str "by")) (sCons (sC (.int 0)) (sCons (s2 vMul (s2 vSub (sVar 7) (sVar 9)) (s2 vSub (sC (.int 1)) (s2 vMul (sC (.int 2)) (s2 vMod (sVar 9) (sC (.int 2)))))) sNil)))) [9]) sNil))))
    (xSeq (xAsg (.nm 8) (s2 vAdd (sVar 8) (sTup (sCons (sTup (sCons (sC (.str "to")) (sCons (sC (.int 0)) (sCons (sC (.int 0)) sNil)))) (sCons (sTup (sCons (sC (.str "to")) (sCons (sC (.int 0)) (sCons (sC (.int 0)) sNil)))) (sCons (sTup (sCons (sC (.str "cut")) (sCons (sC (.str "a")) sNil))) sNil))))))
    (xSeq (xAsg (.nm 4) (sTup (sCons (sTup (sCons (sTup (sCons (sC (.str "x")) (sCons (sC (.int 4)) sNil))) (sCons (sTup (sCons (sC (.str "y")) (sCons (sC (.int 0)) sNil))) sNil))) (sCons (sTup (sCons (sTup (sCons (sC (.str "any")) (sCons (sVar 8) sNil))) (sCons (sTup (sCons (sC (.str "once")) (sCons (sTup (sCons (sTup (sCons (sC (.str "by")) (sCons (sC (.int 1)) (sCons (s2 vSub (sC (.int 1)) (s2 vMul (sC (.int 2)) (sCB F_law_take (sCons (sVar 1) (sCons (sC (.int 2)) sNil))))) sNil)))) (sCons (sTup (sCons (sC (.str "cut")) (sCons (sC (.str "a")) sNil))) sNil))) sNil))) sNil))) sNil))))
    (xRet (sCB F_law_held (sCons (sVar 4) (sCons (sTup (sCons (s2 vAdd (sC (.int 1)) (sCB F_law_take (sCons (sVar 1) (sCons (sC (.int 5)) sNil)))) sNil)) sNil)))))))))))
noncomputable def F_law : FL := fnBody 10 b_law
structure Txt (K : PySem.W.Frag) (mg : Str → Option Value) : Prop where
  n_abs : mg "abs" = none
  n_bool : mg "bool" = none
  n_int : mg "int" = none
  n_isinstance : mg "isinstance" = none
  n_len : mg "len" = none
  n_list : mg "list" = none
  n_max : mg "max" = none
  n_range : mg "range" = none
  n_str : mg "str" = none
  n_sum : mg "sum" = none
  n_tuple : mg "tuple" = none
section
variable {P : Program} {w : World} {K : PySem.W.Frag} {mg : Str → Option Value} {base : Heap}
theorem ok_row_of (T : Txt K mg) {f : Addr} {fd : FuncData} (F : Fun K "row_of" "row_of" s_row_of f fd)   : FnOk P w K mg base CX0 1 f fd ["code", "rounds"] (spOf K 2 F_row_of) :=
  fn_ok (k := 0) F sc_row_of fun cdv A outer s H E hr => (lss_cons (ls_set 2 sc_row_of.nd (le_tup ll_nil lenIs_nil))
    (lss_cons (ls_set 3 sc_row_of.nd (le_callTy cl_list rfl T.n_list bt_list (ll_cons (le_var 1) ll_nil)))
    (lss_cons (ls_for PassesOwn.never rfl (li_seq (le_ix ix_vIx (le_var 0) le_int)) (lt_tp rfl (lts_cons (lt_nm 4 sc_row_of.nd) (lts_cons (lt_nm 5 sc_row_of.nd) lts_nil))) (lss_one (ls_set 2 sc_row_of.nd (le_op op_vAdd (le_var 2) (le_op op_vMul (le_var 5) (le_ite (lb_cmp (op_vEq hr.units) (le_var 4) le_str (nomark _)) (le_ml PySem.F.slot_list_pop PySem.F.type_list_pop ml_pop (le_var 3) (ll_cons le_int ll_nil)) le_int))))))
    (lss_one (ls_ret (le_var 2))))))
theorem ok_way_of_step (T : Txt K mg) {f : Addr} {fd : FuncData} (F : Fun K "way_of_step" "way_of_step" s_way_of_step f fd)   : FnOk P w K mg base CX0 1 f fd ["step", "places"] (spOf K 2 F_way_of_step) :=
  fn_ok (k := 0) F sc_way_of_step fun cdv A outer s H E hr => (lss_one (ls_ret (le_ite (lb_cmp (op_vEq hr.units) (le_ix ix_vIx (le_var 0) le_int) le_str (nomark _)) (le_ix ix_vIx (le_var 0) le_int) (le_op op_vSub (le_ix ix_vIx (le_var 0) le_int) (le_ix ix_vIx (le_var 1) (le_ix ix_vIx (le_var 0) le_int))))))
theorem ok_moves_of (T : Txt K mg) {f : Addr} {fd : FuncData} (F : Fun K "moves_of" "moves_of" s_moves_of f fd) (H_row_of : HasFn P w K mg base "row_of" 1 ["code", "rounds"] F_row_of) (H_way_of_step : HasFn P w K mg base "way_of_step" 1 ["step", "places"] F_way_of_step)  : FnOk P w K mg base CX0 2 f fd ["code", "rounds"] (spOf K 2 F_moves_of) :=
  fn_ok (k := 1) F sc_moves_of fun cdv A outer s H E hr => (lss_cons (ls_setLc 2 rfl sc_moves_of.nd (li_seq (le_ix ix_vIx (le_var 0) le_int)) (blkOk_by (N := N_moves_of) (sc := defScope s_moves_of) (own := [("axis", 6)]) (by decide +kernel)) (by decide) (fun _ _ _ _ _ => (lt_nm 6 sc_moves_of.nd)) (fun _ _ _ _ _ => lts_yes) (fun _ _ _ _ _ => le_int))
    (lss_cons (ls_set 3 sc_moves_of.nd (le_lst ll_nil lenIs_nil))
    (lss_cons (ls_for PassesOwn.never rfl (li_seq (le_fn H_row_of (hr.mono (by decide)) rfl (ll_cons (le_var 0) (ll_cons (le_var 1) ll_nil)) (lenIs_cons (lenIs_cons lenIs_nil)))) (lt_nm 4 sc_moves_of.nd) (lss_one (ls_if (lb_cmp (op_vEq hr.units) (le_ix ix_vIx (le_var 4) le_int) le_str (nomark _)) (lss_one (ls_expr (le_ml PySem.F.slot_list_append PySem.F.type_list_append ml_append (le_var 3) (ll_cons (le_tup (ll_cons (le_ix ix_vIx (le_var 4) le_int) (ll_cons (le_callTy cl_tuple rfl T.n_tuple bt_tuple (ll_cons (le_var 2) ll_nil)) ll_nil)) (lenIs_cons (lenIs_cons lenIs_nil))) ll_nil)))) (lss_cons (ls_set 5 sc_moves_of.nd (le_fn H_way_of_step (hr.mono (by decide)) rfl (ll_cons (le_var 4) (ll_cons (le_var 2) ll_nil)) (lenIs_cons (lenIs_cons lenIs_nil))))
    (lss_cons (ls_augL ip_vAdd (le_var 2) (le_ix ix_vIx (le_var 4) le_int) (le_var 5))
    (lss_one (ls_expr (le_ml PySem.F.slot_list_append PySem.F.type_list_append ml_append (le_var 3) (ll_cons (le_tup (ll_cons (le_ix ix_vIx (le_var 4) le_int) (ll_cons (le_var 5) ll_nil)) (lenIs_cons (lenIs_cons lenIs_nil))) ll_nil)))))))))
    (lss_one (ls_ret (le_var 3))))))
theorem ok_is_cut (T : Txt K mg) {f : Addr} {fd : FuncData} (F : Fun K "is_cut" "is_cut" s_is_cut f fd)   : FnOk P w K mg base CX0 1 f fd ["move"] (spOf K 1 F_is_cut) :=
  fn_ok (k := 0) F sc_is_cut fun cdv A outer s H E hr => (lss_one (ls_ret (le_isi rfl T.n_isinstance rfl T.n_str (by decide +kernel) (le_ix ix_vIx (le_var 0) le_int))))
theorem ok_cuts_at (T : Txt K mg) {f : Addr} {fd : FuncData} (F : Fun K "cuts_at" "cuts_at" s_cuts_at f fd) (H_moves_of : HasFn P w K mg base "moves_of" 2 ["code", "rounds"] F_moves_of) (H_is_cut : HasFn P w K mg base "is_cut" 1 ["move"] F_is_cut)  : FnOk P w K mg base CX0 3 f fd ["code", "rounds"] (spOf K 2 F_cuts_at) :=
  fn_ok (k := 2) F sc_cuts_at fun cdv A outer s H E hr => (lss_one (ls_ret (le_swp (le_callTy cl_tuple rfl T.n_tuple bt_tuple (ll_cons (le_lc rfl sc_cuts_at.nd (li_seq (le_fn H_moves_of (hr.mono (by decide)) rfl (ll_cons (le_var 0) (ll_cons (le_var 1) ll_nil)) (lenIs_cons (lenIs_cons lenIs_nil)))) (blkOk_by (N := N_cuts_at) (sc := defScope s_cuts_at) (own := [("move", 2)]) (by decide +kernel)) (by decide) (fun _ _ _ _ _ => (lt_nm 2 sc_cuts_at.nd)) (fun _ _ _ _ _ => (lts_one (lb_truth (le_fn H_is_cut (hr.mono (by decide)) rfl (ll_cons (le_var 2) ll_nil) (lenIs_cons lenIs_nil))))) (fun _ _ _ _ _ => (le_var 2))) ll_nil)))))
theorem ok_way_of (T : Txt K mg) {f : Addr} {fd : FuncData} (F : Fun K "way_of" "way_of" s_way_of f fd) (H_moves_of : HasFn P w K mg base "moves_of" 2 ["code", "rounds"] F_moves_of) (H_is_cut : HasFn P w K mg base "is_cut" 1 ["move"] F_is_cut)  : FnOk P w K mg base CX0 3 f fd ["code", "rounds"] (spOf K 2 F_way_of) :=
  fn_ok (k := 2) F sc_way_of fun cdv A outer s H E hr => (lss_one (ls_ret (le_swp (le_callB (cl_sum rfl) rfl T.n_sum bt_sum (ll_cons (le_lc rfl sc_way_of.nd (li_seq (le_fn H_moves_of (hr.mono (by decide)) rfl (ll_cons (le_var 0) (ll_cons (le_var 1) ll_nil)) (lenIs_cons (lenIs_cons lenIs_nil)))) (blkOk_by (N := N_way_of) (sc := defScope s_way_of) (own := [("move", 2)]) (by decide +kernel)) (by decide) (fun _ _ _ _ _ => (lt_nm 2 sc_way_of.nd)) (fun _ _ _ _ _ => (lts_one (lb_not (lb_truth (le_fn H_is_cut (hr.mono (by decide)) rfl (ll_cons (le_var 2) ll_nil) (lenIs_cons lenIs_nil)))))) (fun _ _ _ _ _ => (le_callB cl_abs rfl T.n_abs bt_abs (ll_cons (le_ix ix_vIx (le_var 2) le_int) ll_nil)))) ll_nil)))))
theorem ok_turns_at (T : Txt K mg) {f : Addr} {fd : FuncData} (F : Fun K "turns_at" "turns_at" s_turns_at f fd) (H_moves_of : HasFn P w K mg base "moves_of" 2 ["code", "rounds"] F_moves_of) (H_is_cut : HasFn P w K mg base "is_cut" 1 ["move"] F_is_cut)  : FnOk P w K mg base CX0 3 f fd ["code", "rounds", "axis"] (spOf K 3 F_turns_at) :=
  fn_ok (k := 2) F sc_turns_at fun cdv A outer s H E hr => (lss_cons (ls_asg (le_tup (ll_cons le_int (ll_cons le_int ll_nil)) (lenIs_cons (lenIs_cons lenIs_nil))) (lt_tp rfl (lts_cons (lt_nm 3 sc_turns_at.nd) (lts_cons (lt_nm 4 sc_turns_at.nd) lts_nil))))
    (lss_cons (ls_set 5 sc_turns_at.nd (le_lst ll_nil lenIs_nil))
    (lss_cons (ls_swp (ls_for PassesOwn.never rfl (li_seq (le_fn H_moves_of (hr.mono (by decide)) rfl (ll_cons (le_var 0) (ll_cons (le_var 1) ll_nil)) (lenIs_cons (lenIs_cons lenIs_nil)))) (lt_nm 6 sc_turns_at.nd) (lss_one (ls_if (LW.b (lw_and (lb_not (lb_truth (le_fn H_is_cut (hr.mono (by decide)) rfl (ll_cons (le_var 6) ll_nil) (lenIs_cons lenIs_nil)))) (lw_and (lb_cmp (op_vEq hr.units) (le_ix ix_vIx (le_var 6) le_int) (le_var 2) (nomark _)) (lw_and1 (lb_cmp (op_vNe hr.units) (le_ix ix_vIx (le_var 6) le_int) le_int (nomark _)))))) (lss_cons (ls_if (lb_cmp op_vLt (le_op op_vMul (le_var 4) (le_ix ix_vIx (le_var 6) le_int)) le_int (nomark _)) (lss_one (ls_expr (le_ml PySem.F.slot_list_append PySem.F.type_list_append ml_append (le_var 5) (ll_cons (le_var 3) ll_nil)))) lss_nil)
    (lss_cons (ls_aug 3 sc_turns_at.nd (le_ix ix_vIx (le_var 6) le_int) ip_vAdd)
    (lss_one (ls_set 4 sc_turns_at.nd (le_ite (lb_cmp op_vGt (le_ix ix_vIx (le_var 6) le_int) le_int (nomark _)) le_int (le_neg le_int)))))) lss_nil))))
    (lss_one (ls_ret (le_callTy cl_tuple rfl T.n_tuple bt_tuple (ll_cons (le_var 5) ll_nil)))))))
theorem ok_law_rig (T : Txt K mg) {f : Addr} {fd : FuncData} (F : Fun K "_law_rig" "_law_rig" s_law_rig f fd)   : FnOk P w K mg base CX0 1 f fd ["script"] (spOf K 1 F_law_rig) :=
  fn_ok (k := 0) F sc_law_rig fun cdv A outer s H E hr => (lss_cons (ls_set 1 sc_law_rig.nd (le_lst ll_nil lenIs_nil))
    (lss_cons (ls_set 2 sc_law_rig.nd le_int)
    (lss_cons (ls_swp (ls_for PassesOwn.never rfl (li_seq (le_slice sl_vSlice (le_var 0) lo_none (lo_some le_int))) (lt_nm 3 sc_law_rig.nd) (lss_cons (ls_set 2 sc_law_rig.nd (le_op op_vMod (le_callTy cl_int rfl T.n_int bt_int (ll_cons (le_op op_vAdd (le_op op_vAdd (le_op op_vMul (le_var 2) le_int) (le_op op_vMod (le_callTy cl_int rfl T.n_int bt_int (ll_cons (le_var 3) ll_nil)) le_int)) le_int) ll_nil)) le_int))
    (lss_one (ls_if (lb_cmp op_vGe (le_callTy cl_int rfl T.n_int bt_int (ll_cons (le_var 3) ll_nil)) (le_op op_vPow le_int le_int) (nomark _)) (lss_one (ls_expr (le_ml PySem.F.slot_list_append PySem.F.type_list_append ml_append (le_var 1) (ll_cons (le_op op_vMod (le_callTy cl_int rfl T.n_int bt_int (ll_cons (le_var 3) ll_nil)) (le_op op_vPow le_int le_int)) ll_nil)))) lss_nil)))))
    (lss_one (ls_ret (le_disp (lp_cons (le_var 1) (lp_cons (le_var 2) (lp_cons le_int lp_nil)))))))))
theorem ok_law_take (T : Txt K mg) {f : Addr} {fd : FuncData} (F : Fun K "_law_take" "_law_take" s_law_take f fd)   : FnOk P w K mg base CX0 1 f fd ["rig", "many"] (spOf K 2 F_law_take) :=
  fn_ok (k := 0) F sc_law_take fun cdv A outer s H E hr => (lss_cons (ls_setD hr.units (le_op op_vAdd (le_dix hr.units (le_var 0) le_str) le_int) (le_var 0) le_str)
    (lss_cons (ls_set 2 sc_law_take.nd (le_dix hr.units (le_var 0) le_str))
    (lss_cons (ls_if (lb_cmp op_vGt (le_callB cl_len rfl T.n_len bt_len (ll_cons (le_var 2) ll_nil)) le_int (nomark _)) (lss_cons (ls_set 3 sc_law_take.nd (le_op op_vMod (le_callTy cl_int rfl T.n_int bt_int (ll_cons (le_ix ix_vIx (le_var 2) (le_neg le_int)) ll_nil)) (le_var 1)))
    (lss_cons (ls_setL (le_op op_vFdiv (le_ix ix_vIx (le_var 2) (le_neg le_int)) (le_var 1)) (le_var 2) (le_neg le_int))
    (lss_cons (ls_if (lb_cmp op_vLt (le_ix ix_vIx (le_var 2) (le_neg le_int)) le_int (nomark _)) (lss_one (ls_expr (le_ml0 PySem.F.slot_list_pop PySem.F.type_list_pop ml_pop (le_var 2)))) lss_nil)
    (lss_one (ls_ret (le_var 3)))))) lss_nil)
    (lss_cons (ls_set 4 sc_law_take.nd (le_dix hr.units (le_var 0) le_str))
    (lss_cons (ls_set 5 sc_law_take.nd (le_op op_vMod (le_callTy cl_int rfl T.n_int bt_int (ll_cons (le_op op_vAdd (le_op op_vMul (le_dix hr.units (le_var 0) le_str) le_int) (le_op op_vMul (le_var 4) le_int)) ll_nil)) le_int))
    (lss_cons (ls_set 6 sc_law_take.nd (le_op op_vMod (le_callTy cl_int rfl T.n_int bt_int (ll_cons (le_op op_vAdd (le_op op_vAdd (le_op op_vMul (le_var 5) le_int) (le_op op_vFdiv (le_var 5) le_int)) (le_op op_vMul (le_op op_vMul (le_var 4) (le_var 4)) le_int)) ll_nil)) le_int))
    (lss_one (ls_ret (le_op op_vMod (le_callTy cl_int rfl T.n_int bt_int (ll_cons (le_op op_vFdiv (le_var 6) le_int) ll_nil)) (le_var 1))))))))))
theorem ok_law_pick (T : Txt K mg) {f : Addr} {fd : FuncData} (F : Fun K "_law_pick" "_law_pick" s_law_pick f fd) (H_law_take : HasFn P w K mg base "_law_take" 1 ["rig", "many"] F_law_take)  : FnOk P w K mg base CX0 2 f fd ["rig", "row"] (spOf K 2 F_law_pick) :=
  fn_ok (k := 1) F sc_law_pick fun cdv A outer s H E hr => (lss_one (ls_ret (le_ix ix_vIx (le_var 1) (le_fn H_law_take (hr.mono (by decide)) rfl (ll_cons (le_var 0) (ll_cons (le_callB cl_len rfl T.n_len bt_len (ll_cons (le_var 1) ll_nil)) ll_nil)) (lenIs_cons (lenIs_cons lenIs_nil))))))
theorem ok_law_steps (T : Txt K mg) {f : Addr} {fd : FuncData} (F : Fun K "_law_steps" "_law_steps" s_law_steps f fd) (H_law_take : HasFn P w K mg base "_law_take" 1 ["rig", "many"] F_law_take) (H_law_pick : HasFn P w K mg base "_law_pick" 2 ["rig", "row"] F_law_pick)  : FnOk P w K mg base CX0 3 f fd ["rig", "axes", "many", "tos"] (spOf K 4 F_law_steps) :=
  fn_ok (k := 2) F sc_law_steps fun cdv A outer s H E hr => (lss_cons (ls_set 4 sc_law_steps.nd (le_lst ll_nil lenIs_nil))
    (lss_cons (ls_set 5 sc_law_steps.nd (le_fn H_law_take (hr.mono (by decide)) rfl (ll_cons (le_var 0) (ll_cons le_int ll_nil)) (lenIs_cons (lenIs_cons lenIs_nil))))
    (lss_cons (ls_for PassesOwn.never rfl (li_range1 rfl T.n_range (ll_cons (le_var 2) ll_nil)) (lt_nm 6 sc_law_steps.nd) (lss_cons (ls_set 7 sc_law_steps.nd (le_fn H_law_take (hr.mono (by decide)) rfl (ll_cons (le_var 0) (ll_cons (le_var 1) ll_nil)) (lenIs_cons (lenIs_cons lenIs_nil))))
    (lss_cons (ls_if (lb_cmp (op_vEq hr.units) (le_var 5) le_int (nomark _)) (lss_one (ls_set 7 sc_law_steps.nd le_int)) lss_nil)
    (lss_cons (ls_set 8 sc_law_steps.nd (le_swp (le_fn H_law_pick (hr.mono (by decide)) rfl (ll_cons (le_var 0) (ll_cons (le_lst (ll_cons le_int (ll_cons le_int (ll_cons le_int (ll_cons le_int (ll_cons le_int (ll_cons (le_op op_vAdd le_int (le_fn H_law_take (hr.mono (by decide)) rfl (ll_cons (le_var 0) (ll_cons le_int ll_nil)) (lenIs_cons (lenIs_cons lenIs_nil)))) (ll_cons (le_op op_vPow le_int le_int) ll_nil))))))) (lenIs_cons (lenIs_cons (lenIs_cons (lenIs_cons (lenIs_cons (lenIs_cons (lenIs_cons lenIs_nil)))))))) ll_nil)) (lenIs_cons (lenIs_cons lenIs_nil)))))
    (lss_cons (ls_set 9 sc_law_steps.nd (le_op op_vMul (le_var 8) (le_op op_vSub le_int (le_op op_vMul le_int (le_fn H_law_take (hr.mono (by decide)) rfl (ll_cons (le_var 0) (ll_cons le_int ll_nil)) (lenIs_cons (lenIs_cons lenIs_nil)))))))
    (lss_cons (ls_if (lb_cmp (op_vEq hr.units) (le_var 5) le_int (nomark _)) (lss_one (ls_set 9 sc_law_steps.nd (le_var 8))) lss_nil)
    (lss_cons (ls_set 10 sc_law_steps.nd (le_tup (ll_cons le_str (ll_cons (le_var 7) (ll_cons (le_var 9) ll_nil))) (lenIs_cons (lenIs_cons (lenIs_cons lenIs_nil)))))
    (lss_cons (ls_set 11 sc_law_steps.nd (le_fn H_law_take (hr.mono (by decide)) rfl (ll_cons (le_var 0) (ll_cons le_int ll_nil)) (lenIs_cons (lenIs_cons lenIs_nil))))
    (lss_cons (ls_if (LW.b (lw_and (lb_cmp (op_vEq hr.units) (le_var 11) le_int (nomark _)) (lw_and1 (lb_truth (le_var 3))))) (lss_one (ls_set 10 sc_law_steps.nd (le_tup (ll_cons le_str (ll_cons (le_var 7) (ll_cons (le_swp (le_fn H_law_pick (hr.mono (by decide)) rfl (ll_cons (le_var 0) (ll_cons (le_lst (ll_cons le_int (ll_cons le_int (ll_cons le_int (ll_cons le_int (ll_cons (le_neg le_int) (ll_cons (le_op op_vSub (le_fn H_law_take (hr.mono (by decide)) rfl (ll_cons (le_var 0) (ll_cons le_int ll_nil)) (lenIs_cons (lenIs_cons lenIs_nil))) le_int) (ll_cons (le_op op_vPow le_int le_int) ll_nil))))))) (lenIs_cons (lenIs_cons (lenIs_cons (lenIs_cons (lenIs_cons (lenIs_cons (lenIs_cons lenIs_nil)))))))) ll_nil)) (lenIs_cons (lenIs_cons lenIs_nil)))) ll_nil))) (lenIs_cons (lenIs_cons (lenIs_cons lenIs_nil)))))) (lss_one (ls_if (LW.b (lw_and (lb_cmp (op_vEq hr.units) (le_var 11) le_int (nomark _)) (lw_and (lb_cmp op_vGt (le_var 6) le_int (nomark _)) (lw_and1 (lb_cmp (op_vEq hr.units) (le_ix ix_vIx (le_ix ix_vIx (le_var 4) (le_neg le_int)) le_int) le_str (nomark _)))))) (lss_one (ls_set 10 sc_law_steps.nd (le_tup (ll_cons le_str (ll_cons (le_ix ix_vIx (le_ix ix_vIx (le_var 4) (le_neg le_int)) le_int) (ll_cons (le_op op_vSub le_int (le_ix ix_vIx (le_ix ix_vIx (le_var 4) (le_neg le_int)) le_int)) ll_nil))) (lenIs_cons (lenIs_cons (lenIs_cons lenIs_nil)))))) (lss_one (ls_if (lb_cmp (op_vEq hr.units) (le_var 11) le_int (nomark _)) (lss_one (ls_set 10 sc_law_steps.nd (le_tup (ll_cons le_str (ll_cons (le_swp (le_fn H_law_pick (hr.mono (by decide)) rfl (ll_cons (le_var 0) (ll_cons (le_lst (ll_cons le_str (ll_cons le_str (ll_cons le_str (ll_cons le_str ll_nil)))) (lenIs_cons (lenIs_cons (lenIs_cons (lenIs_cons lenIs_nil))))) ll_nil)) (lenIs_cons (lenIs_cons lenIs_nil)))) ll_nil)) (lenIs_cons (lenIs_cons lenIs_nil))))) lss_nil)))))
    (lss_one (ls_expr (le_ml PySem.F.slot_list_append PySem.F.type_list_append ml_append (le_var 4) (ll_cons (le_var 10) ll_nil)))))))))))))
    (lss_one (ls_ret (le_callTy cl_tuple rfl T.n_tuple bt_tuple (ll_cons (le_var 4) ll_nil)))))))
theorem ok_law_code (T : Txt K mg) {f : Addr} {fd : FuncData} (F : Fun K "_law_code" "_law_code" s_law_code f fd) (H_law_take : HasFn P w K mg base "_law_take" 1 ["rig", "many"] F_law_take) (H_law_steps : HasFn P w K mg base "_law_steps" 3 ["rig", "axes", "many", "tos"] F_law_steps) (H_law_pick : HasFn P w K mg base "_law_pick" 2 ["rig", "row"] F_law_pick)  : FnOk P w K mg base CX0 4 f fd ["rig", "long"] (spOf K 2 F_law_code) :=
  fn_ok (k := 3) F sc_law_code fun cdv A outer s H E hr => (lss_cons (ls_set 2 sc_law_code.nd (le_op op_vAdd le_int (le_fn H_law_take (hr.mono (by decide)) rfl (ll_cons (le_var 0) (ll_cons le_int ll_nil)) (lenIs_cons (lenIs_cons lenIs_nil)))))
    (lss_cons (ls_set 3 sc_law_code.nd (le_slice sl_vSlice (le_slice sl_vSlice (le_lst (ll_cons le_str (ll_cons le_str (ll_cons le_str (ll_cons le_str (ll_cons le_str ll_nil))))) (lenIs_cons (lenIs_cons (lenIs_cons (lenIs_cons (lenIs_cons lenIs_nil)))))) (lo_some (le_fn H_law_take (hr.mono (by decide)) rfl (ll_cons (le_var 0) (ll_cons le_int ll_nil)) (lenIs_cons (lenIs_cons lenIs_nil)))) lo_none) lo_none (lo_some (le_op op_vAdd le_int (le_fn H_law_take (hr.mono (by decide)) rfl (ll_cons (le_var 0) (ll_cons le_int ll_nil)) (lenIs_cons (lenIs_cons lenIs_nil)))))))
    (lss_cons (ls_if (lb_cmp (op_vEq hr.units) (le_fn H_law_take (hr.mono (by decide)) rfl (ll_cons (le_var 0) (ll_cons le_int ll_nil)) (lenIs_cons (lenIs_cons lenIs_nil))) le_int (nomark _)) (lss_one (ls_set 3 sc_law_code.nd (le_lst (ll_cons le_str (ll_cons le_str ll_nil)) (lenIs_cons (lenIs_cons lenIs_nil))))) lss_nil)
    (lss_cons (ls_set 4 sc_law_code.nd (le_lst ll_nil lenIs_nil))
    (lss_cons (ls_for PassesOwn.never rfl (li_seq (le_var 3)) (lt_nm 5 sc_law_code.nd) (lss_cons (ls_set 6 sc_law_code.nd (le_op op_vAdd le_int (le_swp (le_fn H_law_take (hr.mono (by decide)) rfl (ll_cons (le_var 0) (ll_cons (le_swp (le_ix ix_vIx (le_lst (ll_cons le_int (ll_cons le_int ll_nil)) (lenIs_cons (lenIs_cons lenIs_nil))) (le_var 1))) ll_nil)) (lenIs_cons (lenIs_cons lenIs_nil))))))
    (lss_cons (ls_set 7 sc_law_code.nd (le_swp (le_cmp op_vLt (le_swp (le_callB cl_len rfl T.n_len bt_len (ll_cons (le_lc rfl sc_law_code.nd (li_seq (le_var 4)) (blkOk_by (N := N_law_code) (sc := defScope s_law_code) (own := [("one", 9)]) (by decide +kernel)) (by decide) (fun _ _ _ _ _ => (lt_nm 9 sc_law_code.nd)) (fun _ _ _ _ _ => (lts_one (lb_cmp (op_vEq hr.units) (le_ix ix_vIx (le_var 9) le_int) le_str (nomark _)))) (fun _ _ _ _ _ => (le_var 9))) ll_nil))) le_int (nomark _))))
    (lss_one (ls_expr (le_ml PySem.F.slot_list_append PySem.F.type_list_append ml_append (le_var 4) (ll_cons (le_tup (ll_cons (le_var 5) (ll_cons (le_fn H_law_steps (hr.mono (by decide)) rfl (ll_cons (le_var 0) (ll_cons (le_var 2) (ll_cons (le_var 6) (ll_cons (le_var 7) ll_nil)))) (lenIs_cons (lenIs_cons (lenIs_cons (lenIs_cons lenIs_nil))))) ll_nil)) (lenIs_cons (lenIs_cons lenIs_nil))) ll_nil)))))))
    (lss_cons (ls_set 8 sc_law_code.nd (le_slice sl_vSlice (le_lst (ll_cons le_str (ll_cons le_str (ll_cons le_str ll_nil))) (lenIs_cons (lenIs_cons (lenIs_cons lenIs_nil)))) lo_none (lo_some (le_var 2))))
    (lss_one (ls_ret (le_tup (ll_cons (le_swp (le_callTy cl_tuple rfl T.n_tuple bt_tuple (ll_cons (le_lc rfl sc_law_code.nd (li_seq (le_var 8)) (blkOk_by (N := N_law_code) (sc := defScope s_law_code) (own := [("name", 10)]) (by decide +kernel)) (by decide) (fun _ _ _ _ _ => (lt_nm 10 sc_law_code.nd)) (fun _ _ _ _ _ => lts_yes) (fun _ _ _ _ _ => (le_tup (ll_cons (le_var 10) (ll_cons (le_swp (le_fn H_law_pick (hr.mono (by decide)) rfl (ll_cons (le_var 0) (ll_cons (le_lst (ll_cons le_int (ll_cons le_int (ll_cons (le_op op_vPow le_int le_int) ll_nil))) (lenIs_cons (lenIs_cons (lenIs_cons lenIs_nil)))) ll_nil)) (lenIs_cons (lenIs_cons lenIs_nil)))) ll_nil)) (lenIs_cons (lenIs_cons lenIs_nil))))) ll_nil))) (ll_cons (le_callTy cl_tuple rfl T.n_tuple bt_tuple (ll_cons (le_var 4) ll_nil)) ll_nil)) (lenIs_cons (lenIs_cons lenIs_nil)))))))))))
theorem ok_law_row (T : Txt K mg) {f : Addr} {fd : FuncData} (F : Fun K "_law_row" "_law_row" s_law_row f fd)   : FnOk P w K mg base CX0 1 f fd ["code", "rounds"] (spOf K 2 F_law_row) :=
  fn_ok (k := 0) F sc_law_row fun cdv A outer s H E hr => (lss_cons (ls_set 2 sc_law_row.nd (le_lst ll_nil lenIs_nil))
    (lss_cons (ls_set 3 sc_law_row.nd le_int)
    (lss_cons (ls_for PassesOwn.never rfl (li_seq (le_ix ix_vIx (le_var 0) le_int)) (lt_tp rfl (lts_cons (lt_nm 4 sc_law_row.nd) (lts_cons (lt_nm 5 sc_law_row.nd) lts_nil))) (lss_cons (ls_set 6 sc_law_row.nd le_int)
    (lss_cons (ls_if (lb_cmp (op_vEq hr.units) (le_var 4) le_str (nomark _)) (lss_cons (ls_set 6 sc_law_row.nd (le_ix ix_vIx (le_var 1) (le_var 3)))
    (lss_one (ls_set 3 sc_law_row.nd (le_op op_vAdd (le_var 3) le_int)))) lss_nil)
    (lss_one (ls_set 2 sc_law_row.nd (le_op op_vAdd (le_var 2) (le_op op_vMul (le_callTy cl_list rfl T.n_list bt_list (ll_cons (le_var 5) ll_nil)) (le_var 6))))))))
    (lss_one (ls_ret (le_var 2))))))
theorem ok_law_rounds (T : Txt K mg) {f : Addr} {fd : FuncData} (F : Fun K "_law_rounds" "_law_rounds" s_law_rounds f fd) (H_law_take : HasFn P w K mg base "_law_take" 1 ["rig", "many"] F_law_take) (H_law_pick : HasFn P w K mg base "_law_pick" 2 ["rig", "row"] F_law_pick) (H_law_row : HasFn P w K mg base "_law_row" 1 ["code", "rounds"] F_law_row)  : FnOk P w K mg base CX0 3 f fd ["rig", "code", "long"] (spOf K 3 F_law_rounds) :=
  fn_ok (k := 2) F sc_law_rounds fun cdv A outer s H E hr => (lss_cons (ls_set 3 sc_law_rounds.nd (le_lst ll_nil lenIs_nil))
    (lss_cons (ls_for PassesOwn.never rfl (li_seq (le_ix ix_vIx (le_var 1) le_int)) (lt_tp rfl (lts_cons (lt_nm 4 sc_law_rounds.nd) (lts_cons (lt_nm 5 sc_law_rounds.nd) lts_nil))) (lss_one (ls_if (lb_cmp (op_vEq hr.units) (le_var 4) le_str (nomark _)) (lss_cons (ls_set 6 sc_law_rounds.nd (le_lst (ll_cons le_int (ll_cons le_int (ll_cons le_int (ll_cons le_int (ll_cons (le_op op_vAdd le_int (le_fn H_law_take (hr.mono (by decide)) rfl (ll_cons (le_var 0) (ll_cons le_int ll_nil)) (lenIs_cons (lenIs_cons lenIs_nil)))) ll_nil))))) (lenIs_cons (lenIs_cons (lenIs_cons (lenIs_cons (lenIs_cons lenIs_nil)))))))
    (lss_one (ls_expr (le_ml PySem.F.slot_list_append PySem.F.type_list_append ml_append (le_var 3) (ll_cons (le_swp (le_fn H_law_pick (hr.mono (by decide)) rfl (ll_cons (le_var 0) (ll_cons (le_swp (le_ix ix_vIx (le_lst (ll_cons (le_var 6) (ll_cons (le_lst (ll_cons le_int (ll_cons le_int (ll_cons le_int (ll_cons (le_op op_vAdd le_int (le_fn H_law_take (hr.mono (by decide)) rfl (ll_cons (le_var 0) (ll_cons le_int ll_nil)) (lenIs_cons (lenIs_cons lenIs_nil)))) ll_nil)))) (lenIs_cons (lenIs_cons (lenIs_cons (lenIs_cons lenIs_nil))))) ll_nil)) (lenIs_cons (lenIs_cons lenIs_nil))) (le_var 2))) ll_nil)) (lenIs_cons (lenIs_cons lenIs_nil)))) ll_nil))))) lss_nil)))
    (lss_cons (ls_for PassesOwn.never rfl (li_range1 rfl T.n_range (ll_cons le_int ll_nil)) (lt_nm 7 sc_law_rounds.nd) (lss_cons (ls_set 8 sc_law_rounds.nd (le_fn H_law_row (hr.mono (by decide)) rfl (ll_cons (le_var 1) (ll_cons (le_var 3) ll_nil)) (lenIs_cons (lenIs_cons lenIs_nil))))
    (lss_cons (ls_set 9 sc_law_rounds.nd (le_swp (le_callB cl_len rfl T.n_len bt_len (ll_cons (le_lc rfl sc_law_rounds.nd (li_seq (le_var 8)) (blkOk_by (N := N_law_rounds) (sc := defScope s_law_rounds) (own := [("step", 11)]) (by decide +kernel)) (by decide) (fun _ _ _ _ _ => (lt_nm 11 sc_law_rounds.nd)) (fun _ _ _ _ _ => (lts_one (lb_cmp (op_vEq hr.units) (le_ix ix_vIx (le_var 11) le_int) le_str (nomark _)))) (fun _ _ _ _ _ => (le_var 11))) ll_nil))))
    (lss_cons (ls_if (LW.b (lw_or (LW.b (lw_and (lb_cmp op_vLe (le_callB cl_len rfl T.n_len bt_len (ll_cons (le_var 8) ll_nil)) le_int (nomark _)) (lw_and1 (lb_cmp op_vLe (le_var 9) le_int (nomark _))))) (lw_or1 (lb_swp (lb_cmp (op_vEq hr.units) (le_swp (le_callB (cl_max rfl) rfl T.n_max bt_max (ll_cons (le_op op_vAdd (le_var 3) (le_lst (ll_cons le_int ll_nil) (lenIs_cons lenIs_nil))) ll_nil))) le_int (nomark _)))))) (lss_one ls_break) lss_nil)
    (lss_cons (ls_set 10 sc_law_rounds.nd (le_ml PySem.F.slot_list_index PySem.F.type_list_index ml_index (le_var 3) (ll_cons (le_callB (cl_max rfl) rfl T.n_max bt_max (ll_cons (le_var 3) ll_nil)) ll_nil)))
    (lss_one (ls_setL (le_op op_vSub (le_op op_vSub (le_ix ix_vIx (le_var 3) (le_var 10)) le_int) (le_op op_vFdiv (le_ix ix_vIx (le_var 3) (le_var 10)) le_int)) (le_var 3) (le_var 10))))))))
    (lss_one (ls_ret (le_callTy cl_tuple rfl T.n_tuple bt_tuple (ll_cons (le_var 3) ll_nil)))))))
theorem ok_law_walk (T : Txt K mg) {f : Addr} {fd : FuncData} (F : Fun K "_law_walk" "_law_walk" s_law_walk f fd)   : FnOk P w K mg base CX0 1 f fd ["code", "row"] (spOf K 2 F_law_walk) :=
  fn_ok (k := 0) F sc_law_walk fun cdv A outer s H E hr => (lss_cons (ls_setLc 2 rfl sc_law_walk.nd (li_seq (le_ix ix_vIx (le_var 0) le_int)) (blkOk_by (N := N_law_walk) (sc := defScope s_law_walk) (own := [("axis", 8)]) (by decide +kernel)) (by decide) (fun _ _ _ _ _ => (lt_nm 8 sc_law_walk.nd)) (fun _ _ _ _ _ => lts_yes) (fun _ _ _ _ _ => le_int))
    (lss_cons (ls_set 3 sc_law_walk.nd (le_lst ll_nil lenIs_nil))
    (lss_cons (ls_set 4 sc_law_walk.nd le_int)
    (lss_cons (ls_setLc 5 rfl sc_law_walk.nd (li_seq (le_ix ix_vIx (le_var 0) le_int)) (blkOk_by (N := N_law_walk) (sc := defScope s_law_walk) (own := [("axis", 8)]) (by decide +kernel)) (by decide) (fun _ _ _ _ _ => (lt_nm 8 sc_law_walk.nd)) (fun _ _ _ _ _ => lts_yes) (fun _ _ _ _ _ => (le_lst ll_nil lenIs_nil)))
    (lss_cons (ls_setLc 6 rfl sc_law_walk.nd (li_seq (le_ix ix_vIx (le_var 0) le_int)) (blkOk_by (N := N_law_walk) (sc := defScope s_law_walk) (own := [("axis", 8)]) (by decide +kernel)) (by decide) (fun _ _ _ _ _ => (lt_nm 8 sc_law_walk.nd)) (fun _ _ _ _ _ => lts_yes) (fun _ _ _ _ _ => le_int))
    (lss_cons (ls_for PassesOwn.never rfl (li_seq (le_var 1)) (lt_nm 7 sc_law_walk.nd) (lss_cons (ls_if (lb_cmp (op_vEq hr.units) (le_ix ix_vIx (le_var 7) le_int) le_str (nomark _)) (lss_cons (ls_expr (le_ml PySem.F.slot_list_append PySem.F.type_list_append ml_append (le_var 3) (ll_cons (le_tup (ll_cons (le_ix ix_vIx (le_var 7) le_int) (ll_cons (le_callTy cl_tuple rfl T.n_tuple bt_tuple (ll_cons (le_var 2) ll_nil)) ll_nil)) (lenIs_cons (lenIs_cons lenIs_nil))) ll_nil)))
    (lss_one ls_cont)) lss_nil)
    (lss_cons (ls_set 8 sc_law_walk.nd (le_ix ix_vIx (le_var 7) le_int))
    (lss_cons (ls_set 9 sc_law_walk.nd (le_ix ix_vIx (le_var 7) le_int))
    (lss_cons (ls_if (lb_cmp (op_vEq hr.units) (le_ix ix_vIx (le_var 7) le_int) le_str (nomark _)) (lss_one (ls_set 9 sc_law_walk.nd (le_op op_vAdd (le_ix ix_vIx (le_var 2) (le_var 8)) (le_ix ix_vIx (le_var 7) le_int)))) lss_nil)
    (lss_cons (ls_set 10 sc_law_walk.nd (le_op op_vSub (le_var 9) (le_ix ix_vIx (le_var 2) (le_var 8))))
    (lss_cons (ls_if (lb_cmp (op_vNe hr.units) (le_var 10) le_int (nomark _)) (lss_cons (ls_set 11 sc_law_walk.nd (le_op op_vSub le_int (le_op op_vMul le_int (le_callTy cl_int rfl T.n_int bt_int (ll_cons (le_cmp op_vLt (le_var 10) le_int (nomark _)) ll_nil)))))
    (lss_cons (ls_if (lb_cmp (op_vEq hr.units) (le_ix ix_vIx (le_var 6) (le_var 8)) (le_op op_vSub le_int (le_var 11)) (nomark _)) (lss_one (ls_expr (le_ml PySem.F.slot_list_append PySem.F.type_list_append ml_append (le_ix ix_vIx (le_var 5) (le_var 8)) (ll_cons (le_ix ix_vIx (le_var 2) (le_var 8)) ll_nil)))) lss_nil)
    (lss_one (ls_setL (le_var 11) (le_var 6) (le_var 8))))) lss_nil)
    (lss_cons (ls_set 4 sc_law_walk.nd (le_op op_vAdd (le_var 4) (le_callB (cl_max rfl) rfl T.n_max bt_max (ll_cons (le_var 10) (ll_cons (le_op op_vSub le_int (le_var 10)) ll_nil)))))
    (lss_one (ls_setL (le_var 9) (le_var 2) (le_var 8)))))))))))
    (lss_one (ls_ret (le_lst (ll_cons (le_callTy cl_tuple rfl T.n_tuple bt_tuple (ll_cons (le_var 3) ll_nil)) (ll_cons (le_var 4) (ll_cons (le_var 5) ll_nil))) (lenIs_cons (lenIs_cons (lenIs_cons lenIs_nil))))))))))))
theorem ok_law_same (T : Txt K mg) {f : Addr} {fd : FuncData} (F : Fun K "_law_same" "_law_same" s_law_same f fd) (hm : mg "_law_same" = some (.ref f)) (b : Binds K fd ["told", "due"] [])   : ∀ n, FnOk P w K mg base CX0 (1 + n) f fd ["told", "due"] (spOf K 2 (F_law_same n))
  | 0 => ⟨fun _ _ _ _ h => h.1.trans rfl, fun _ _ _ _ _ _ _ _ _ _ _ _ _ h => (h.2.elim fun _ h => h.elim fun _ h => h.elim fun _ h => h.2.2).elim⟩
  | n + 1 => fn_ok (k := 1 + n) F sc_law_same fun cdv A outer s H E hr => by
    have R : HasFn P w K mg base "_law_same" (1 + n) ["told", "due"] (F_law_same n) := ⟨f, fd, ok_law_same T F hm b  n, hm, F.kp, b⟩
    exact (lss_cons (ls_if (lb_truth (le_isi rfl T.n_isinstance rfl T.n_str (by decide +kernel) (le_var 1))) (lss_one (ls_ret (le_and (le_isi rfl T.n_isinstance rfl T.n_str (by decide +kernel) (le_var 0)) (le_one (le_cmp (op_vEq hr.units) (le_var 0) (le_var 1) (nomark _)))))) lss_nil)
    (lss_cons (ls_if (lb_truth (le_isi rfl T.n_isinstance rfl T.n_int (by decide +kernel) (le_var 1))) (lss_one (ls_ret (le_and (le_isi rfl T.n_isinstance rfl T.n_int (by decide +kernel) (le_var 0)) (le_and (le_not (le_isi rfl T.n_isinstance rfl T.n_bool (by decide +kernel) (le_var 0))) (le_one (le_cmp (op_vEq hr.units) (le_var 0) (le_var 1) (nomark _))))))) lss_nil)
    (lss_cons (ls_if (LW.b (lw_or (lb_not (lb_truth (le_isi rfl T.n_isinstance rfl T.n_tuple (by decide +kernel) (le_var 0)))) (lw_or1 (lb_cmp (op_vNe hr.units) (le_callB cl_len rfl T.n_len bt_len (ll_cons (le_var 0) ll_nil)) (le_callB cl_len rfl T.n_len bt_len (ll_cons (le_var 1) ll_nil)) (nomark _))))) (lss_one (ls_ret le_bl)) lss_nil)
    (lss_cons (ls_for PassesOwn.never rfl (li_range1 rfl T.n_range (ll_cons (le_callB cl_len rfl T.n_len bt_len (ll_cons (le_var 1) ll_nil)) ll_nil)) (lt_nm 2 sc_law_same.nd) (lss_one (ls_if (lb_not (lb_truth (le_fn R (hr.mono (by omega)) rfl (ll_cons (le_ix ix_vIx (le_var 0) (le_var 2)) (ll_cons (le_ix ix_vIx (le_var 1) (le_var 2)) ll_nil)) (lenIs_cons (lenIs_cons lenIs_nil))))) (lss_one (ls_ret le_bl)) lss_nil)))
    (lss_one (ls_ret le_bl))))))
theorem ok_law_held (T : Txt K mg) {f : Addr} {fd : FuncData} (F : Fun K "_law_held" "_law_held" s_law_held f fd) (H_law_row : HasFn P w K mg base "_law_row" 1 ["code", "rounds"] F_law_row) (H_law_walk : HasFn P w K mg base "_law_walk" 1 ["code", "row"] F_law_walk) (H_law_same : HasFn P w K mg base "_law_same" 21 ["told", "due"] (F_law_same 20)) (H_row_of : HasFn P w K mg base "row_of" 1 ["code", "rounds"] F_row_of) (H_cuts_at : HasFn P w K mg base "cuts_at" 3 ["code", "rounds"] F_cuts_at) (H_way_of : HasFn P w K mg base "way_of" 3 ["code", "rounds"] F_way_of) (H_turns_at : HasFn P w K mg base "turns_at" 3 ["code", "rounds", "axis"] F_turns_at)  : FnOk P w K mg base CX0 22 f fd ["code", "rounds"] (spOf K 2 F_law_held) :=
  fn_ok (k := 21) F sc_law_held fun cdv A outer s H E hr => (lss_cons (ls_set 2 sc_law_held.nd (le_fn H_law_row (hr.mono (by decide)) rfl (ll_cons (le_var 0) (ll_cons (le_var 1) ll_nil)) (lenIs_cons (lenIs_cons lenIs_nil))))
    (lss_cons (ls_set 3 sc_law_held.nd (le_fn H_law_walk (hr.mono (by decide)) rfl (ll_cons (le_var 0) (ll_cons (le_var 2) ll_nil)) (lenIs_cons (lenIs_cons lenIs_nil))))
    (lss_cons (ls_if (LW.b (lw_or (lb_not (lb_truth (le_fn H_law_same (hr.mono (by decide)) rfl (ll_cons (le_fn H_row_of (hr.mono (by decide)) rfl (ll_cons (le_var 0) (ll_cons (le_var 1) ll_nil)) (lenIs_cons (lenIs_cons lenIs_nil))) (ll_cons (le_callTy cl_tuple rfl T.n_tuple bt_tuple (ll_cons (le_var 2) ll_nil)) ll_nil)) (lenIs_cons (lenIs_cons lenIs_nil))))) (lw_or1 (lb_not (lb_truth (le_fn H_law_same (hr.mono (by decide)) rfl (ll_cons (le_fn H_cuts_at (hr.mono (by decide)) rfl (ll_cons (le_var 0) (ll_cons (le_var 1) ll_nil)) (lenIs_cons (lenIs_cons lenIs_nil))) (ll_cons (le_ix ix_vIx (le_var 3) le_int) ll_nil)) (lenIs_cons (lenIs_cons lenIs_nil)))))))) (lss_one (ls_ret le_bl)) lss_nil)
    (lss_cons (ls_if (lb_not (lb_truth (le_fn H_law_same (hr.mono (by decide)) rfl (ll_cons (le_fn H_way_of (hr.mono (by decide)) rfl (ll_cons (le_var 0) (ll_cons (le_var 1) ll_nil)) (lenIs_cons (lenIs_cons lenIs_nil))) (ll_cons (le_ix ix_vIx (le_var 3) le_int) ll_nil)) (lenIs_cons (lenIs_cons lenIs_nil))))) (lss_one (ls_ret le_bl)) lss_nil)
    (lss_cons (ls_for PassesOwn.never rfl (li_range1 rfl T.n_range (ll_cons (le_callB cl_len rfl T.n_len bt_len (ll_cons (le_ix ix_vIx (le_var 0) le_int) ll_nil)) ll_nil)) (lt_nm 4 sc_law_held.nd) (lss_one (ls_if (lb_not (lb_truth (le_fn H_law_same (hr.mono (by decide)) rfl (ll_cons (le_fn H_turns_at (hr.mono (by decide)) rfl (ll_cons (le_var 0) (ll_cons (le_var 1) (ll_cons (le_var 4) ll_nil))) (lenIs_cons (lenIs_cons (lenIs_cons lenIs_nil)))) (ll_cons (le_callTy cl_tuple rfl T.n_tuple bt_tuple (ll_cons (le_ix ix_vIx (le_ix ix_vIx (le_var 3) le_int) (le_var 4)) ll_nil)) ll_nil)) (lenIs_cons (lenIs_cons lenIs_nil))))) (lss_one (ls_ret le_bl)) lss_nil)))
    (lss_one (ls_ret le_bl)))))))
theorem ok_law (T : Txt K mg) {f : Addr} {fd : FuncData} (F : Fun K "law" "law" s_law f fd) (H_law_rig : HasFn P w K mg base "_law_rig" 1 ["script"] F_law_rig) (H_law_take : HasFn P w K mg base "_law_take" 1 ["rig", "many"] F_law_take) (H_law_code : HasFn P w K mg base "_law_code" 4 ["rig", "long"] F_law_code) (H_law_rounds : HasFn P w K mg base "_law_rounds" 3 ["rig", "code", "long"] F_law_rounds) (H_law_held : HasFn P w K mg base "_law_held" 22 ["code", "rounds"] F_law_held) (H_law_row : HasFn P w K mg base "_law_row" 1 ["code", "rounds"] F_law_row)  : FnOk P w K mg base CX0 23 f fd ["script"] (spOf K 1 F_law) :=
  fn_ok (k := 22) F sc_law fun cdv A outer s H E hr => (lss_cons (ls_set 1 sc_law.nd (le_fn H_law_rig (hr.mono (by decide)) rfl (ll_cons (le_var 0) ll_nil) (lenIs_cons lenIs_nil)))
    (lss_cons (ls_set 2 sc_law.nd (le_callTy cl_int rfl T.n_int bt_int (ll_cons (le_cmp (op_vEq hr.units) (le_fn H_law_take (hr.mono (by decide)) rfl (ll_cons (le_var 1) (ll_cons le_int ll_nil)) (lenIs_cons (lenIs_cons lenIs_nil))) le_int (nomark _)) ll_nil)))
    (lss_cons (ls_for PassesOwn.never rfl (li_range1 rfl T.n_range (ll_cons (le_op op_vSub le_int (le_op op_vMul le_int (le_var 2))) ll_nil)) (lt_nm 3 sc_law.nd) (lss_cons (ls_set 4 sc_law.nd (le_fn H_law_code (hr.mono (by decide)) rfl (ll_cons (le_var 1) (ll_cons (le_var 2) ll_nil)) (lenIs_cons (lenIs_cons lenIs_nil))))
    (lss_cons (ls_set 5 sc_law.nd (le_fn H_law_rounds (hr.mono (by decide)) rfl (ll_cons (le_var 1) (ll_cons (le_var 4) (ll_cons (le_var 2) ll_nil))) (lenIs_cons (lenIs_cons (lenIs_cons lenIs_nil)))))
    (lss_cons (ls_if (lb_not (lb_truth (le_fn H_law_held (hr.mono (by decide)) rfl (ll_cons (le_var 4) (ll_cons (le_var 5) ll_nil)) (lenIs_cons (lenIs_cons lenIs_nil))))) (lss_one (ls_ret le_bl)) lss_nil)
    (lss_cons (ls_if (LW.b (lw_and (lb_cmp op_vGt (le_callB cl_len rfl T.n_len bt_len (ll_cons (le_var 5) ll_nil)) le_int (nomark _)) (lw_and1 (lb_not (lb_truth (le_fn H_law_held (hr.mono (by decide)) rfl (ll_cons (le_var 4) (ll_cons (le_op op_vMul (le_tup (ll_cons le_int ll_nil) (lenIs_cons lenIs_nil)) (le_callB cl_len rfl T.n_len bt_len (ll_cons (le_var 5) ll_nil))) ll_nil)) (lenIs_cons (lenIs_cons lenIs_nil)))))))) (lss_one (ls_ret le_bl)) lss_nil)
    (lss_one (ls_if (LW.b (lw_and (lb_cmp (op_vEq hr.units) (le_callB cl_len rfl T.n_len bt_len (ll_cons (le_var 5) ll_nil)) le_int (nomark _)) (lw_and1 (lb_not (lb_truth (le_var 2)))))) (lss_cons (ls_set 6 sc_law.nd (le_back (le_var 5)))
    (lss_one (ls_if (LW.b (lw_and (lb_swp (lb_cmp op_vLe (le_swp (le_callB cl_len rfl T.n_len bt_len (ll_cons (le_fn H_law_row (hr.mono (by decide)) rfl (ll_cons (le_var 4) (ll_cons (le_var 6) ll_nil)) (lenIs_cons (lenIs_cons lenIs_nil))) ll_nil))) le_int (nomark _))) (lw_and1 (lb_not (lb_truth (le_fn H_law_held (hr.mono (by decide)) rfl (ll_cons (le_var 4) (ll_cons (le_var 6) ll_nil)) (lenIs_cons (lenIs_cons lenIs_nil)))))))) (lss_one (ls_ret le_bl)) lss_nil))) lss_nil)))))))
    (lss_cons (ls_set 7 sc_law.nd (le_op op_vAdd le_int (le_fn H_law_take (hr.mono (by decide)) rfl (ll_cons (le_var 1) (ll_cons le_int ll_nil)) (lenIs_cons (lenIs_cons lenIs_nil)))))
    (lss_cons (ls_set 8 sc_law.nd (le_swp (le_callTy cl_tuple rfl T.n_tuple bt_tuple (ll_cons (le_lc rfl sc_law.nd (li_range1 rfl T.n_range (ll_cons (le_var 7) ll_nil)) (blkOk_by (N := N_law) (sc := defScope s_law) (own := [("k", 9)]) (by decide +kernel)) (by decide) (fun _ _ _ _ _ => (lt_nm 9 sc_law.nd)) (fun _ _ _ _ _ => lts_yes) (fun _ _ _ _ _ => (le_tup (ll_cons le_str (ll_cons le_int (ll_cons (le_op op_vMul (le_op op_vSub (le_var 7) (le_var 9)) (le_op op_vSub le_int (le_op op_vMul le_int (le_op op_vMod (le_var 9) le_int)))) ll_nil))) (lenIs_cons (lenIs_cons (lenIs_cons lenIs_nil)))))) ll_nil))))
    (lss_cons (ls_set 8 sc_law.nd (le_op op_vAdd (le_var 8) (le_tup (ll_cons (le_tup (ll_cons le_str (ll_cons le_int (ll_cons le_int ll_nil))) (lenIs_cons (lenIs_cons (lenIs_cons lenIs_nil)))) (ll_cons (le_tup (ll_cons le_str (ll_cons le_int (ll_cons le_int ll_nil))) (lenIs_cons (lenIs_cons (lenIs_cons lenIs_nil)))) (ll_cons (le_tup (ll_cons le_str (ll_cons le_str ll_nil)) (lenIs_cons (lenIs_cons lenIs_nil))) ll_nil))) (lenIs_cons (lenIs_cons (lenIs_cons lenIs_nil))))))
    (lss_cons (ls_set 4 sc_law.nd (le_tup (ll_cons (le_tup (ll_cons (le_tup (ll_cons le_str (ll_cons le_int ll_nil)) (lenIs_cons (lenIs_cons lenIs_nil))) (ll_cons (le_tup (ll_cons le_str (ll_cons le_int ll_nil)) (lenIs_cons (lenIs_cons lenIs_nil))) ll_nil)) (lenIs_cons (lenIs_cons lenIs_nil))) (ll_cons (le_tup (ll_cons (le_tup (ll_cons le_str (ll_cons (le_var 8) ll_nil)) (lenIs_cons (lenIs_cons lenIs_nil))) (ll_cons (le_tup (ll_cons le_str (ll_cons (le_tup (ll_cons (le_tup (ll_cons le_str (ll_cons le_int (ll_cons (le_op op_vSub le_int (le_op op_vMul le_int (le_fn H_law_take (hr.mono (by decide)) rfl (ll_cons (le_var 1) (ll_cons le_int ll_nil)) (lenIs_cons (lenIs_cons lenIs_nil))))) ll_nil))) (lenIs_cons (lenIs_cons (lenIs_cons lenIs_nil)))) (ll_cons (le_tup (ll_cons le_str (ll_cons le_str ll_nil)) (lenIs_cons (lenIs_cons lenIs_nil))) ll_nil)) (lenIs_cons (lenIs_cons lenIs_nil))) ll_nil)) (lenIs_cons (lenIs_cons lenIs_nil))) ll_nil)) (lenIs_cons (lenIs_cons lenIs_nil))) ll_nil)) (lenIs_cons (lenIs_cons lenIs_nil))))
    (lss_one (ls_ret (le_fn H_law_held (hr.mono (by decide)) rfl (ll_cons (le_var 4) (ll_cons (le_tup (ll_cons (le_op op_vAdd le_int (le_fn H_law_take (hr.mono (by decide)) rfl (ll_cons (le_var 1) (ll_cons le_int ll_nil)) (lenIs_cons (lenIs_cons lenIs_nil)))) ll_nil) (lenIs_cons lenIs_nil)) ll_nil)) (lenIs_cons (lenIs_cons lenIs_nil))))))))))))
end

end Ap
namespace Ap
open PySem L2 L3
/-! the drawer -/
def rigD (m : Nat) (salt knot : Int) : List (Key × D) := [(.inr "ropes", .ref m), (.inr "salt", .int salt), (.inr "knot", .int knot)]
theorem nk1 : ¬ (("ropes" : Str) = "salt") := by decide +kernel
theorem nk2 : ¬ (("ropes" : Str) = "knot") := by decide +kernel
theorem nk3 : ¬ (("salt" : Str) = "knot") := by decide +kernel
theorem look_ropes {m : Nat} {salt knot : Int} : lookD (rigD m salt knot) (.inr "ropes") = some (.ref m) := by simp [lookD, rigD]
theorem look_salt {m : Nat} {salt knot : Int} : lookD (rigD m salt knot) (.inr "salt") = some (.int salt) := by simp [lookD, rigD, nk1]
theorem look_knot {m : Nat} {salt knot : Int} : lookD (rigD m salt knot) (.inr "knot") = some (.int knot) := by simp [lookD, rigD, nk2, nk3]
theorem set_knot {m : Nat} {salt knot k : Int} : setD (rigD m salt knot) (.inr "knot") (.int k) = rigD m salt k := by simp [setD, rigD, nk2, nk3]
def Rig (n m : Nat) (k : Int) (st : Store) : Prop := ∃ (rs : List Int) (salt knot : Int), st[n]? = some (.dK (rigD m salt knot)) ∧ st[m]? = some (.lst (rs.map .int)) ∧ n ≠ m ∧ (0 ≤ salt ∧ salt < 4294964167) ∧ (0 ≤ knot ∧ knot ≤ k) ∧ (∀ r ∈ rs, 0 ≤ r) ∧ rs.length ≤ 100
theorem take_ok {n m : Nat} {k : Int} {st : Store} {many : Int} (A : Rig n m k st) (hk : k ≤ 10 ^ 14) (hm : 1 ≤ many ∧ many ≤ 10 ^ 12) :
    ∃ r st', F_law_take [.ref n, .int many] st = .ok (.int r) st' ∧ Rig n m (k + 1) st' ∧ Upd n m st st' ∧ 0 ≤ r ∧ r < many := by
  obtain ⟨rs, salt, knot, h1, h2, hne, b1, b2, hg, hgl⟩ := A
  have hmn : m ≠ n := Ne.symm hne
  have hn : n < st.length := lt_of_get h1
  have hml : m < st.length := lt_of_get h2
  have n1 : ∀ x : SO, (st.set n x)[n]? = some x := fun x => List.getElem?_set_self hn
  have n2 : ∀ x : SO, (st.set n x)[m]? = st[m]? := fun x => List.getElem?_set_ne hne
  have hl3 : (rigD m salt knot).length < 1000 := by simp [rigD]
  have pt : ∀ (ρ : Envr), putD (.ref n) (.str "knot") (.int (knot + 1)) ρ st = .nx ρ (st.set n (.dK (rigD m salt (knot + 1)))) := fun ρ => by rw [putD_ev h1 hl3, set_knot]
  have e1 : vDix (.ref n) (.str "knot") st = .ok (.int knot) st := vDix_ev h1 look_knot
  have e2 : ∀ d : Int, vDix (.ref n) (.str "ropes") (st.set n (.dK (rigD m salt d))) = .ok (.ref m) (st.set n (.dK (rigD m salt d))) := fun d => vDix_ev (n1 _) look_ropes
  have e3 : ∀ d : Int, vDix (.ref n) (.str "knot") (st.set n (.dK (rigD m salt d))) = .ok (.int d) (st.set n (.dK (rigD m salt d))) := fun d => vDix_ev (n1 _) look_knot
  have e4 : ∀ d : Int, vDix (.ref n) (.str "salt") (st.set n (.dK (rigD m salt d))) = .ok (.int salt) (st.set n (.dK (rigD m salt d))) := fun d => vDix_ev (n1 _) look_salt
  have hmy : 0 < many := by omega
  have m6 := div_ok (b := many) hmy (by omega)
  rcases List.eq_nil_or_concat rs with e | ⟨gi, g, e⟩
  · subst e
    have w1 := mul_ok (a := salt) (b := 16807) (by omega) (by decide)
    have w2 := mul_ok (a := knot + 1) (b := 52021) (by omega) (by decide)
    have q1 : 0 ≤ (salt * 16807 + (knot + 1) * 52021) % 4294964167 ∧ (salt * 16807 + (knot + 1) * 52021) % 4294964167 < 4294964167 := by omega
    generalize hv : (salt * 16807 + (knot + 1) * 52021) % 4294964167 = v at q1
    have w3 := mul_ok (a := v) (b := 48271) (by omega) (by decide)
    have w4 := mul_ok (a := knot + 1) (b := knot + 1) (by omega) (by omega)
    have k2 : 0 ≤ (knot + 1) * (knot + 1) := Int.mul_nonneg (by omega) (by omega)
    have k3 : (knot + 1) * (knot + 1) ≤ (10 ^ 14 + 1) * (10 ^ 14 + 1) := Int.mul_le_mul (by omega) (by omega) (by omega) (by omega)
    have w5 := mul_ok (a := (knot + 1) * (knot + 1)) (b := 107) (by omega) (by decide)
    have d1 := div_ok (b := 701) (by decide) (by decide)
    have d2 := div_ok (b := 200) (by decide) (by decide)
    refine ⟨_, st.set n (.dK (rigD m salt (knot + 1))), (fn_rt (st' := st.set n (.dK (rigD m salt (knot + 1)))) (d := .int ((v * 48271 + v / 701 + (knot + 1) * (knot + 1) * 107) % 2147483629 / 200 % many)) ?_).trans (swept_len (by simp)), ⟨[], salt, knot + 1, n1 _, by rw [n2]; exact h2, hne, b1, by omega, hg, by simp⟩, .set1, Int.emod_nonneg _ (by omega), Int.emod_lt_of_pos _ hmy⟩
    simp [b_law_take, e1, pt, e2, e3, e4, bLen, n2, h2, w1, w2, w3, w4, w5, hv, d1, d2, hmy]
  · rw [List.concat_eq_append] at e
    subst e
    have g0 : 0 ≤ g := hg g (by simp)
    have h2' : st[m]? = some (.lst (gi.map .int ++ [.int g])) := by rw [h2]; simp
    have r0 := Int.emod_nonneg g (show many ≠ 0 by omega)
    have r1 := Int.emod_lt_of_pos g hmy
    have d0 : 0 ≤ g / many := Int.ediv_nonneg g0 (by omega)
    have hml' : ∀ x : SO, m < (st.set n x).length := fun x => by simpa using hml
    have n3 : ∀ x y : SO, ((st.set n x).set m y)[m]? = some y := fun x y => List.getElem?_set_self (hml' x)
    have n4 : ∀ x y : SO, ((st.set n x).set m y)[n]? = some x := fun x y => by rw [List.getElem?_set_ne hmn, n1]
    have hi : ixN (gi.length + 1) (-1) = some gi.length := ixN_last
    have hgl' : gi.length < sizeLine := by simp at hgl; have := sizeLine_eq; omega
    have U : ∀ x y : SO, Upd n m st ((st.set n x).set m y) := fun x y => .trans .set1 .set2
    by_cases hc : g / many < 3803
    · refine ⟨g % many, (st.set n (.dK (rigD m salt (knot + 1)))).set m (.lst (gi.map .int)), (fn_rt (st' := (st.set n (.dK (rigD m salt (knot + 1)))).set m (.lst (gi.map .int))) (d := .int (g % many)) ?_).trans (swept_len (by simp)), ⟨gi, salt, knot + 1, n4 _ _, n3 _ _, hne, b1, by omega, fun x hx => hg x (by simp [hx]), by simp at hgl; omega⟩, U _ _, r0, r1⟩
      simp [b_law_take, e1, pt, e2, e3, e4, bLen, n2, h2', hmy, m6, hi, n3, hc, isLst, mPop]
    · refine ⟨g % many, (st.set n (.dK (rigD m salt (knot + 1)))).set m (.lst ((gi ++ [g / many]).map .int)), (fn_rt (st' := (st.set n (.dK (rigD m salt (knot + 1)))).set m (.lst ((gi ++ [g / many]).map .int))) (d := .int (g % many)) ?_).trans (swept_len (by simp)), ⟨gi ++ [g / many], salt, knot + 1, n4 _ _, n3 _ _, hne, b1, by omega, fun x hx => ?_, by simpa using hgl⟩, U _ _, r0, r1⟩
      · simp [b_law_take, e1, pt, e2, e3, e4, bLen, n2, h2', hmy, m6, hi, n3, hc]
      · rcases List.mem_append.mp hx with hx | hx
        · exact hg x (by simp [hx])
        · rw [List.mem_singleton.mp hx]; exact d0
end Ap

namespace Ap
open PySem L2 L3
inductive Step where
  | to (a : Nat) (p : Int)
  | by (a : Nat) (w : Int)
  | cut (f : Str)
def Step.enc : Step → D
  | .to a p => .tup [.str "to", .int a, .int p]
  | .by a w => .tup [.str "by", .int a, .int w]
  | .cut f => .tup [.str "cut", .str f]
theorem Step.low (x : Step) : x.enc.low 0 = true := by cases x <;> rfl
def encSteps (s : List Step) : D := .tup (s.map Step.enc)
theorem encSteps_low (x : List Step) : (encSteps x).low 0 = true := lows_map Step.low x
inductive Move where
  | cut (f : Str) (ps : List Int)
  | go (a : Nat) (w : Int)
def Move.enc : Move → D
  | .cut f ps => .tup [.str f, .tup (ps.map .int)]
  | .go a w => .tup [.int a, .int w]
theorem Move.low (x : Move) : x.enc.low 0 = true := by cases x <;> simp [Move.enc]
structure Code where
  bounds : List (Str × Int)
  segs : List (Str × List Step)
def encB (b : Str × Int) : D := .tup [.str b.1, .int b.2]
def encS (s : Str × List Step) : D := .tup [.str s.1, encSteps s.2]
def encSegs (s : List (Str × List Step)) : D := .tup (s.map encS)
def Code.enc (c : Code) : D := .tup [.tup (c.bounds.map encB), encSegs c.segs]
theorem ne1 : ¬ (("by" : Str) = "to") := by decide +kernel
theorem ne2 : ¬ (("cut" : Str) = "to") := by decide +kernel
theorem ne3 : ¬ (("to" : Str) = "by") := by decide +kernel
theorem ne4 : ¬ (("cut" : Str) = "by") := by decide +kernel
theorem ne5 : ¬ (("to" : Str) = "cut") := by decide +kernel
theorem ne6 : ¬ (("by" : Str) = "cut") := by decide +kernel
def isAny (x : Str × List Step) : Bool := decide (x.1 = "any")
/-- the rounds fit -/
inductive Fits (ax : Nat) : List (Str × List Step) → List Int → Prop where
  | nil : Fits ax [] []
  | any {s : List Step} {segs : List (Str × List Step)} {n : Int} {ns : List Int} : 1 ≤ n → n ≤ 60 → s.length ≤ 40 → (∀ a p, Step.to a p ∈ s ∨ Step.by a p ∈ s → a < ax) → Fits ax segs ns → Fits ax (("any", s) :: segs) (n :: ns)
  | once {k : Str} {s : List Step} {segs : List (Str × List Step)} {ns : List Int} : k ≠ "any" → s.length ≤ 40 → (∀ a p, Step.to a p ∈ s ∨ Step.by a p ∈ s → a < ax) → Fits ax segs ns → Fits ax ((k, s) :: segs) ns
def rowP : List (Str × List Step) → List Int → List Step
  | [], _ => []
  | (k, s) :: r, ns => if k = "any" then (match ns with
    | [] => []
    | n :: ns => (List.replicate n.toNat s).flatten ++ rowP r ns) else s ++ rowP r ns
theorem rowP_len {ax : Nat} {segs : List (Str × List Step)} {ns : List Int} (h : Fits ax segs ns) : (rowP segs ns).length ≤ 2400 * segs.length := by
  induction h with
  | nil => simp [rowP]
  | @any s segs n ns h1 h2 h3 h4 h5 ih =>
    have : n.toNat * s.length ≤ 60 * 40 := Nat.mul_le_mul (by omega) h3
    simp [rowP] at ih ⊢
    omega
  | once h1 h2 h3 h4 ih => simp [rowP, h1] at ih ⊢; omega
theorem flat_map {n : Nat} {s : List Step} : (List.replicate n (s.map Step.enc)).flatten = ((List.replicate n s).flatten).map Step.enc := by simp
def RoI (ax : Nat) (c : Code) (r : D) (L : Nat) (st : Store) (V : List Step) (ys : List (Str × List Step)) (ρ : Envr) (s : Store) : Prop :=
  ∃ (told : List Step) (ns : List Int) (l4 l5 : Option D), ρ = [some c.enc, some r, some (encSteps told), some (.ref L), l4, l5] ∧ s = st ++ [.lst (ns.map .int)] ∧ Fits ax ys ns ∧ told ++ rowP ys ns = V ∧ told.length + 2400 * ys.length ≤ 24000
theorem row_of_ev {ax : Nat} {c : Code} {ns : List Int} {st : Store} (h : Fits ax c.segs ns) (hl : c.segs.length ≤ 10) : F_row_of [c.enc, .tup (ns.map .int)] st = .ok (encSteps (rowP c.segs ns)) st := by
  refine fn_eq ?_
  simp [b_row_of]
  simp [Code.enc, encSegs]
  generalize hV : rowP c.segs ns = V
  refine wp_for (enc := encS) (xs := c.segs) (RoI ax c (.tup (ns.map .int)) st.length st V) ⟨[], ns, none, none, by simp [Code.enc, encSegs, encSteps], rfl, h, by simpa using hV, by simp; omega⟩ ?_ ?_
  · rintro ρ s ⟨told, ns', l4, l5, rfl, rfl, hf, e, _⟩
    cases hf
    simp [rowP] at e
    subst e
    refine ⟨trivial, ?_⟩
    simp
    exact swept_push (encSteps_low _)
  · rintro ⟨k, s⟩ ys ρ st' hx ⟨told, ns', l4, l5, rfl, rfl, hf, e, hsz⟩
    simp at hsz
    refine ⟨trivial, _, rfl, ?_⟩
    cases hf with
    | any h1 h2 h3 h4 h5 =>
      rename_i n ns2
      have hn : n.toNat * s.length ≤ 60 * 40 := Nat.mul_le_mul (by omega) h3
      have hp : mPop st.length [.int 0] (st ++ [.lst ((n :: ns2).map .int)]) = .ok (.int n) (st ++ [.lst (ns2.map .int)]) := by
        simp [mPop, seqIndex?]
      simp [encSteps, isLst]
      simp at hp
      rw [hp]
      simp
      rw [vMul_tup (by omega) (by simp; omega)]
      simp
      rw [vAdd_tup (by simp; omega)]
      simp
      refine ⟨told ++ (List.replicate n.toNat s).flatten, ns2, _, _, by simp [encSteps, Code.enc, encSegs]; exact ⟨rfl, rfl⟩, rfl, h5, ?_, by simp; omega⟩
      simpa [rowP] using e
    | once h1 h2 h3 h4 =>
      simp [encSteps, h1]
      rw [vMul_tup (by omega) (by simp; omega)]
      simp
      rw [vAdd_tup (by simp; omega)]
      simp
      refine ⟨told ++ s, ns', _, _, by simp [encSteps, Code.enc, encSegs]; exact ⟨rfl, rfl⟩, rfl, h4, ?_, by simp; omega⟩
      simpa [rowP, h1] using e
end Ap

namespace Ap
open PySem L2 L3
def wayP (ps : List Int) : Step → Int
  | .to a p => p - ps.getD a 0
  | .by _ w => w
  | .cut _ => 0
def movesP : List Step → List Int → List Move × List Int
  | [], ps => ([], ps)
  | .cut f :: r, ps => (.cut f ps :: (movesP r ps).1, (movesP r ps).2)
  | .to a p :: r, ps => (.go a (wayP ps (.to a p)) :: (movesP r (ps.set a (ps.getD a 0 + wayP ps (.to a p)))).1, (movesP r (ps.set a (ps.getD a 0 + wayP ps (.to a p)))).2)
  | .by a w :: r, ps => (.go a w :: (movesP r (ps.set a (ps.getD a 0 + w))).1, (movesP r (ps.set a (ps.getD a 0 + w))).2)
def AxOk (n : Nat) (s : List Step) : Prop := ∀ a p, Step.to a p ∈ s ∨ Step.by a p ∈ s → a < n
theorem getD_map {ps : List Int} {a : Nat} (h : a < ps.length) : (ps.map D.int)[a]? = some (.int (ps.getD a 0)) := by simp [h]
theorem way_by_ev {a : Nat} {w : Int} {x : D} {st : Store} : F_way_of_step [(Step.by a w).enc, x] st = .ok (.int w) st := by
  refine (fn_rt (st' := st) (d := .int w) ?_).trans swept_same
  simp [b_way_of_step, Step.enc]
theorem way_to_ev {a : Nat} {p : Int} {n : Nat} {ps : List Int} {st : Store} (h : st[n]? = some (.lst (ps.map .int))) (ha : a < ps.length) : F_way_of_step [(Step.to a p).enc, .ref n] st = .ok (.int (wayP ps (.to a p))) st := by
  refine (fn_rt (st' := st) (d := .int (wayP ps (.to a p))) ?_).trans swept_same
  have := getD_map ha
  simp [b_way_of_step, Step.enc, ne3, h, wayP, ha]
def MoI (c : Code) (r : D) (st : Store) (n : Nat) (V : List Move × List Int) (ys : List Step) (ρ : Envr) (s : Store) : Prop :=
  ∃ (ps : List Int) (ms : List Move) (l4 l5 : Option D), ρ = [some c.enc, some r, some (.ref st.length), some (.ref (st.length + 1)), l4, l5, none] ∧ s = st ++ [.lst (ps.map .int), .lst (ms.map Move.enc)] ∧ ps.length = n ∧
    (ms ++ (movesP ys ps).1, (movesP ys ps).2) = V ∧ AxOk n ys ∧ ms.length + ys.length ≤ 24000
theorem fits_ax {ax : Nat} {segs : List (Str × List Step)} {ns : List Int} (h : Fits ax segs ns) : AxOk ax (rowP segs ns) := by
  induction h with
  | nil => intro a p hp; simp [rowP] at hp
  | any h1 h2 h3 h4 h5 ih =>
    intro a p hp
    simp [rowP] at hp
    rcases hp with (⟨_, ⟨_, rfl⟩, hp⟩ | hp) | (⟨_, ⟨_, rfl⟩, hp⟩ | hp)
    · exact h4 a p (.inl hp)
    · exact ih a p (.inl hp)
    · exact h4 a p (.inr hp)
    · exact ih a p (.inr hp)
  | once h1 h2 h3 h4 ih =>
    intro a p hp
    simp [rowP, h1] at hp
    rcases hp with (hp | hp) | (hp | hp)
    · exact h3 a p (.inl hp)
    · exact ih a p (.inl hp)
    · exact h3 a p (.inr hp)
    · exact ih a p (.inr hp)
def zeros (n : Nat) : List Int := List.replicate n 0
theorem moves_of_ev {c : Code} {ns : List Int} {st : Store} (h : Fits c.bounds.length c.segs ns) (hl : c.segs.length ≤ 10) (hb : c.bounds.length ≤ 10) :
    F_moves_of [c.enc, .tup (ns.map .int)] st = .ok (.ref (st.length + 1)) (st ++ [.lst ((movesP (rowP c.segs ns) (zeros c.bounds.length)).2.map .int), .lst ((movesP (rowP c.segs ns) (zeros c.bounds.length)).1.map Move.enc)]) := by
  refine fn_eq ?_
  simp [b_moves_of, -sLc_ev]
  rw [sLc_itsA encB (fun _ => .int 0) c.bounds (by simp [Code.enc]) (by have := sizeLine_eq; omega) (fun x _ => ⟨_, rfl, rfl⟩)]
  simp
  rw [row_of_ev h hl]
  simp [encSteps]
  generalize hV : movesP (rowP c.segs ns) (zeros c.bounds.length) = V
  have hlen := rowP_len h
  refine wp_for (enc := Step.enc) (xs := rowP c.segs ns) (MoI c (.tup (ns.map .int)) st c.bounds.length V) ⟨zeros c.bounds.length, [], none, none, by simp, by simp [zeros, List.map_const'], by simp [zeros], by simp [hV], fits_ax h, by simp; omega⟩ ?_ ?_
  · rintro ρ s ⟨ps, ms, l4, l5, rfl, rfl, hn, e, _, _⟩
    simp [movesP] at e
    subst e
    refine ⟨trivial, ?_⟩
    simp
    exact swept_ref (by omega)
  · rintro x ys ρ s hx ⟨ps, ms, l4, l5, rfl, rfl, hn, e, hax, hsz⟩
    refine ⟨trivial, _, rfl, ?_⟩
    simp at hsz
    have hax' : AxOk c.bounds.length ys := fun a p hp => hax a p (hp.imp (List.mem_cons_of_mem _) (List.mem_cons_of_mem _))
    cases x with
    | cut f =>
      simp [Step.enc, isLst, get_a1, bTuple, seqOf]
      rw [mAppend_ev get_a1 (by simp; omega)]
      simp [set_a1]
      exact ⟨ps, ms ++ [.cut f ps], _, _, rfl, by simp [Move.enc], hn, by rw [← e]; simp [movesP], hax', by simp; omega⟩
    | to a p =>
      have ha : a < ps.length := by rw [hn]; exact hax a p (by simp)
      simp [Step.enc, ne5]
      have := way_to_ev (p := p) (n := st.length) (ps := ps) (st := st ++ [.lst (ps.map .int), .lst (ms.map Move.enc)]) get_a0 ha
      simp [Step.enc] at this
      simp [this, getD_map ha, ixN_nat ha, isLst, get_a1]
      have e5 : (ps.map D.int).set a (.int (ps.getD a 0 + wayP ps (.to a p))) = (ps.set a (ps.getD a 0 + wayP ps (.to a p))).map .int := by simp [List.map_set]
      rw [mAppend_ev (xs := ms.map Move.enc) get_a1 (by simp; omega)]
      simp only [wp_ok, set_a1]
      exact ⟨ps.set a (ps.getD a 0 + wayP ps (.to a p)), ms ++ [.go a (wayP ps (.to a p))], _, _, rfl, by simp [Move.enc, List.map_set], by simpa using hn, by rw [← e]; simp [movesP], hax', by simp; omega⟩
    | «by» a w =>
      have ha : a < ps.length := by rw [hn]; exact hax a w (by simp)
      simp [Step.enc, ne6]
      have := way_by_ev (a := a) (w := w) (x := .ref st.length) (st := st ++ [.lst (ps.map .int), .lst (ms.map Move.enc)])
      simp [Step.enc] at this
      simp [this, getD_map ha, ixN_nat ha, isLst, get_a1]
      rw [mAppend_ev (xs := ms.map Move.enc) get_a1 (by simp; omega)]
      simp only [wp_ok, set_a1]
      exact ⟨ps.set a (ps.getD a 0 + w), ms ++ [.go a w], _, _, rfl, by simp [Move.enc, List.map_set], by simpa using hn, by rw [← e]; simp [movesP], hax', by simp; omega⟩
end Ap

namespace Ap
open PySem L2 L3
def isCut : Move → Bool
  | .cut _ _ => true
  | .go _ _ => false
def wOf : Move → Int
  | .cut _ _ => 0
  | .go _ w => w.natAbs
theorem is_cut_ev {m : Move} {st : Store} : F_is_cut [m.enc] st = .ok (.bl (isCut m)) st := by
  refine (fn_rt (st' := st) (d := .bl (isCut m)) ?_).trans swept_same
  cases m <;> simp [b_is_cut, Move.enc, isCut, kit_13, kit_11]
theorem movesP_len : ∀ (ys : List Step) (ps : List Int), (movesP ys ps).1.length = ys.length
  | [], _ => rfl
  | .cut _ :: r, ps => by simp [movesP, movesP_len r]
  | .to _ _ :: r, ps => by simp [movesP, movesP_len r]
  | .by _ _ :: r, ps => by simp [movesP, movesP_len r]
def movesC (c : Code) (ns : List Int) : List Move := (movesP (rowP c.segs ns) (zeros c.bounds.length)).1
def placesC (c : Code) (ns : List Int) : List Int := (movesP (rowP c.segs ns) (zeros c.bounds.length)).2
theorem movesC_len {c : Code} {ns : List Int} (h : Fits c.bounds.length c.segs ns) (hl : c.segs.length ≤ 10) : (movesC c ns).length ≤ 24000 := by
  have := rowP_len h
  simp only [movesC, movesP_len]; omega
theorem cuts_at_ev {c : Code} {ns : List Int} {st : Store} (h : Fits c.bounds.length c.segs ns) (hl : c.segs.length ≤ 10) (hb : c.bounds.length ≤ 10) :
    F_cuts_at [c.enc, .tup (ns.map .int)] st = .ok (.tup (((movesC c ns).filter isCut).map Move.enc)) st := by
  have hm := movesC_len h hl
  refine (fn_rt (st' := st) (d := .tup (((movesC c ns).filter isCut).map Move.enc)) ?_).trans swept_same
  simp [b_cuts_at, -sLc_ev]
  rw [sLc_map Move.enc isCut Move.enc (movesC c ns) (src := .lst (st.length + 1) ((movesC c ns).map Move.enc)) (st1 := st ++ [.lst ((placesC c ns).map .int), .lst ((movesC c ns).map Move.enc)]) (by simp [moves_of_ev h hl hb, srcOf_ref, get_a1, movesC, placesC]) rfl (by simp [get_a1]) (fun x hx => by simp [is_cut_ev]) (by have := sizeLine_eq; omega)]
  simp only [bind_ok', bTuple_push]
  rw [(Keep.refl.push.push : Keep st _).swept (by simp [Move.low])]
  simp
theorem way_of_ev {c : Code} {ns : List Int} {st : Store} (h : Fits c.bounds.length c.segs ns) (hl : c.segs.length ≤ 10) (hb : c.bounds.length ≤ 10) :
    F_way_of [c.enc, .tup (ns.map .int)] st = .ok (.int ((movesC c ns).map wOf).sum) st := by
  have hm := movesC_len h hl
  refine (fn_rt (st' := st) (d := .int ((movesC c ns).map wOf).sum) ?_).trans swept_same
  simp [b_way_of, -sLc_ev]
  rw [sLc_map Move.enc (fun m => !isCut m) (fun m => .int (wOf m)) (movesC c ns) (src := .lst (st.length + 1) ((movesC c ns).map Move.enc)) (st1 := st ++ [.lst ((placesC c ns).map .int), .lst ((movesC c ns).map Move.enc)]) (by simp [moves_of_ev h hl hb, srcOf_ref, get_a1, movesC, placesC]) rfl (by simp [get_a1]) (fun x hx => by
    cases x <;> simp [is_cut_ev, isCut]
    simp [Move.enc, wOf]) (by have := sizeLine_eq; omega)]
  have e1 : ∀ ms : List Move, (ms.filter fun m => !isCut m).map (fun m => D.int (wOf m)) = ((ms.filter fun m => !isCut m).map wOf).map .int := by simp
  have e2 : ∀ ms : List Move, ((ms.filter fun m => !isCut m).map wOf).sum = (ms.map wOf).sum := by
    intro ms
    induction ms with
    | nil => rfl
    | cons m ms ih =>
      cases m with
      | cut f ps => rw [List.filter_cons_of_neg (by simp [isCut]), List.map_cons, List.sum_cons, ih]; simp [wOf]
      | go a w => rw [List.filter_cons_of_pos (by simp [isCut]), List.map_cons, List.sum_cons, List.map_cons, List.sum_cons, ih]
  rw [e1]
  simp only [bind_ok', bSum_push]
  rw [(Keep.refl.push.push : Keep st _).swept rfl, e2]
  simp
def turnsP (a : Nat) : List Move → Int → Int → List Int
  | [], _, _ => []
  | .cut _ _ :: r, p, b => turnsP a r p b
  | .go x w :: r, p, b => if x = a ∧ w ≠ 0 then (if b * w < 0 then [p] else []) ++ turnsP a r (p + w) (if 0 < w then 1 else -1) else turnsP a r p b
def MBd (m : Move) : Prop := match m with
  | .cut _ _ => True
  | .go _ w => w.natAbs ≤ 10 ^ 29
def SBd (x : Step) : Prop := match x with
  | .to _ p => -(10 ^ 10) ≤ p ∧ p ≤ 10 ^ 10
  | .by _ w => -(10 ^ 10) ≤ w ∧ w ≤ 10 ^ 10
  | .cut _ => True
theorem getD_bd {ps : List Int} {B : Int} (h : ∀ x ∈ ps, -B ≤ x ∧ x ≤ B) (hB : 0 ≤ B) (a : Nat) : -B ≤ ps.getD a 0 ∧ ps.getD a 0 ≤ B := by
  rw [List.getD_eq_getElem?_getD]
  cases e : ps[a]? with
  | none => simp; omega
  | some x => simpa using h x (List.mem_of_getElem? e)
theorem set_bd {ps : List Int} {B y : Int} {a : Nat} (h : ∀ x ∈ ps, -B ≤ x ∧ x ≤ B) (hy : -B ≤ y ∧ y ≤ B) : ∀ x ∈ ps.set a y, -B ≤ x ∧ x ≤ B := fun x hx => by
  rcases List.mem_or_eq_of_mem_set hx with h1 | h1
  · exact h x h1
  · rw [h1]; exact hy
theorem moves_bd : ∀ (ys : List Step) (ps : List Int) (B : Int), (∀ x ∈ ys, SBd x) → (∀ x ∈ ps, -B ≤ x ∧ x ≤ B) → 0 ≤ B → B + 10 ^ 10 * (ys.length : Int) ≤ 10 ^ 29 → ∀ m ∈ (movesP ys ps).1, MBd m
  | [], _, _, _, _, _, _ => by simp [movesP]
  | x :: r, ps, B, hs, hp, hB, hl => by
    have hr : ∀ y ∈ r, SBd y := fun y hy => hs y (by simp [hy])
    have hx := hs x (by simp)
    simp only [List.length_cons] at hl
    have hp' : ∀ x ∈ ps, -(B + 10 ^ 10) ≤ x ∧ x ≤ B + 10 ^ 10 := fun x hx => by have := hp x hx; omega
    have hl' : B + 10 ^ 10 + 10 ^ 10 * (r.length : Int) ≤ 10 ^ 29 := by push_cast at hl; omega
    have hl2 : (0 : Int) ≤ r.length := by omega
    cases x with
    | cut f =>
      intro m hm
      simp only [movesP, List.mem_cons] at hm
      rcases hm with rfl | hm
      · trivial
      · exact moves_bd r ps (B + 10 ^ 10) hr hp' (by omega) hl' m hm
    | to a p =>
      intro m hm
      simp only [movesP, List.mem_cons] at hm
      have hg := getD_bd hp hB a
      simp only [SBd] at hx
      rcases hm with rfl | hm
      · simp only [MBd, wayP]; omega
      · exact moves_bd r _ (B + 10 ^ 10) hr (set_bd hp' (by simp only [wayP]; omega)) (by omega) hl' m hm
    | «by» a w =>
      intro m hm
      simp only [movesP, List.mem_cons] at hm
      have hg := getD_bd hp hB a
      simp only [SBd] at hx
      rcases hm with rfl | hm
      · simp only [MBd]; omega
      · exact moves_bd r _ (B + 10 ^ 10) hr (set_bd hp' (by omega)) (by omega) hl' m hm
def TuI (c : Code) (r : D) (a : Nat) (st : Store) (pl ms : List D) (V : List Int) (ys : List Move) (ρ : Envr) (s : Store) : Prop :=
  ∃ (p b : Int) (told : List Int) (l6 : Option D), ρ = [some c.enc, some r, some (.int a), some (.int p), some (.int b), some (.ref st.length), l6] ∧ s = st ++ [.lst (told.map .int), .lst pl, .lst ms] ∧ told ++ turnsP a ys p b = V ∧ (-1 ≤ b ∧ b ≤ 1) ∧ told.length + ys.length ≤ 24000
def TuE (st : Store) (V : List Int) (c : Code) (r : D) (a : Nat) (ρ : Envr) (s : Store) : Prop := s[st.length]? = some (.lst (V.map .int)) ∧ Keep st s ∧ ∃ l3 l4 l6 : Option D, ρ = [some c.enc, some r, some (.int a), l3, l4, some (.ref st.length), l6]
theorem turns_at_ev {c : Code} {ns : List Int} {st : Store} {a : Nat} (h : Fits c.bounds.length c.segs ns) (hl : c.segs.length ≤ 10) (hb : c.bounds.length ≤ 10) (hm : ∀ m ∈ movesC c ns, MBd m) :
    F_turns_at [c.enc, .tup (ns.map .int), .int a] st = .ok (.tup ((turnsP a (movesC c ns) 0 0).map .int)) st := by
  have hlen := movesC_len h hl
  refine fn_eq ?_
  simp [b_turns_at]
  refine wps_mono (N := TuE st (turnsP a (movesC c ns) 0 0) c (.tup (ns.map .int)) a) (C := fun _ _ => False) (B := fun _ _ => False) (R := fun _ _ => False) (wps_xswp ?_) ?_ (fun _ _ q => q.elim) (fun _ _ q => q.elim) (fun _ _ q => q.elim)
  · have g2 : srcOf (.ref (st.length + 1 + 1)) (st ++ [.lst [], .lst ((placesC c ns).map .int), .lst ((movesC c ns).map Move.enc)]) = some (.lst (st.length + 1 + 1) ((movesC c ns).map Move.enc)) := srcOf_of get_a2
    simp only [movesC, placesC] at g2 hlen hm
    simp [moves_of_ev h hl hb, g2]
    generalize (movesP (rowP c.segs ns) (zeros c.bounds.length)).2.map D.int = pl
    generalize hms : (movesP (rowP c.segs ns) (zeros c.bounds.length)).1 = ms at hlen hm
    simp only [movesC, hms]
    generalize hV : turnsP a ms 0 0 = V
    refine wp_for (enc := Move.enc) (xs := ms) (TuI c (.tup (ns.map .int)) a st pl (ms.map Move.enc) V) ⟨0, 0, [], none, rfl, by simp, by simpa using hV, by omega, by simpa using hlen⟩ ?_ ?_
    · rintro ρ s ⟨p, b, told, l6, rfl, rfl, e, hb1, _⟩
      simp [turnsP] at e
      subst e
      have k : ∀ more : List SO, TuE st told c (.tup (ns.map .int)) a [some c.enc, some (.tup (ns.map .int)), some (.int a), some (.int p), some (.int b), some (.ref st.length), l6] (st ++ .lst (told.map .int) :: more) := fun more => ⟨get_a0, Keep.refl.push, _, _, _, rfl⟩
      refine ⟨get_a2, k _, ?_⟩
      rw [take_push1]
      exact k []
    · rintro x ys ρ s hx ⟨p, b, told, l6, rfl, rfl, e, hb1, hsz⟩
      simp at hsz
      refine ⟨get_a2, _, rfl, ?_⟩
      cases x with
      | cut f ps =>
        simp [is_cut_ev, isCut]
        exact ⟨p, b, told, _, rfl, rfl, by rw [← e]; simp [turnsP], hb1, by omega⟩
      | go x w =>
        have hw := hm _ hx
        simp only [MBd] at hw
        simp [is_cut_ev, isCut]
        simp [Move.enc]
        by_cases hxa : x = a
        · by_cases hw0 : w = 0
          · simp [hxa, hw0]
            exact ⟨p, b, told, _, rfl, rfl, by rw [← e]; simp [turnsP, hw0], hb1, by omega⟩
          · have w1 := mul_ok (a := b) (b := w) (by omega) (by omega)
            simp [hxa, hw0, w1]
            have sg : (if 0 < w then (.int 1 : D) else .int (-1)) = .int (if 0 < w then 1 else -1) := by split <;> rfl
            have fin : ∀ told' : List Int, told'.length ≤ told.length + 1 → told' ++ turnsP a ys (p + w) (if 0 < w then 1 else -1) = V → TuI c (.tup (ns.map .int)) a st pl (ms.map Move.enc) V ys [some c.enc, some (.tup (ns.map .int)), some (.int a), some (.int (p + w)), some (.int (if 0 < w then 1 else -1)), some (.ref st.length), some (.tup [.int a, .int w])] (st ++ [.lst (told'.map .int), .lst pl, .lst (ms.map Move.enc)]) := fun told' hl' ev => ⟨p + w, _, told', _, rfl, rfl, ev, by split <;> omega, by omega⟩
            by_cases hbw : b * w < 0
            · simp [hbw, isLst, get_a0]
              rw [mAppend_ev get_a0 (by simp; omega)]
              simp [List.set_append]
              have := fin (told ++ [p]) (by simp) (by rw [← e]; simp [turnsP, hxa, hw0, hbw])
              by_cases h0 : 0 < w <;> simp [h0] at this ⊢ <;> exact this
            · simp [hbw]
              have := fin told (by simp) (by rw [← e]; simp [turnsP, hxa, hw0, hbw])
              by_cases h0 : 0 < w <;> simp [h0] at this ⊢ <;> exact this
        · rw [if_neg (by omega)]
          exact ⟨p, b, told, _, rfl, rfl, by rw [← e]; simp [turnsP, hxa], hb1, by omega⟩
  · rintro ρ s ⟨h1, h2, l3, l4, l6, rfl⟩
    simp [bTuple_ref h1]
    exact h2.swept (by simp)
end Ap

namespace Ap
open PySem L2 L3
def RwI (ax : Nat) (c : Code) (x : D) (ns : List Int) (st : Store) (V : List Step) (ys : List (Str × List Step)) (ρ : Envr) (s : Store) : Prop :=
  ∃ (told : List Step) (a k : Nat) (l4 l5 l6 : Option D), ρ = [some c.enc, some x, some (.ref k), some (.int a), l4, l5, l6] ∧ Keep st s ∧ st.length ≤ k ∧ s[k]? = some (.lst (told.map Step.enc)) ∧ Fits ax ys (ns.drop a) ∧ told ++ rowP ys (ns.drop a) = V ∧ told.length + 2400 * ys.length ≤ 24000
theorem law_row_wp {ax : Nat} {c : Code} {ns : List Int} {x : D} {st : Store} {Q : D → Store → Prop} (h : Fits ax c.segs ns) (hl : c.segs.length ≤ 10) (hx : ∀ (i : Nat) r s, ns[i]? = some r → Keep st s → vIx x (.int i) s = .ok (.int r) s)
    (q : ∀ k s, Keep st s → st.length ≤ k → s[k]? = some (.lst ((rowP c.segs ns).map Step.enc)) → Q (.ref k) s) : wp (F_law_row [c.enc, x] st) Q := by
  refine wp_fn ?_
  simp [b_law_row]
  simp [Code.enc, encSegs]
  generalize hV : rowP c.segs ns = V at q
  refine wp_for (enc := encS) (xs := c.segs) (RwI ax c x ns st V) ⟨[], 0, st.length, none, none, none, rfl, Keep.refl.push, Nat.le_refl _, by simp, by simpa using h, by simpa using hV, by simp; omega⟩ ?_ ?_
  · rintro ρ s ⟨told, a, k, l4, l5, l6, rfl, K, hk, e0, hf, e, _⟩
    refine ⟨trivial, ?_⟩
    have : told = V := by rw [← e]; simp [rowP]
    subst this
    simp
    rw [swept_ref hk]
    simp
    exact q k s K hk e0
  · rintro ⟨kd, sg⟩ ys ρ s hy ⟨told, a, k, l4, l5, l6, rfl, K, hk, e0, hf, e, hsz⟩
    simp at hsz
    refine ⟨trivial, _, rfl, ?_⟩
    generalize hd : ns.drop a = rest at hf e
    cases hf with
    | any h1 h2 h3 h4 h5 =>
      rename_i n ns2
      have hn : n.toNat * sg.length ≤ 60 * 40 := Nat.mul_le_mul (by omega) h3
      have ha : ns[a]? = some n := by
        have := congrArg (fun l => l[0]?) hd
        simpa using this
      have hd2 : ns.drop (a + 1) = ns2 := by rw [← List.drop_drop, hd]; rfl
      simp [encSteps, hx a n s ha K]
      rw [vMul_lst (a := sg.map Step.enc) (by simp) (by omega) (by simp; omega)]
      simp
      rw [vAdd_lst (xs := told.map Step.enc) (ys := (List.replicate n.toNat (sg.map Step.enc)).flatten) (get_push e0) (by simp) (by simp; omega)]
      simp
      exact ⟨told ++ (List.replicate n.toNat sg).flatten, a + 1, _, _, _, _, by simp [Code.enc, encSegs]; exact ⟨rfl, rfl, rfl, rfl⟩, K.push, by have := K.len; omega, by simp, by rw [hd2]; exact h5, by rw [hd2]; simpa [rowP] using e, by simp; omega⟩
    | once h1 h2 h3 h4 =>
      simp [encSteps, h1]
      rw [vMul_lst (a := sg.map Step.enc) (by simp) (by omega) (by simp; omega)]
      simp
      rw [vAdd_lst (xs := told.map Step.enc) (ys := sg.map Step.enc) (get_push e0) (by simp) (by simp; omega)]
      simp
      exact ⟨told ++ sg, a, _, _, _, _, by simp [Code.enc, encSegs]; exact ⟨rfl, rfl, rfl, rfl⟩, K.push, by have := K.len; omega, by simp, by rw [hd]; exact h4, by rw [hd]; simpa [rowP, h1] using e, by simp; omega⟩
theorem same_int {n : Nat} {i : Int} {st : Store} : F_law_same (n + 1) [.int i, .int i] st = .ok (.bl true) st := by
  refine (fn_rt (st' := st) (d := .bl true) ?_).trans swept_same
  simp [b_law_same, kit_1, kit_11, kit_6]
theorem same_str {n : Nat} {i : Str} {st : Store} : F_law_same (n + 1) [.str i, .str i] st = .ok (.bl true) st := by
  refine (fn_rt (st' := st) (d := .bl true) ?_).trans swept_same
  simp [b_law_same, kit_13]
def SmI (xs : List D) (st : Store) (i : Nat) (ρ : Envr) (s : Store) : Prop := s = st ∧ ∃ l : Option D, ρ = [some (.tup xs), some (.tup xs), l]
theorem same_tup {n : Nat} {xs : List D} {st : Store} (hl : xs.length ≤ 100000) (h : ∀ x ∈ xs, F_law_same n [x, x] st = .ok (.bl true) st) : F_law_same (n + 1) [.tup xs, .tup xs] st = .ok (.bl true) st := by
  refine fn_eq ?_
  simp [b_law_same, kit_14, kit_4, kit_9, kit_19]
  refine ⟨by omega, ?_⟩
  rw [rangeD_zero]
  refine wp_forR (SmI xs st) ⟨rfl, _, rfl⟩ ?_ ?_
  · rintro ρ s ⟨rfl, l, rfl⟩
    simp
  · rintro i ρ s hi ⟨rfl, l, rfl⟩
    have hm := h xs[i] (by simp)
    refine ⟨_, rfl, ?_⟩
    simp [hi, hm]
    exact ⟨rfl, _, rfl⟩
theorem same_step {n : Nat} {x : Step} {st : Store} : F_law_same (n + 2) [x.enc, x.enc] st = .ok (.bl true) st := by
  cases x <;> exact same_tup (by simp) (fun y hy => by
    simp at hy
    rcases hy with rfl | rfl | rfl <;> first | exact same_int | exact same_str)
theorem same_move {n : Nat} {x : Move} {st : Store} (hl : match x with | .cut _ ps => ps.length ≤ 1000 | .go _ _ => True) : F_law_same (n + 3) [x.enc, x.enc] st = .ok (.bl true) st := by
  cases x with
  | cut f ps =>
    refine same_tup (by simp) fun y hy => ?_
    simp at hy
    rcases hy with rfl | rfl
    · exact same_str
    · refine same_tup (by simp at hl ⊢; omega) fun z hz => ?_
      obtain ⟨i, _, rfl⟩ := List.mem_map.mp hz
      exact same_int
  | go a w =>
    refine same_tup (by simp) fun y hy => ?_
    simp at hy
    rcases hy with rfl | rfl <;> exact same_int
end Ap

namespace Ap
open PySem L2 L3
def refsAt (b n : Nat) : List D := (List.range n).map fun i => D.ref (b + i)
structure WkS (st : Store) (n : Nat) (ps las : List Int) (cuts : List Move) (tn : List (List Int)) (s : Store) : Prop where
  K : Keep st s
  p : s[st.length]? = some (.lst (ps.map .int))
  c : s[st.length + 1]? = some (.lst (cuts.map Move.enc))
  t : ∀ i : Nat, i < n → s[st.length + 2 + i]? = some (.lst ((tn.getD i []).map .int))
  r : s[st.length + 2 + n]? = some (.lst (refsAt (st.length + 2) n))
  z : s[st.length + 3 + n]? = some (.lst (las.map .int))
  pl : ps.length = n
  ll : las.length = n
  tl : tn.length = n
structure WkV (n : Nat) (VC : List Move) (VW : Int) (VT : Nat → List Int) (ys : List Step) (ps las : List Int) (cuts : List Move) (way : Int) (tn : List (List Int)) : Prop where
  c : cuts ++ (movesP ys ps).1.filter isCut = VC
  w : way + ((movesP ys ps).1.map wOf).sum = VW
  t : ∀ i, i < n → tn.getD i [] ++ turnsP i (movesP ys ps).1 (ps.getD i 0) (las.getD i 0) = VT i
  b : ∀ i, -1 ≤ las.getD i 0 ∧ las.getD i 0 ≤ 1
  s1 : cuts.length + ys.length ≤ 24000
  s2 : ∀ i, (tn.getD i []).length + ys.length ≤ 24000
  ax : AxOk n ys
  bd : ∀ y ∈ ys, SBd y
  pb : ∀ x ∈ ps, -(10 ^ 10 * (24000 - ys.length)) ≤ x ∧ x ≤ 10 ^ 10 * (24000 - ys.length)
theorem turns_other {a x : Nat} {w : Int} {r : List Move} {p b : Int} (h : x ≠ a) : turnsP a (.go x w :: r) p b = turnsP a r p b := by simp [turnsP, h]
theorem turns_zero {a x : Nat} {r : List Move} {p b : Int} : turnsP a (.go x 0 :: r) p b = turnsP a r p b := by simp [turnsP]
theorem turns_go {a : Nat} {w : Int} {r : List Move} {p b : Int} (h : w ≠ 0) : turnsP a (.go a w :: r) p b = (if b * w < 0 then [p] else []) ++ turnsP a r (p + w) (if 0 < w then 1 else -1) := by simp [turnsP, h]
theorem getD_set {α : Type} {xs : List α} {a i : Nat} {y d : α} (ha : a < xs.length) : (xs.set a y).getD i d = if i = a then y else xs.getD i d := by
  rw [List.getD_eq_getElem?_getD, List.getD_eq_getElem?_getD]
  by_cases h : i = a
  · subst h; rw [if_pos rfl, List.getElem?_set_self ha]; rfl
  · rw [if_neg h, List.getElem?_set_ne (Ne.symm h)]
/-- one move of the walk, in plain terms -/
theorem WkV.cut {n : Nat} {VC VW VT f ys ps las cuts way tn} (h : WkV n VC VW VT (.cut f :: ys) ps las cuts way tn) : WkV n VC VW VT ys ps las (cuts ++ [.cut f ps]) way tn := by
  obtain ⟨h1, h2, h3, h4, h5, h6, h7, h8, h9⟩ := h
  simp only [List.length_cons] at h5 h6 h9
  refine ⟨by rw [← h1]; simp only [movesP]; rw [List.filter_cons_of_pos (by rfl), List.append_assoc]; rfl, by rw [← h2]; simp [movesP, wOf], fun i hi => by rw [← h3 i hi]; simp [movesP, turnsP], h4, by simp; omega, fun i => by have := h6 i; omega, fun a p hp => h7 a p (hp.imp (List.mem_cons_of_mem _) (List.mem_cons_of_mem _)), fun y hy => h8 y (by simp [hy]), fun x hx => by have := h9 x hx; push_cast at this; omega⟩
theorem WkV.go {n : Nat} {VC VW VT x ys ps las cuts way tn a w} (h : WkV n VC VW VT (x :: ys) ps las cuts way tn) (hm : movesP (x :: ys) ps = (.go a w :: (movesP ys (ps.set a (ps.getD a 0 + w))).1, (movesP ys (ps.set a (ps.getD a 0 + w))).2)) (ha : a < n) (hpl : ps.length = n) (hll : las.length = n) (htl : tn.length = n)
    (hB : -(10 ^ 10 * (24000 - (ys.length : Int))) ≤ ps.getD a 0 + w ∧ ps.getD a 0 + w ≤ 10 ^ 10 * (24000 - (ys.length : Int))) (way' : Int) (hway : way' = way + w.natAbs) :
    WkV n VC VW VT ys (ps.set a (ps.getD a 0 + w)) (if w = 0 then las else las.set a (if 0 < w then 1 else -1)) cuts way' (if w ≠ 0 ∧ las.getD a 0 * w < 0 then tn.set a (tn.getD a [] ++ [ps.getD a 0]) else tn) := by
  obtain ⟨h1, h2, h3, h4, h5, h6, h7, h8, h9⟩ := h
  simp only [List.length_cons] at h5 h6 h9
  rw [hm] at h1 h2 h3
  refine ⟨by rw [← h1]; simp [isCut], by rw [← h2, hway]; simp [wOf]; omega, fun i hi => ?_, fun i => ?_, by omega, fun i => ?_, fun a p hp => h7 a p (hp.imp (List.mem_cons_of_mem _) (List.mem_cons_of_mem _)), fun y hy => h8 y (by simp [hy]), fun x hx => ?_⟩
  · rw [← h3 i hi]
    by_cases hia : i = a
    · subst hia
      rw [getD_set (by omega), if_pos rfl]
      by_cases hw : w = 0
      · subst hw; rw [turns_zero]; simp
      · rw [turns_go hw, if_neg hw, getD_set (by omega), if_pos rfl]
        by_cases hb : las.getD i 0 * w < 0
        · rw [if_pos ⟨hw, hb⟩, if_pos hb, getD_set (by omega), if_pos rfl, List.append_assoc]
        · rw [if_neg (fun q => hb q.2), if_neg hb]; rfl
    · rw [turns_other (Ne.symm hia), getD_set (by omega), if_neg hia]
      congr 1
      · split
        · rw [getD_set (by omega), if_neg hia]
        · rfl
      · congr 1
        split
        · rfl
        · rw [getD_set (by omega), if_neg hia]
  · split
    · exact h4 i
    · rw [getD_set (by omega)]
      split
      · split <;> omega
      · exact h4 i
  · have := h6 i
    split
    · rw [getD_set (by omega)]
      split
      · rename_i q; subst q; rw [List.length_append, List.length_singleton]; omega
      · omega
    · omega
  · rcases List.mem_or_eq_of_mem_set hx with hx | hx
    · have := h9 x hx; push_cast at this; omega
    · rw [hx]; exact hB
end Ap

namespace Ap
open PySem L2 L3
section
variable {st s : Store} {n : Nat} {ps las : List Int} {cuts : List Move} {tn : List (List Int)}
theorem WkS.setP (h : WkS st n ps las cuts tn s) {ps' : List Int} (hl : ps'.length = n) : WkS st n ps' las cuts tn (s.set st.length (.lst (ps'.map .int))) :=
  ⟨h.K.set (Nat.le_refl _), List.getElem?_set_self (lt_of_get h.p), by rw [List.getElem?_set_ne (by omega)]; exact h.c, fun i hi => by rw [List.getElem?_set_ne (by omega)]; exact h.t i hi, by rw [List.getElem?_set_ne (by omega)]; exact h.r, by rw [List.getElem?_set_ne (by omega)]; exact h.z, hl, h.ll, h.tl⟩
theorem WkS.setC (h : WkS st n ps las cuts tn s) {cuts' : List Move} : WkS st n ps las cuts' tn (s.set (st.length + 1) (.lst (cuts'.map Move.enc))) :=
  ⟨h.K.set (by omega), by rw [List.getElem?_set_ne (by omega)]; exact h.p, List.getElem?_set_self (lt_of_get h.c), fun i hi => by rw [List.getElem?_set_ne (by omega)]; exact h.t i hi, by rw [List.getElem?_set_ne (by omega)]; exact h.r, by rw [List.getElem?_set_ne (by omega)]; exact h.z, h.pl, h.ll, h.tl⟩
theorem WkS.setZ (h : WkS st n ps las cuts tn s) {las' : List Int} (hl : las'.length = n) : WkS st n ps las' cuts tn (s.set (st.length + 3 + n) (.lst (las'.map .int))) :=
  ⟨h.K.set (by omega), by rw [List.getElem?_set_ne (by omega)]; exact h.p, by rw [List.getElem?_set_ne (by omega)]; exact h.c, fun i hi => by rw [List.getElem?_set_ne (by omega)]; exact h.t i hi, by rw [List.getElem?_set_ne (by omega)]; exact h.r, List.getElem?_set_self (lt_of_get h.z), h.pl, hl, h.tl⟩
theorem WkS.setT (h : WkS st n ps las cuts tn s) {a : Nat} (ha : a < n) {l : List Int} : WkS st n ps las cuts (tn.set a l) (s.set (st.length + 2 + a) (.lst (l.map .int))) :=
  ⟨h.K.set (by omega), by rw [List.getElem?_set_ne (by omega)]; exact h.p, by rw [List.getElem?_set_ne (by omega)]; exact h.c, fun i hi => by
    rw [getD_set (by rw [h.tl]; exact ha)]
    by_cases e : i = a
    · subst e; rw [if_pos rfl]; exact List.getElem?_set_self (lt_of_get (h.t i hi))
    · rw [if_neg e, List.getElem?_set_ne (by omega)]; exact h.t i hi, by rw [List.getElem?_set_ne (by omega)]; exact h.r, by rw [List.getElem?_set_ne (by omega)]; exact h.z, h.pl, h.ll, by simpa using h.tl⟩
theorem vIx_ints {k a : Nat} {xs : List Int} (h : s[k]? = some (.lst (xs.map .int))) (ha : a < xs.length) : vIx (.ref k) (.int a) s = .ok (.int (xs.getD a 0)) s := by
  simp [h, ha]
theorem WkS.ixP (h : WkS st n ps las cuts tn s) {a : Nat} (ha : a < n) : vIx (.ref st.length) (.int a) s = .ok (.int (ps.getD a 0)) s := vIx_ints h.p (by rw [h.pl]; exact ha)
theorem WkS.ixZ (h : WkS st n ps las cuts tn s) {a : Nat} (ha : a < n) : vIx (.ref (st.length + 3 + n)) (.int a) s = .ok (.int (las.getD a 0)) s := vIx_ints h.z (by rw [h.ll]; exact ha)
theorem WkS.ixT (h : WkS st n ps las cuts tn s) {a : Nat} (ha : a < n) : vIx (.ref (st.length + 2 + n)) (.int a) s = .ok (.ref (st.length + 2 + a)) s := by
  have : (refsAt (st.length + 2) n)[a]? = some (.ref (st.length + 2 + a)) := by simp [refsAt, ha]
  simp [h.r, this]
end
def WkI (c : Code) (st : Store) (r : D) (n : Nat) (VC : List Move) (VW : Int) (VT : Nat → List Int) (ys : List Step) (ρ : Envr) (s : Store) : Prop :=
  ∃ (ps las : List Int) (cuts : List Move) (way : Int) (tn : List (List Int)) (l7 l8 l9 l10 l11 : Option D),
    ρ = [some c.enc, some r, some (.ref st.length), some (.ref (st.length + 1)), some (.int way), some (.ref (st.length + 2 + n)), some (.ref (st.length + 3 + n)), l7, l8, l9, l10, l11] ∧ WkS st n ps las cuts tn s ∧ WkV n VC VW VT ys ps las cuts way tn
noncomputable def tailB : SS := (xSeq (xAsg (.nm 10) (s2 vSub (sVar 9) (s2 vIx (sVar 2) (sVar 8))))
    (xSeq (xIf (sBool (s2 vNe (sVar 10) (sC (.int 0)))) (xSeq (xAsg (.nm 11) (s2 vSub (sC (.int 1)) (s2 vMul (sC (.int 2)) (sCB bInt (sCons (s2 vLt (sVar 10) (sC (.int 0))) sNil)))))
    (xSeq (xIf (sBool (s2 vEq (s2 vIx (sVar 6) (sVar 8)) (s2 vSub (sC (.int 0)) (sVar 11)))) (xExpr (sML mAppend (s2 vIx (sVar 5) (sVar 8)) (sCons (s2 vIx (sVar 2) (sVar 8)) sNil))) xNil)
    (xSetL (sVar 11) (sVar 6) (sVar 8)))) xNil)
    (xSeq (xAsg (.nm 4) (s2 vAdd (sVar 4) (sCB bMax (sCons (sVar 10) (sCons (s2 vSub (sC (.int 0)) (sVar 10)) sNil)))))
    (xSetL (sVar 9) (sVar 2) (sVar 8)))))
noncomputable def bodyW : SS := (xSeq (xIf (sBool (s2 vEq (s2 vIx (sVar 7) (sC (.int 0))) (sC (.str "cut")))) (xSeq (xExpr (sML mAppend (sVar 3) (sCons (sTup (sCons (s2 vIx (sVar 7) (sC (.int 1))) (sCons (sCB bTuple (sCons (sVar 2) sNil)) sNil))) sNil)))
    xCont) xNil)
    (xSeq (xAsg (.nm 8) (s2 vIx (sVar 7) (sC (.int 1))))
    (xSeq (xAsg (.nm 9) (s2 vIx (sVar 7) (sC (.int 2))))
    (xSeq (xIf (sBool (s2 vEq (s2 vIx (sVar 7) (sC (.int 0))) (sC (.str "by")))) (xAsg (.nm 9) (s2 vAdd (s2 vIx (sVar 2) (sVar 8)) (s2 vIx (sVar 7) (sC (.int 2))))) xNil)
    tailB))))
/-- the tail of a turn, behind axis, goal and moved -/
theorem tailW {c : Code} {st s : Store} {r x : D} {n a : Nat} {VC VW VT ys ps las cuts way tn} {w : Int} {l9 l11 : Option D} {y : Step} (hS : WkS st n ps las cuts tn s) (hV : WkV n VC VW VT (y :: ys) ps las cuts way tn) (ha : a < n)
    (hm : movesP (y :: ys) ps = (.go a w :: (movesP ys (ps.set a (ps.getD a 0 + w))).1, (movesP ys (ps.set a (ps.getD a 0 + w))).2))
    (hB : -(10 ^ 10 * (24000 - (ys.length : Int))) ≤ ps.getD a 0 + w ∧ ps.getD a 0 + w ≤ 10 ^ 10 * (24000 - (ys.length : Int))) {N C B : Envr → Store → Prop} {R : D → Store → Prop} (hN : N = WkI c st r n VC VW VT ys) :
    wps (tailB
      [some c.enc, some r, some (.ref st.length), some (.ref (st.length + 1)), some (.int way), some (.ref (st.length + 2 + n)), some (.ref (st.length + 3 + n)), some x, some (.int a), some (.int (ps.getD a 0 + w)), l9, l11] s) N C B R := by
  subst hN
  unfold tailB
  have V' := fun way' hw => hV.go hm ha hS.pl hS.ll hS.tl hB way' hw
  have hb := hV.b a
  have hmax : max w (-w) = (w.natAbs : Int) := by omega
  have eP := hS.ixP ha
  have eZ := hS.ixZ ha
  have eT := hS.ixT ha
  have hp := hS.p
  have hpl : ixN ps.length (a : Int) = some a := ixN_nat (by rw [hS.pl]; exact ha)
  have hll : ixN las.length (a : Int) = some a := ixN_nat (by rw [hS.ll]; exact ha)
  have hst := hV.s2 a
  have htg := hS.t a ha
  generalize hq : ps.getD a 0 = q at *
  generalize hl : las.getD a 0 = l at *
  have ew : q + w - q = w := by omega
  by_cases hw : w = 0
  · subst hw
    have V0 := V' way (by simp)
    simp only [Int.add_zero, if_true, ne_eq, not_true, false_and, if_false] at V0
    simp [-vIx_ref, eP, ew, hp, hpl]
    exact ⟨ps.set a q, las, cuts, way, tn, _, _, _, _, _, rfl, by rw [← List.map_set]; exact hS.setP (by simpa using hS.pl), V0⟩
  · have V1 := V' (way + w.natAbs) rfl
    have m1 := mul_ok (a := 2) (b := 1) (by decide) (by decide)
    have m0 := mul_ok (a := 2) (b := 0) (by decide) (by decide)
    have hz := hS.z
    obtain ⟨T, hT⟩ : ∃ T, T = tn.getD a [] ++ [q] := ⟨_, rfl⟩
    have mA : mAppend (st.length + 2 + a) [.int q] s = .ok .non (s.set (st.length + 2 + a) (.lst (T.map .int))) := by
      rw [hT]
      rw [mAppend_ev htg (by simp only [List.length_map]; simp only [List.length_cons] at hst; omega)]
      simp
    have iL := isLst_of htg
    have go : ∀ (sg : Int) (tn' : List (List Int)) (s1 : Store), WkS st n ps las cuts tn' s1 → sg = (if 0 < w then 1 else -1) → (tn' = if w ≠ 0 ∧ l * w < 0 then tn.set a T else tn) → ∀ l9 l10 l11 : Option D,
        WkI c st r n VC VW VT ys [some c.enc, some r, some (.ref st.length), some (.ref (st.length + 1)), some (.int (way + w.natAbs)), some (.ref (st.length + 2 + n)), some (.ref (st.length + 3 + n)), some x, some (.int a), l9, l10, l11] ((s1.set (st.length + 3 + n) (.lst ((las.map .int).set a (.int sg)))).set st.length (.lst ((ps.map .int).set a (.int (q + w))))) := by
      intro sg tn' s1 S1 hsg htn l9 l10 l11
      refine ⟨ps.set a (q + w), las.set a sg, cuts, _, tn', _, _, _, _, _, rfl, ?_, ?_⟩
      · rw [← List.map_set, ← List.map_set]
        exact (S1.setZ (by simpa using hS.ll)).setP (by simpa using hS.pl)
      · rw [if_neg hw, ← hsg, ← hT, ← htn] at V1
        exact V1
    have z1 := (hS.setT ha (l := T)).z
    have p1 : ∀ (s1 : Store) (tn' : List (List Int)) (sg : Int), WkS st n ps las cuts tn' s1 → (s1.set (st.length + 3 + n) (.lst ((las.map .int).set a (.int sg))))[st.length]? = some (.lst (ps.map .int)) := fun s1 tn' sg S1 => by
      rw [← List.map_set]
      exact (S1.setZ (las' := las.set a sg) (by simpa using hS.ll)).p
    have p2 := fun sg => p1 _ _ sg (hS.setT ha (l := T))
    have p3 := fun sg => p1 _ _ sg hS
    rcases Int.lt_or_gt_of_ne hw with hneg | hpos
    · have ne : ¬ 0 < w := by omega
      by_cases hlb : l = 1
      · have hlw : w ≠ 0 ∧ l * w < 0 := ⟨hw, by rw [hlb]; omega⟩
        have G := go (-1) _ _ (hS.setT ha (l := T)) (by rw [if_neg ne]) (by rw [if_pos hlw])
        simp [-vIx_ref, eP, eZ, eT, ew, hw, hneg, hlb, m1, iL, mA, z1, hll, p2, hpl, hmax]
        exact G _ _ _
      · have hlw : ¬ (w ≠ 0 ∧ l * w < 0) := fun q => by
          rcases (show l = -1 ∨ l = 0 by omega) with e | e <;> rw [e] at q <;> omega
        have G := go (-1) _ _ hS (by rw [if_neg ne]) (by rw [if_neg hlw])
        simp [-vIx_ref, eP, eZ, eT, ew, hw, hneg, hlb, m1, hz, hll, p3, hpl, hmax]
        exact G _ _ _
    · have nn : ¬ w < 0 := by omega
      by_cases hlb : l = -1
      · have hlw : w ≠ 0 ∧ l * w < 0 := ⟨hw, by rw [hlb]; omega⟩
        have G := go 1 _ _ (hS.setT ha (l := T)) (by rw [if_pos hpos]) (by rw [if_pos hlw])
        simp [-vIx_ref, eP, eZ, eT, ew, hw, nn, hlb, m0, iL, mA, z1, hll, p2, hpl, hmax]
        exact G _ _ _
      · have hlw : ¬ (w ≠ 0 ∧ l * w < 0) := fun q => by
          rcases (show l = 1 ∨ l = 0 by omega) with e | e <;> rw [e] at q <;> omega
        have G := go 1 _ _ hS (by rw [if_pos hpos]) (by rw [if_neg hlw])
        simp [-vIx_ref, eP, eZ, eT, ew, hw, nn, hlb, m0, hz, hll, p3, hpl, hmax]
        exact G _ _ _
end Ap

namespace Ap
open PySem L2 L3
theorem loopW {c : Code} {st : Store} {r : Nat} {n : Nat} {VC VW VT} {row : List Step} {ρ : Envr} {s : Store} {N C B : Envr → Store → Prop} {R : D → Store → Prop} (hr : st[r]? = some (.lst (row.map Step.enc))) (h0 : WkI c st (.ref r) n VC VW VT row ρ s)
    (q : ∀ ρ s, WkI c st (.ref r) n VC VW VT [] ρ s → N ρ s) : wps (forL (.lst r (row.map Step.enc)) (.nm 7) bodyW (row.map Step.enc) ρ s) N C B R := by
  refine wp_for (enc := Step.enc) (xs := row) (WkI c st (.ref r) n VC VW VT) h0 ?_ ?_
  · rintro ρ s ⟨ps, las, cuts, way, tn, l7, l8, l9, l10, l11, rfl, hS, hV⟩
    exact ⟨by simpa using hS.K.get hr, q _ _ ⟨ps, las, cuts, way, tn, l7, l8, l9, l10, l11, rfl, hS, hV⟩⟩
  · rintro y ys ρ s hy ⟨ps, las, cuts, way, tn, l7, l8, l9, l10, l11, rfl, hS, hV⟩
    refine ⟨by simpa using hS.K.get hr, _, rfl, ?_⟩
    have hs1 := hV.s1
    simp only [List.length_cons] at hs1
    cases y with
    | cut f =>
      simp [bodyW, Step.enc, isLst_of hS.c, bTuple_ref hS.p]
      rw [mAppend_ev hS.c (by simp; omega)]
      simp
      refine ⟨ps, las, cuts ++ [.cut f ps], way, tn, _, _, _, _, _, rfl, ?_, hV.cut⟩
      have := hS.setC (cuts' := cuts ++ [.cut f ps])
      simpa [Move.enc] using this
    | to a p =>
      have ha : a < n := hV.ax a p (by simp)
      have hb := hV.bd _ (List.mem_cons_self)
      simp only [SBd] at hb
      have hpb := getD_bd hV.pb (by simp only [List.length_cons]; omega) a
      simp only [List.length_cons] at hpb
      have eg : ps.getD a 0 + (p - ps.getD a 0) = p := by omega
      have T := tailW (x := (Step.to a p).enc) (l9 := l10) (l11 := l11) (y := .to a p) (w := p - ps.getD a 0) hS hV ha (by simp [movesP, wayP]) (by rw [eg]; push_cast at hpb; omega) (r := .ref r) (N := WkI c st (.ref r) n VC VW VT ys) (C := WkI c st (.ref r) n VC VW VT ys) (B := N) (R := R) rfl
      rw [eg] at T
      simp [bodyW, Step.enc, ne5, ne3]
      simpa [Step.enc] using T
    | «by» a w =>
      have ha : a < n := hV.ax a w (by simp)
      have hb := hV.bd _ (List.mem_cons_self)
      simp only [SBd] at hb
      have hpb := getD_bd hV.pb (by simp only [List.length_cons]; omega) a
      simp only [List.length_cons] at hpb
      have T := tailW (x := (Step.by a w).enc) (l9 := l10) (l11 := l11) (y := .by a w) (w := w) hS hV ha (by simp [movesP]) (by push_cast at hpb; omega) (r := .ref r) (N := WkI c st (.ref r) n VC VW VT ys) (C := WkI c st (.ref r) n VC VW VT ys) (B := N) (R := R) rfl
      have eP := hS.ixP ha
      simp [bodyW, Step.enc, ne6, -vIx_ref, eP]
      simpa [Step.enc] using T
end Ap

namespace Ap
open PySem L2 L3
def NlI (s0 : Store) (n : Nat) (ys : List (Str × Int)) (acc : List D) (s : Store) : Prop := ∃ i : Nat, i + ys.length = n ∧ acc = (List.range i).map (fun j => D.ref (s0.length + j)) ∧ s = s0 ++ List.replicate i (.lst [])
theorem refs_succ {b i : Nat} : (List.range (i + 1)).map (fun j => D.ref (b + j)) = (List.range i).map (fun j => D.ref (b + j)) ++ [.ref (b + i)] := by simp [List.range_succ]
/-- [[] for axis in ..] -/
theorem nest_wp {e : SE} {t : Tgt} {vs : List Nat} {ρ : Envr} {s0 : Store} {bs : List (Str × Int)} {Q : D → Store → Prop} (he : e ρ s0 = .ok (.tup (bs.map encB)) s0) (ht : ∀ d, ∃ ρ1, t.ev d (wipeE ρ vs) = some ρ1) (hb : bs.length ≤ 1000)
    (q : Q (.ref (s0.length + bs.length)) (s0 ++ List.replicate bs.length (.lst []) ++ [.lst (refsAt s0.length bs.length)])) : wp (sLc (iSeq e) t sYes (sLst sNil) vs ρ s0) Q := by
  simp [he]
  refine wp_lc (enc := encB) (xs := bs) (NlI s0 bs.length) ⟨0, by simp, by simp, by simp⟩ ?_ ?_
  · rintro acc s ⟨i, hi, rfl, rfl⟩
    simp at hi
    subst hi
    refine ⟨trivial, ?_⟩
    simpa [refsAt] using q
  · rintro x ys acc s hx ⟨i, hi, rfl, rfl⟩
    simp at hi
    obtain ⟨ρ1, h1⟩ := ht (encB x)
    refine ⟨trivial, ρ1, h1, ?_⟩
    simp
    refine ⟨by have := sizeLine_eq; omega, i + 1, by omega, by rw [refs_succ], by simp [List.replicate_succ']⟩
theorem walk0_at {st : Store} {n : Nat} {zs : List Int} (hz : zs.length = n) :
    WkS st n zs zs [] (List.replicate n []) (st ++ .lst (zs.map .int) :: .lst [] :: (List.replicate n (.lst []) ++ [.lst (refsAt (st.length + 2) n), .lst (zs.map .int)])) := by
  have at_ : ∀ j, (st ++ .lst (zs.map .int) :: .lst [] :: (List.replicate n (.lst []) ++ [.lst (refsAt (st.length + 2) n), .lst (zs.map .int)]))[st.length + j]? = (SO.lst (zs.map .int) :: .lst [] :: (List.replicate n (.lst []) ++ [.lst (refsAt (st.length + 2) n), .lst (zs.map .int)]))[j]? := fun j => by
    rw [List.getElem?_append_right (by omega)]; congr 1; omega
  refine ⟨Keep.refl.push, at_ 0, at_ 1, fun i hi => ?_, ?_, ?_, hz, hz, by simp⟩
  · rw [show st.length + 2 + i = st.length + (i + 2) by omega, at_, List.getElem?_cons_succ, List.getElem?_cons_succ, List.getElem?_append_left (by simpa using hi)]
    simp [hi]
  · rw [show st.length + 2 + n = st.length + (n + 2) by omega, at_, List.getElem?_cons_succ, List.getElem?_cons_succ, List.getElem?_append_right (by simp)]
    simp
  · rw [show st.length + 3 + n = st.length + (n + 3) by omega, at_, List.getElem?_cons_succ, List.getElem?_cons_succ, List.getElem?_append_right (by simp)]
    simp
theorem walk_wp {c : Code} {st : Store} {r : Nat} {row : List Step} {Q : D → Store → Prop} (hr : st[r]? = some (.lst (row.map Step.enc))) (hb : c.bounds.length ≤ 10) (hax : AxOk c.bounds.length row) (hbd : ∀ y ∈ row, SBd y) (hl : row.length ≤ 24000)
    (q : ∀ k t b s, Keep st s → s[k]? = some (.lst [.tup (((movesP row (zeros c.bounds.length)).1.filter isCut).map Move.enc), .int ((movesP row (zeros c.bounds.length)).1.map wOf).sum, .ref t]) → s[t]? = some (.lst (refsAt b c.bounds.length)) →
      (∀ i, i < c.bounds.length → s[b + i]? = some (.lst ((turnsP i (movesP row (zeros c.bounds.length)).1 0 0).map .int))) → Q (.ref k) s) : wp (F_law_walk [c.enc, .ref r] st) Q := by
  refine wp_fn ?_
  have e0 : ∀ ρ : Envr, ρ[0]? = some (some c.enc) → ∀ s, (s2 vIx (sVar 0) (sC (.int 0))) ρ s = .ok (.tup (c.bounds.map encB)) s := fun ρ h s => by simp [h, Code.enc]
  have zz : (c.bounds.map fun _ => D.int 0) = (zeros c.bounds.length).map .int := by simp [zeros, List.map_const']
  simp [b_law_walk, -sLc_ev]
  rw [sLc_itsA encB (fun _ => .int 0) c.bounds (by simp [Code.enc]) (by have := sizeLine_eq; omega) (fun x _ => ⟨_, rfl, rfl⟩)]
  simp [-sLc_ev]
  refine nest_wp (bs := c.bounds) (e0 _ (by simp) _) (fun d => ⟨_, rfl⟩) (by omega) ?_
  simp [-sLc_ev]
  rw [sLc_itsA encB (fun _ => .int 0) c.bounds (by simp [Code.enc]) (by have := sizeLine_eq; omega) (fun x _ => ⟨_, rfl, rfl⟩)]
  rw [zz]
  have hS := walk0_at (st := st) (n := c.bounds.length) (zs := zeros c.bounds.length) (by simp [zeros])
  have eS : st ++ SO.lst ((zeros c.bounds.length).map .int) :: .lst [] :: (List.replicate c.bounds.length (.lst []) ++ [.lst (refsAt (st.length + 2) c.bounds.length)]) ++ [.lst ((zeros c.bounds.length).map .int)] = st ++ .lst ((zeros c.bounds.length).map .int) :: .lst [] :: (List.replicate c.bounds.length (.lst []) ++ [.lst (refsAt (st.length + 2) c.bounds.length), .lst ((zeros c.bounds.length).map .int)]) := by simp
  have eL : (st ++ SO.lst ((zeros c.bounds.length).map .int) :: .lst [] :: (List.replicate c.bounds.length (.lst []) ++ [.lst (refsAt (st.length + 2) c.bounds.length)])).length = st.length + 3 + c.bounds.length := by simp; omega
  rw [eL, eS, wp_ok]
  generalize (st ++ .lst ((zeros c.bounds.length).map .int) :: .lst [] :: (List.replicate c.bounds.length (.lst []) ++ [.lst (refsAt (st.length + 2) c.bounds.length), .lst ((zeros c.bounds.length).map .int)]) : Store) = W at hS
  rw [srcOf_of (hS.K.get hr)]
  simp only [wp_ok, src_lst_all]
  have V0 : WkV c.bounds.length ((movesP row (zeros c.bounds.length)).1.filter isCut) ((movesP row (zeros c.bounds.length)).1.map wOf).sum (fun i => turnsP i (movesP row (zeros c.bounds.length)).1 0 0) row (zeros c.bounds.length) (zeros c.bounds.length) [] 0 (List.replicate c.bounds.length []) := by
    have z0 : ∀ i, (zeros c.bounds.length).getD i 0 = 0 := fun i => by
      rw [List.getD_eq_getElem?_getD]
      simp only [zeros, List.getElem?_replicate]
      split <;> rfl
    have t0 : ∀ i, (List.replicate c.bounds.length ([] : List Int)).getD i [] = [] := fun i => by
      rw [List.getD_eq_getElem?_getD, List.getElem?_replicate]
      split <;> rfl
    refine ⟨rfl, by simp, fun i hi => by rw [z0, t0]; rfl, fun i => by rw [z0]; omega, by simpa using hl, fun i => by rw [t0]; simpa using hl, hax, hbd, fun x hx => ?_⟩
    have : x = 0 := (List.mem_replicate.mp hx).2
    omega
  refine loopW (n := c.bounds.length) hr ⟨_, _, _, _, _, _, _, _, _, _, rfl, hS, V0⟩ ?_
  rintro ρ s ⟨ps, las, cuts, way, tn, l7, l8, l9, l10, l11, rfl, hS, hV⟩
  have e1 := hV.c
  have e2 := hV.w
  have e3 := hV.t
  simp [movesP] at e1 e2
  subst e1 e2
  have hk := hS.K.len
  simp [bTuple_ref hS.c]
  rw [swept_ref hk]
  simp
  refine q _ (st.length + 2 + c.bounds.length) (st.length + 2) _ hS.K.push (by simp) (get_push hS.r) fun i hi => ?_
  have := e3 i hi
  simp only [movesP, turnsP, List.append_nil] at this
  rw [← this]
  exact get_push (hS.t i hi)
end Ap

namespace Ap
open PySem L2 L3
theorem cut_len : ∀ (ys : List Step) (ps : List Int) (m : Move), m ∈ (movesP ys ps).1 → (match m with | .cut _ qs => qs.length = ps.length | .go _ _ => True)
  | [], _, m, h => by simp [movesP] at h
  | .cut f :: r, ps, m, h => by
    simp only [movesP, List.mem_cons] at h
    rcases h with rfl | h
    · rfl
    · exact cut_len r ps m h
  | .to a p :: r, ps, m, h => by
    simp only [movesP, List.mem_cons] at h
    rcases h with rfl | h
    · trivial
    · have := cut_len r _ m h; simpa using this
  | .by a w :: r, ps, m, h => by
    simp only [movesP, List.mem_cons] at h
    rcases h with rfl | h
    · trivial
    · have := cut_len r _ m h; simpa using this
theorem turns_len (a : Nat) : ∀ (ms : List Move) (p b : Int), (turnsP a ms p b).length ≤ ms.length
  | [], _, _ => by simp [turnsP]
  | .cut _ _ :: r, p, b => by have := turns_len a r p b; simp only [turnsP, List.length_cons]; omega
  | .go x w :: r, p, b => by
    simp only [turnsP, List.length_cons]
    split
    · have := turns_len a r (p + w) (if 0 < w then 1 else -1)
      rw [List.length_append]
      split <;> simp <;> omega
    · have := turns_len a r p b; omega
structure CodeOK (c : Code) (ns : List Int) : Prop where
  fits : Fits c.bounds.length c.segs ns
  segs : c.segs.length ≤ 10
  bounds : c.bounds.length ≤ 10
  bd : ∀ y ∈ rowP c.segs ns, SBd y
def HeI (c : Code) (ns : List Int) (st : Store) (k1 k2 : Nat) (s0 : Store) (i : Nat) (ρ : Envr) (s : Store) : Prop := Keep s0 s ∧ ∃ l4 : Option D, ρ = [some c.enc, some (.tup (ns.map .int)), some (.ref k1), some (.ref k2), l4]
theorem held_ev {c : Code} {ns : List Int} {st : Store} (hc : CodeOK c ns) : F_law_held [c.enc, .tup (ns.map .int)] st = .ok (.bl true) st := by
  obtain ⟨hf, hl, hb, hbd⟩ := hc
  have hlen := rowP_len hf
  have hml := movesC_len hf hl
  have zl : (zeros c.bounds.length).length = c.bounds.length := by simp [zeros]
  have hm : ∀ m ∈ movesC c ns, MBd m := moves_bd _ _ 0 hbd (fun x hx => by have : x = 0 := (List.mem_replicate.mp hx).2; omega) (by omega) (by omega)
  refine fn_eq ?_
  simp [b_law_held]
  refine law_row_wp hf hl (fun i r s h _ => by simp [h]) fun k1 s1 K1 hk1 e1 => ?_
  refine walk_wp e1 hb (fits_ax hf) hbd (by omega) fun k2 t b s2 K2 e2 e3 e4 => ?_
  have r1 : F_law_same 20 [encSteps (rowP c.segs ns), .tup ((rowP c.segs ns).map Step.enc)] s2 = .ok (.bl true) s2 := same_tup (by simp; omega) fun x hx => by
    obtain ⟨y, _, rfl⟩ := List.mem_map.mp hx
    exact same_step
  have r2 : F_law_same 20 [.tup (((movesC c ns).filter isCut).map Move.enc), .tup (((movesC c ns).filter isCut).map Move.enc)] s2 = .ok (.bl true) s2 := same_tup (by
      have := List.length_filter_le isCut (movesC c ns)
      simp only [List.length_map]; omega) fun x hx => by
    obtain ⟨y, hy, rfl⟩ := List.mem_map.mp hx
    have := cut_len _ _ y (List.mem_filter.mp hy).1
    refine same_move ?_
    cases y with
    | cut f ps => simp only at this ⊢; omega
    | go a w => trivial
  simp only [movesC] at r2 hml hm
  simp [row_of_ev hf hl, bTuple_ref (K2.get e1), r1, cuts_at_ev hf hl hb, way_of_ev hf hl hb, movesC, e2]
  rw [r2]
  simp [same_int, e2]
  have eb : ∀ s : Store, vIx c.enc (.int 0) s = .ok (.tup (c.bounds.map encB)) s := fun s => by simp [Code.enc]
  simp [eb]
  refine ⟨by omega, ?_⟩
  rw [rangeD_zero]
  refine wp_forR (HeI c ns st k1 k2 s2) ⟨.refl, _, rfl⟩ ?_ ?_
  · rintro ρ s ⟨K3, l4, rfl⟩
    simp
    exact ((K1.trans K2).trans K3).swept rfl
  · rintro i ρ s hi ⟨K3, l4, rfl⟩
    refine ⟨_, rfl, ?_⟩
    have tl := turns_len i (movesC c ns) 0 0
    simp only [movesC] at tl
    have rr : (refsAt b c.bounds.length)[i]? = some (.ref (b + i)) := by simp [refsAt, hi]
    have r3 : F_law_same 20 [.tup ((turnsP i (movesP (rowP c.segs ns) (zeros c.bounds.length)).1 0 0).map .int), .tup ((turnsP i (movesP (rowP c.segs ns) (zeros c.bounds.length)).1 0 0).map .int)] s = .ok (.bl true) s := same_tup (by simp only [List.length_map]; omega) fun x hx => by
      obtain ⟨y, _, rfl⟩ := List.mem_map.mp hx
      exact same_int
    simp [turns_at_ev hf hl hb hm, movesC, K3.get e2, K3.get e3, rr, bTuple_ref (K3.get (e4 i hi)), r3]
    exact ⟨K3, _, rfl⟩
end Ap

namespace Ap
open PySem L2 L3
theorem Rig.same {n m : Nat} {k : Int} {a b : Store} (A : Rig n m k a) (h1 : b[n]? = a[n]?) (h2 : b[m]? = a[m]?) : Rig n m k b := by
  obtain ⟨rs, x, y, e1, e2, r⟩ := A
  exact ⟨rs, x, y, by rw [h1, e1], by rw [h2, e2], r⟩
theorem Rig.push {n m : Nat} {k : Int} {a more : Store} (A : Rig n m k a) : Rig n m k (a ++ more) := by
  obtain ⟨rs, x, y, e1, e2, r⟩ := A
  exact ⟨rs, x, y, get_push e1, get_push e2, r⟩
theorem Rig.ln {n m : Nat} {k : Int} {a : Store} (A : Rig n m k a) : n < a.length := by
  obtain ⟨rs, x, y, e1, e2, r⟩ := A
  exact lt_of_get e1
theorem Rig.lm {n m : Nat} {k : Int} {a : Store} (A : Rig n m k a) : m < a.length := by
  obtain ⟨rs, x, y, e1, e2, r⟩ := A
  exact lt_of_get e2
theorem Rig.set {n m i : Nat} {k : Int} {a : Store} {o : SO} (A : Rig n m k a) (h1 : i ≠ n) (h2 : i ≠ m) : Rig n m k (a.set i o) := A.same (List.getElem?_set_ne h1) (List.getElem?_set_ne h2)
theorem Rig.mono {n m : Nat} {k k' : Int} {a : Store} (A : Rig n m k a) (h : k ≤ k') : Rig n m k' a := by
  obtain ⟨rs, x, y, e1, e2, ne, b1, b2, r⟩ := A
  exact ⟨rs, x, y, e1, e2, ne, b1, ⟨b2.1, by omega⟩, r⟩
theorem wp_sweptR {n m : Nat} {k : Int} {st st1 : Store} {d : D} {Q : D → Store → Prop} (A : Rig n m k st1) (M : Mor n m st st1) (hn : n < st.length) (hm : m < st.length) (hd : d.low 0 = true)
    (h : ∀ st', Rig n m k st' → Upd n m st st' → Q d st') : wp (swept st (.ok d st1)) Q := by
  have A' := A
  obtain ⟨rs, x, y, e1, e2, r⟩ := A
  refine wp_swept M (D.low_mono (Nat.zero_le _) d hd) (fun o ho => ?_) (fun o ho => ?_) fun st' U h1 h2 => h st' (A'.same (h1 hn) (h2 hm)) U
  · rw [e1] at ho; cases ho
    simp [SO.low, rigD, fpure, hm]
  · rw [e2] at ho; cases ho
    exact lows_ints rs
theorem take_wp {n m : Nat} {k : Int} {st : Store} {many : Int} {Q : D → Store → Prop} (A : Rig n m k st) (hk : k ≤ 10 ^ 14) (hm : 1 ≤ many ∧ many ≤ 10 ^ 12)
    (h : ∀ r st', Rig n m (k + 1) st' → Upd n m st st' → 0 ≤ r → r < many → Q (.int r) st') : wp (F_law_take [.ref n, .int many] st) Q := by
  obtain ⟨r, st', e, A', U, p, q⟩ := take_ok A hk hm
  exact wp_of_eq e (h r st' A' U p q)
/-- pick(rig, [..]), swept -/
theorem pick_wp {P : D → Prop} {n m : Nat} {k : Int} {st s : Store} {xs : List D} {Q : D → Store → Prop} (A : Rig n m k s) (M : Mor n m st s) (hn : n < st.length) (hm : m < st.length) (hk : k ≤ 10 ^ 14) (hx : 1 ≤ xs.length ∧ xs.length ≤ 1000) (hp : ∀ d ∈ xs, P d ∧ d.low 0 = true)
    (h : ∀ d st', P d → Rig n m (k + 1) st' → Upd n m st st' → Q d st') : wp (F_law_pick [.ref n, .ref s.length] (s ++ [.lst xs])) (fun d s' => wp (swept st (.ok d s')) Q) := by
  refine wp_fn ?_
  simp [b_law_pick]
  refine take_wp A.push hk (by omega) fun r s1 A1 U1 p q => ?_
  have e1 : s1[s.length]? = some (.lst xs) := by rw [U1.at_ _ (by have := A.ln; omega) (by have := A.lm; omega)]; simp
  obtain ⟨d, ed, hd⟩ := atI_all (P := fun d => P d ∧ d.low 0 = true) (xs := xs) (i := r) (by omega) hp
  simp [e1, ed]
  rw [swept_len U1.len, wp_ok]
  exact wp_sweptR A1 ((M.trans .push).trans U1.mor) hn hm hd.2 fun st' A2 U2 => h d st' hd.1 A2 U2
def StepOK (axes : Nat) : Step → Prop
  | .to a p => a < axes ∧ (-(10 ^ 10) ≤ p ∧ p ≤ 10 ^ 10)
  | .by a w => a < axes ∧ (-(10 ^ 10) ≤ w ∧ w ≤ 10 ^ 10)
  | .cut _ => True
def StI (n m : Nat) (k : Int) (st : Store) (axes : Nat) (many habit : Int) (tos : Bool) (i : Nat) (ρ : Envr) (s : Store) : Prop :=
  ∃ (l6 l7 l8 l9 l10 l11 : Option D) (told : List Step), ρ = [some (.ref n), some (.int axes), some (.int many), some (.bl tos), some (.ref st.length), some (.int habit), l6, l7, l8, l9, l10, l11] ∧ s[st.length]? = some (.lst (told.map Step.enc)) ∧ Mor n m st s ∧ Rig n m (k + 1 + 20 * i) s ∧ (∀ x ∈ told, StepOK axes x) ∧ told.length = i
theorem steps_wp {n m : Nat} {k : Int} {st : Store} {axes : Nat} {many : Int} {tos : Bool} {Q : D → Store → Prop} (A : Rig n m k st) (hk : k ≤ 10 ^ 12) (ha : 1 ≤ axes ∧ axes ≤ 3) (hmy : 1 ≤ many ∧ many ≤ 31)
    (h : ∀ steps st', Rig n m (k + 1000) st' → Upd n m st st' → (∀ s ∈ steps, StepOK axes s) → steps.length ≤ 31 → Q (encSteps steps) st') : wp (F_law_steps [.ref n, .int axes, .int many, .bl tos] st) Q := by
  refine wp_fn ?_
  have hn := A.ln
  have hm := A.lm
  simp [b_law_steps]
  refine take_wp A.push (by omega) (by omega) fun habit s1 A1 U1 p1 q1 => ?_
  simp [show -4611686018427387904 ≤ many ∧ many < 4611686018427387904 by omega, rangeD_zero]
  refine wp_forR (StI n m k st axes many habit tos) ⟨none, none, none, none, none, none, [], rfl, by rw [U1.at_ _ (by omega) (by omega)]; simp, Mor.push.trans U1.mor, A1.mono (by omega), by simp, rfl⟩ ?_ ?_
  · rintro ρ s ⟨l6, l7, l8, l9, l10, l11, told, rfl, h1, M, A2, ok, hl⟩
    simp [bTuple_ref h1]
    exact wp_sweptR A2 M hn hm (encSteps_low _) fun st' A' U' => h _ st' (A'.mono (by omega)) U' ok (by omega)
  · rintro i ρ s hi ⟨l6, l7, l8, l9, l10, l11, told, rfl, h1, M, A2, ok, hl⟩
    refine ⟨_, rfl, ?_⟩
    simp [-sthn_ite, -wps_ite]
    refine take_wp A2 (by omega) (by omega) fun ax s2 A3 U2 p2 q2 => ?_
    have M2 := M.trans U2.mor
    have h2 : s2[st.length]? = some (.lst (told.map Step.enc)) := by rw [U2.at_ _ (by omega) (by omega), h1]
    obtain ⟨a, rfl⟩ := Int.eq_ofNat_of_zero_le p2
    -- the axis
    refine wps_mono (N := fun ρ s => ∃ a' : Nat, a' < axes ∧ s2 = s ∧ ρ = [some (.ref n), some (.int axes), some (.int many), some (.bl tos), some (.ref st.length), some (.int habit), some (.int i), some (.int a'), l8, l9, l10, l11]) (C := fun _ _ => False) (B := fun _ _ => False) (R := fun _ _ => False) ?_ ?_ (fun _ _ q => q.elim) (fun _ _ q => q.elim) (fun _ _ q => q.elim)
    · by_cases hh : habit = 0
      · simp [hh]
        exact ⟨0, by omega, rfl⟩
      · simp [hh]
        exact ⟨a, by omega, rfl⟩
    rintro ρ s ⟨a', ha', rfl, rfl⟩
    simp [-sthn_ite, -wps_ite]
    refine take_wp A3 (by omega) (by omega) fun r3 s3 A4 U3 p3 q3 => ?_
    simp [-sthn_ite, -wps_ite]
    rw [wp_sw1]
    refine pick_wp (P := fun d => ∃ v : Int, d = .int v ∧ 1 ≤ v ∧ v ≤ 1000000000) A4 U3.mor A3.ln A3.lm (by omega) (by simp) (by simp; omega) fun d s4 hd A5 U4 => ?_
    obtain ⟨v, rfl, hv⟩ := hd
    try simp [-sthn_ite, -wps_ite]
    refine take_wp A5 (by omega) (by omega) fun r5 s5 A6 U5 p5 q5 => ?_
    have m1 := mul_ok (a := 2) (b := r5) (by decide) (by omega)
    have m2 := mul_ok (a := v) (b := 1 - 2 * r5) (by omega) (by omega)
    have wb : -1000000000 ≤ v * (1 - 2 * r5) ∧ v * (1 - 2 * r5) ≤ 1000000000 := by
      rcases (show r5 = 0 ∨ r5 = 1 by omega) with rfl | rfl <;> omega
    simp [m1, m2, -sthn_ite, -wps_ite]
    generalize v * (1 - 2 * r5) = w at wb
    refine wps_mono (N := fun ρ s => ∃ w' : Int, (-1000000000 ≤ w' ∧ w' ≤ 1000000000) ∧ s5 = s ∧ ρ = [some (.ref n), some (.int axes), some (.int many), some (.bl tos), some (.ref st.length), some (.int habit), some (.int i), some (.int a'), some (.int v), some (.int w'), l10, l11]) (C := fun _ _ => False) (B := fun _ _ => False) (R := fun _ _ => False) ?_ ?_ (fun _ _ q => q.elim) (fun _ _ q => q.elim) (fun _ _ q => q.elim)
    · by_cases hh : habit = 1
      · rw [if_pos hh, wps_nx]
        exact ⟨v, by omega, rfl, rfl⟩
      · rw [if_neg hh, wps_nx]
        exact ⟨w, wb, rfl, rfl⟩
    rintro ρ s ⟨w', hw', rfl, rfl⟩
    simp [-sthn_ite, -wps_ite]
    refine take_wp A6 (by omega) (by omega) fun kd s6 A7 U6 p6 q6 => ?_
    have U26 : Upd n m s2 s6 := U4.trans (U5.trans U6)
    have M7 : Mor n m st s6 := M2.trans U26.mor
    have h6 : s6[st.length]? = some (.lst (told.map Step.enc)) := by rw [U26.at_ _ (by omega) (by omega), h2]
    have fin : ∀ (y : Step) (s' : Store), StepOK axes y → Rig n m (k + 1 + 20 * i + 15) s' → Mor n m st s' → s'[st.length]? = some (.lst (told.map Step.enc)) → ∀ l10 l11 : Option D, (isLst s' st.length = true ∧ wp (mAppend st.length [y.enc] s') fun _ st_1 => StI n m k st axes many habit tos (i + 1) [some (.ref n), some (.int axes), some (.int many), some (.bl tos), some (.ref st.length), some (.int habit), some (.int i), some (.int a'), some (.int v), some (.int w'), l10, l11] st_1) := by
      intro y s' hy A8 M8 h8 l10 l11
      refine ⟨isLst_of h8, ?_⟩
      rw [mAppend_ev h8 (by simp; omega), wp_ok]
      refine ⟨_, _, _, _, _, _, told ++ [y], rfl, by rw [List.getElem?_set_self (lt_of_get h8)]; simp, M8.set (Nat.le_refl _), (A8.set (by omega) (by omega)).mono (by omega), fun x hx => ?_, by simp [hl]⟩
      rcases List.mem_append.mp hx with hx | hx
      · exact ok x hx
      · rw [List.mem_singleton.mp hx]; exact hy
    have plain := fun l10 l11 => fin (.by a' w') s6 ⟨ha', by omega⟩ (A7.mono (by omega)) M7 h6 l10 l11
    by_cases hk0 : kd = 0
    · cases tos with
      | false =>
        simp [hk0]
        exact plain _ _
      | true =>
        simp [hk0]
        refine take_wp A7 (by omega) (by omega) fun r7 s7 A8 U7 p7 q7 => ?_
        try simp
        rw [wp_sw1]
        refine pick_wp (P := fun d => ∃ v : Int, d = .int v ∧ (-(10 ^ 10) ≤ v ∧ v ≤ 10 ^ 10)) A8 U7.mor A7.ln A7.lm (by omega) (by simp) (by simp; omega) fun d s8 hd A9 U8 => ?_
        obtain ⟨p, rfl, hp⟩ := hd
        try simp
        exact fin (.to a' p) s8 ⟨ha', hp⟩ (A9.mono (by omega)) (M7.trans U8.mor) (by rw [U8.at_ _ (by omega) (by omega), h6]) _ _
    · by_cases hk1 : kd = 1
      · by_cases hi0 : i = 0
        · simp [hk1, show ¬ 0 < i by omega]
          exact plain _ _
        · rcases List.eq_nil_or_concat told with e | ⟨init, last, e⟩
          · subst e; simp at hl; omega
          · rw [List.concat_eq_append] at e
            subst e
            have h6' : s6[st.length]? = some (.lst (init.map Step.enc ++ [last.enc])) := by rw [h6]; simp
            have hi1 : 0 < i := by omega
            have hlast := ok last (by simp)
            cases last with
            | to b p =>
              simp [hk1, hi1, h6', Step.enc, ne3]
              exact plain _ _
            | «by» b p =>
              simp [hk1, hi1, h6', Step.enc]
              have := fin (.by b (-p)) s6 ⟨hlast.1, by have := hlast.2; omega⟩ (A7.mono (by omega)) M7 h6
              simpa [Step.enc] using this _ _
            | cut f =>
              simp [hk1, hi1, h6', Step.enc, ne4]
              exact plain _ _
      · by_cases hk2 : kd = 2
        · simp [hk2]
          rw [wp_sw1]
          refine pick_wp (P := fun d => ∃ v : Str, d = .str v) A7 .refl A7.ln A7.lm (by omega) (by simp) (by simp) fun d s8 hd A9 U8 => ?_
          obtain ⟨f, rfl⟩ := hd
          try simp
          exact fin (.cut f) s8 trivial (A9.mono (by omega)) (M7.trans U8.mor) (by rw [U8.at_ _ (by omega) (by omega), h6]) _ _
        · simp [hk0, hk1, hk2]
          exact plain _ _
end Ap

namespace Ap
open PySem L2 L3
theorem cutD_map {α : Type} {f : α → D} {ks : List α} {lo hi : Option Int} : ∃ ks' : List α, cutD (ks.map f) lo hi = ks'.map f ∧ ks'.length ≤ ks.length := by
  unfold cutD
  rw [← List.map_drop, ← List.map_take]
  exact ⟨_, rfl, by rw [List.length_take, List.length_drop]; omega⟩
theorem cutD_take {α : Type} {f : α → D} {ks : List α} {a : Nat} (h : a ≤ ks.length) : cutD (ks.map f) none (some (a : Int)) = (ks.take a).map f := by
  unfold cutD
  rw [HT.sIx_none, HT.sIx_nat, List.drop_zero, Nat.sub_zero, List.length_map, Nat.min_eq_left h, List.map_take]
def K5 : List Str := ["once", "any", "once", "any", "once"]
structure CodeG (c : Code) : Prop where
  segs : c.segs.length ≤ 5
  b1 : 1 ≤ c.bounds.length
  b3 : c.bounds.length ≤ 3
  steps : ∀ s ∈ c.segs, s.2.length ≤ 31 ∧ ∀ x ∈ s.2, StepOK c.bounds.length x
def SgI (n m : Nat) (k : Int) (st : Store) (axes : Nat) (long : Int) (kr sr : Nat) (ks : List Str) (ys : List Str) (ρ : Envr) (s : Store) : Prop :=
  ∃ (segs : List (Str × List Step)) (l5 l6 l7 : Option D), ρ = [some (.ref n), some (.int long), some (.int axes), some (.ref kr), some (.ref sr), l5, l6, l7, none, none, none] ∧ st.length ≤ kr ∧ st.length ≤ sr ∧ kr ≠ sr ∧ s[kr]? = some (.lst (ks.map .str)) ∧ s[sr]? = some (.lst (segs.map encS)) ∧ Mor n m st s ∧
    Rig n m (k + 10 + 1010 * segs.length) s ∧ segs.length + ys.length ≤ 5 ∧ ∀ x ∈ segs, x.2.length ≤ 31 ∧ ∀ y ∈ x.2, StepOK axes y
def NmI (n m : Nat) (k : Int) (W : Store) (nr : Nat) (names : List Str) (ys : List Str) (acc : List D) (s : Store) : Prop := ∃ bs : List (Str × Int), acc = bs.map encB ∧ bs.length + ys.length = names.length ∧ Rig n m (k + bs.length) s ∧ Mor n m W s ∧ s[nr]? = some (.lst (names.map .str))
def KdN (n m : Nat) (k : Int) (st : Store) (long : Int) (a0 : Nat) (ρ : Envr) (s : Store) : Prop := ∃ (ks : List Str) (kr : Nat), ks.length ≤ 5 ∧ st.length ≤ kr ∧ s[kr]? = some (.lst (ks.map .str)) ∧ Mor n m st s ∧ Rig n m (k + 4) s ∧ ρ = [some (.ref n), some (.int long), some (.int (1 + (a0 : Int))), some (.ref kr), none, none, none, none, none, none, none]
theorem code_wp {n m : Nat} {k : Int} {st : Store} {long : Int} {Q : D → Store → Prop} (A : Rig n m k st) (hk : k ≤ 10 ^ 11) (hlg : long = 0 ∨ long = 1)
    (h : ∀ (c : Code) st', Rig n m (k + 10000) st' → Upd n m st st' → CodeG c → Q c.enc st') : wp (F_law_code [.ref n, .int long] st) Q := by
  refine wp_fn ?_
  have hn := A.ln
  have hm := A.lm
  simp [b_law_code, -sthn_ite, -wps_ite]
  refine take_wp A (by omega) (by omega) fun r1 s1 A1 U1 p1 q1 => ?_
  try simp [-sthn_ite, -wps_ite]
  refine take_wp A1.push (by omega) (by omega) fun r2 s2 A2 U2 p2 q2 => ?_
  obtain ⟨a0, rfl⟩ := Int.eq_ofNat_of_zero_le p1
  have M2 : Mor n m st s2 := (U1.mor.trans .push).trans U2.mor
  have e2 : s2[s1.length]? = some (.lst (K5.map D.str)) := by rw [U2.at_ _ (by have := A1.ln; omega) (by have := A1.lm; omega)]; simp [K5]
  obtain ⟨k1, ek1, lk1⟩ := cutD_map (f := D.str) (ks := K5) (lo := some r2) (hi := none)
  have l5 : K5.length = 5 := rfl
  simp only [vSlice, wp_ok, sVar_ev, sNoPart_ev, bind_ok', e2, ek1]
  try simp [-sthn_ite, -wps_ite]
  refine take_wp A2.push (by omega) (by omega) fun r3 s3 A3 U3 p3 q3 => ?_
  have M3 : Mor n m st s3 := (M2.trans .push).trans U3.mor
  have e3 : s3[s2.length]? = some (.lst (k1.map D.str)) := by rw [U3.at_ _ (by have := A2.ln; omega) (by have := A2.lm; omega)]; simp
  obtain ⟨k2, ek2, lk2⟩ := cutD_map (f := D.str) (ks := k1) (lo := none) (hi := some (1 + r3))
  simp only [vSlice, wp_ok, vAdd_int, sVar_ev, sNoPart_ev, bind_ok', e3, ek2]
  try simp [-sthn_ite, -wps_ite]
  refine take_wp A3.push (by omega) (by omega) fun r4 s4 A4 U4 p4 q4 => ?_
  have M4 : Mor n m st s4 := (M3.trans .push).trans U4.mor
  have e4 : s4[s3.length]? = some (.lst (k2.map D.str)) := by rw [U4.at_ _ (by have := A3.ln; omega) (by have := A3.lm; omega)]; simp
  try simp [-sthn_ite, -wps_ite]
  refine wps_mono (N := KdN n m k st long a0) (C := fun _ _ => False) (B := fun _ _ => False) (R := fun _ _ => False) ?_ ?_ (fun _ _ q => q.elim) (fun _ _ q => q.elim) (fun _ _ q => q.elim)
  · by_cases hz : r4 = 0
    · simp [hz]
      exact ⟨["any", "any"], s4.length, by simp, M4.len, by simp, M4.trans .push, (A4.push).mono (by omega), rfl⟩
    · simp [hz]
      exact ⟨k2, s3.length, by omega, M3.len, e4, M4, A4.mono (by omega), rfl⟩
  rintro ρ s ⟨ks, kr, hks, hkr, ek, M5, A5, rfl⟩
  have hsl := M5.len
  have hkl := lt_of_get ek
  try simp [-sthn_ite, -wps_ite]
  rw [srcOf_of (get_push ek)]
  simp
  refine wp_for (enc := D.str) (xs := ks) (SgI n m k st (1 + a0) long kr s.length ks) ⟨[], none, none, none, by simp, hkr, hsl, by omega, get_push ek, by simp, M5.trans .push, A5.push.mono (by simp), by simpa using hks, by simp⟩ ?_ ?_
  · rintro ρ s' ⟨segs, l5, l6, l7, rfl, h1, h2, h3, h4, h5, M6, A6, h7, h8⟩
    refine ⟨by simpa using h4, ?_⟩
    simp [-sLc_ev]
    have hn6 := A6.ln
    have hm6 := A6.lm
    have ec : vSlice (.ref s'.length) none (some (1 + (a0 : Int))) (s' ++ [.lst [.str "x", .str "y", .str "z"]]) = .ok (.ref (s'.length + 1)) (s' ++ [.lst [.str "x", .str "y", .str "z"], .lst ((([("x" : Str), "y", "z"] : List Str).take (1 + a0)).map .str)]) := by
      have := cutD_take (f := D.str) (ks := ([("x" : Str), "y", "z"] : List Str)) (a := 1 + a0) (by simp; omega)
      simp only [vSlice, get_last]
      rw [show (1 : Int) + (a0 : Int) = ((1 + a0 : Nat) : Int) by push_cast; rfl]
      rw [show [D.str "x", .str "y", .str "z"] = ([("x" : Str), "y", "z"] : List Str).map D.str from rfl, this]
      simp
    rw [ec, wp_ok]
    have hnl : (([("x" : Str), "y", "z"] : List Str).take (1 + a0)).length = 1 + a0 := by rw [List.length_take]; simp; omega
    generalize ([("x" : Str), "y", "z"] : List Str).take (1 + a0) = names at hnl
    have AW : Rig n m (k + 10 + 1010 * segs.length) (s' ++ [.lst [.str "x", .str "y", .str "z"], .lst (names.map .str)]) := A6.push
    have hW1 : (s' ++ [.lst [.str "x", .str "y", .str "z"], .lst (names.map D.str)])[s'.length + 1]? = some (.lst (names.map .str)) := get_a1
    have hW2 : (s' ++ [.lst [.str "x", .str "y", .str "z"], .lst (names.map D.str)])[s.length]? = some (.lst (segs.map encS)) := get_push h5
    have MW : Mor n m st (s' ++ [.lst [.str "x", .str "y", .str "z"], .lst (names.map D.str)]) := M6.trans .push
    have hlW : n < s'.length + 1 ∧ m < s'.length + 1 := by omega
    generalize (s' ++ [.lst [.str "x", .str "y", .str "z"], .lst (names.map D.str)] : Store) = W at AW hW1 hW2 MW
    have hnW := AW.ln
    have hmW := AW.lm
    simp only [sLc_ev, iSeq_ev, sVar_ev]
    simp
    rw [srcOf_of hW1]
    simp
    have sl := sizeLine_eq
    refine wp_lc (enc := D.str) (xs := names) (NmI n m (k + 10 + 1010 * segs.length) W (s'.length + 1) names) ⟨[], rfl, by simp, by simpa using AW, .refl, hW1⟩ ?_ ?_
    · rintro acc s9 ⟨bs, rfl, hb, A9, M9, h9⟩
      simp at hb
      refine ⟨by simpa using h9, ?_⟩
      try simp
      refine wp_sweptR A9.push (M9.trans .push) hnW hmW (by simp [encB]) fun s10 A10 U10 => ?_
      have h10 : s10[s.length]? = some (.lst (segs.map encS)) := by rw [U10.at_ _ (by omega) (by omega)]; exact hW2
      simp [bTuple_ref h10]
      refine wp_sweptR A10 (MW.trans U10.mor) hn hm (by simp [encB, encS, encSteps_low]) fun s11 A11 U11 => h ⟨bs, segs⟩ s11 (A11.mono (by omega)) U11 ⟨by simpa using h7, by simp; omega, by simp; omega, fun x hx => ?_⟩
      have := h8 x hx
      simp only [hb, hnl]
      exact this
    · rintro x ys acc s9 hx ⟨bs, rfl, hb, A9, M9, h9⟩
      simp at hb
      refine ⟨by simpa using h9, _, rfl, ?_⟩
      simp
      rw [wp_sw1]
      refine pick_wp (P := fun d => ∃ v : Int, d = .int v) A9 .refl A9.ln A9.lm (by omega) (by simp) (by simp) fun d s10 hd A10 U10 => ?_
      obtain ⟨v, rfl⟩ := hd
      try simp
      exact ⟨by omega, bs ++ [(x, v)], by simp [encB], by simp; omega, A10.mono (by simp; omega), M9.trans U10.mor, by rw [U10.at_ _ (by omega) (by omega)]; exact h9⟩
  · rintro x ys ρ s' hx ⟨segs, l5, l6, l7, rfl, h1, h2, h3, h4, h5, M6, A6, h7, h8⟩
    simp at h7
    refine ⟨by simpa using h4, _, rfl, ?_⟩
    have hn6 := A6.ln
    have hm6 := A6.lm
    obtain ⟨lv, elv, hlv⟩ : ∃ lv : Int, L2.atI [D.int 6, .int 30] long = some (.int lv) ∧ 1 ≤ lv ∧ lv ≤ 30 := by
      rcases hlg with rfl | rfl
      · exact ⟨6, rfl, by omega, by omega⟩
      · exact ⟨30, rfl, by omega, by omega⟩
    simp [-sLc_ev, elv]
    rw [wp_sw1]
    refine take_wp A6 (by omega) (by omega) fun r5 s5 A7 U7 p7 q7 => ?_
    rw [swept_len U7.len, wp_ok]
    simp [-sLc_ev]
    have hsl := sizeLine_eq
    have h5' : s5[s.length]? = some (.lst (segs.map encS)) := by rw [U7.at_ _ (by omega) (by omega)]; exact h5
    have h4' : s5[kr]? = some (.lst (ks.map .str)) := by rw [U7.at_ _ (by omega) (by omega)]; exact h4
    rw [sLc_map encS isAny encS segs (src := .lst s.length (segs.map encS)) (st1 := s5) (by simp [srcOf_of h5']) rfl (by simpa using h5') (fun x hx => by simp [encS, isAny]) (by omega)]
    simp [isLst_of h5']
    have ea : (1 : Int) + (a0 : Int) = ((1 + a0 : Nat) : Int) := by push_cast; rfl
    rw [ea]
    refine steps_wp A7 (by omega) (by omega) (by omega) fun steps s6 A8 U8 ok8 l8 => ?_
    have h5'' : s6[s.length]? = some (.lst (segs.map encS)) := by rw [U8.at_ _ (by omega) (by omega)]; exact h5'
    have h4'' : s6[kr]? = some (.lst (ks.map .str)) := by rw [U8.at_ _ (by omega) (by omega)]; exact h4'
    rw [mAppend_ev h5'' (by simp; omega), wp_ok]
    refine ⟨segs ++ [(x, steps)], _, _, _, rfl, h1, h2, h3, by rw [List.getElem?_set_ne (by omega)]; exact h4'', by rw [List.getElem?_set_self (lt_of_get h5'')]; simp [encS], ((M6.trans U7.mor).trans U8.mor).set h2, (A8.set (by omega) (by omega)).mono (by simp; omega), by simp; omega, fun z hz => ?_⟩
    rcases List.mem_append.mp hz with hz | hz
    · exact h8 z hz
    · rw [List.mem_singleton.mp hz]; exact ⟨l8, ok8⟩
end Ap

namespace Ap
open PySem L2 L3
theorem wp_sweptR' {n m : Nat} {k : Int} {st st1 : Store} {d : D} {Q : D → Store → Prop} (A : Rig n m k st1) (M : Mor n m st st1) (hn : n < st.length) (hm : m < st.length) (hd : d.low st.length = true)
    (h : ∀ st', Rig n m k st' → Upd n m st st' → Q d st') : wp (swept st (.ok d st1)) Q := by
  have A' := A
  obtain ⟨rs, x, y, e1, e2, r⟩ := A
  refine wp_swept M hd (fun o ho => ?_) (fun o ho => ?_) fun st' U h1 h2 => h st' (A'.same (h1 hn) (h2 hm)) U
  · rw [e1] at ho; cases ho
    simp [SO.low, rigD, fpure, hm]
  · rw [e2] at ho; cases ho
    exact lows_ints rs
/-- pick(rig, row), the row a list of the store -/
theorem pick_any {P : D → Prop} {n m j : Nat} {k : Int} {s : Store} {xs : List D} {Q : D → Store → Prop} (A : Rig n m k s) (hj : s[j]? = some (.lst xs)) (h1 : j ≠ n) (h2 : j ≠ m) (hk : k ≤ 10 ^ 14) (hx : 1 ≤ xs.length ∧ xs.length ≤ 1000) (hp : ∀ d ∈ xs, P d)
    (h : ∀ d st', P d → Rig n m (k + 1) st' → Upd n m s st' → Q d st') : wp (F_law_pick [.ref n, .ref j] s) Q := by
  refine wp_fn ?_
  simp [b_law_pick, bLen, hj]
  refine take_wp A hk (by omega) fun r s1 A1 U1 p q => ?_
  have e1 : s1[j]? = some (.lst xs) := by rw [U1.at_ _ h1 h2]; exact hj
  obtain ⟨d, ed, hd⟩ := atI_all (P := P) (xs := xs) (i := r) (by omega) hp
  simp [e1, ed]
  rw [swept_len U1.len, wp_ok]
  exact h d s1 hd A1 U1
/-- the rounds so far fit the segments gone through -/
inductive FitR : List (Str × List Step) → List Int → Prop where
  | nil : FitR [] []
  | any {s : List Step} {segs : List (Str × List Step)} {n : Int} {ns : List Int} : 1 ≤ n → n ≤ 60 → FitR segs ns → FitR (("any", s) :: segs) (n :: ns)
  | once {k : Str} {s : List Step} {segs : List (Str × List Step)} {ns : List Int} : k ≠ "any" → FitR segs ns → FitR ((k, s) :: segs) ns
theorem FitR.snocA {s : List Step} {n : Int} (h1 : 1 ≤ n) (h2 : n ≤ 60) : ∀ {segs : List (Str × List Step)} {ns : List Int}, FitR segs ns → FitR (segs ++ [(("any" : Str), s)]) (ns ++ [n])
  | _, _, .nil => .any h1 h2 .nil
  | _, _, .any a b t => .any a b (FitR.snocA h1 h2 t)
  | _, _, .once a t => .once a (FitR.snocA h1 h2 t)
theorem FitR.snocO {kd : Str} {s : List Step} (h1 : kd ≠ "any") : ∀ {segs : List (Str × List Step)} {ns : List Int}, FitR segs ns → FitR (segs ++ [(kd, s)]) ns
  | _, _, .nil => .once h1 .nil
  | _, _, .any a b t => .any a b (FitR.snocO h1 t)
  | _, _, .once a t => .once a (FitR.snocO h1 t)
theorem FitR.len : ∀ {segs : List (Str × List Step)} {ns : List Int}, FitR segs ns → ns.length ≤ segs.length
  | _, _, .nil => Nat.le_refl _
  | _, _, .any _ _ t => Nat.succ_le_succ t.len
  | _, _, .once _ t => Nat.le_succ_of_le t.len
theorem FitR.mem : ∀ {segs : List (Str × List Step)} {ns : List Int}, FitR segs ns → ∀ x ∈ ns, 1 ≤ x ∧ x ≤ 60
  | _, _, .nil, x, h => by simp at h
  | _, _, .any a b t, x, h => by
    rcases List.mem_cons.mp h with rfl | h
    · exact ⟨a, b⟩
    · exact t.mem x h
  | _, _, .once _ t, x, h => t.mem x h
theorem FitR.set {v : Int} (h1 : 1 ≤ v) (h2 : v ≤ 60) : ∀ {segs : List (Str × List Step)} {ns : List Int} (j : Nat), FitR segs ns → FitR segs (ns.set j v)
  | _, _, j, .nil => by simp; exact .nil
  | _, _, 0, .any a b t => .any h1 h2 t
  | _, _, j + 1, .any a b t => .any a b (FitR.set h1 h2 j t)
  | _, _, j, .once a t => .once a (FitR.set h1 h2 j t)
theorem FitR.fits {ax : Nat} : ∀ {segs : List (Str × List Step)} {ns : List Int}, FitR segs ns → (∀ s ∈ segs, s.2.length ≤ 31 ∧ ∀ x ∈ s.2, StepOK ax x) → Fits ax segs ns
  | _, _, .nil, _ => .nil
  | _, _, .any a b t, h => .any a b (by have := (h _ (List.mem_cons_self)).1; simp only at this; omega) (fun x p hp => by
    have := (h _ (List.mem_cons_self)).2
    rcases hp with hp | hp
    · exact (this _ hp).1
    · exact (this _ hp).1) (t.fits fun s hs => h s (List.mem_cons_of_mem _ hs))
  | _, _, .once a t, h => .once a (by have := (h _ (List.mem_cons_self)).1; simp only at this; omega) (fun x p hp => by
    have := (h _ (List.mem_cons_self)).2
    rcases hp with hp | hp
    · exact (this _ hp).1
    · exact (this _ hp).1) (t.fits fun s hs => h s (List.mem_cons_of_mem _ hs))
theorem row_mem {P : Step → Prop} : ∀ {segs : List (Str × List Step)} {ns : List Int}, (∀ s ∈ segs, ∀ x ∈ s.2, P x) → ∀ y ∈ rowP segs ns, P y
  | [], _, _, y, h => by simp [rowP] at h
  | (k, s) :: r, ns, hs, y, h => by
    have hr : ∀ s ∈ r, ∀ x ∈ s.2, P x := fun s h => hs s (List.mem_cons_of_mem _ h)
    have h0 := hs _ (List.mem_cons_self)
    simp only [rowP] at h
    split at h
    · cases ns with
      | nil => simp at h
      | cons n ns =>
        rcases List.mem_append.mp h with h | h
        · obtain ⟨l, hl, hy⟩ := List.mem_flatten.mp h
          rw [(List.mem_replicate.mp hl).2] at hy
          exact h0 y hy
        · exact row_mem hr y h
    · rcases List.mem_append.mp h with h | h
      · exact h0 y h
      · exact row_mem hr y h
theorem code_ok {c : Code} {ns : List Int} (g : CodeG c) (f : FitR c.segs ns) : CodeOK c ns :=
  ⟨f.fits g.steps, by have := g.segs; omega, by have := g.b3; omega, row_mem fun s hs x hx => by
    have := (g.steps s hs).2 x hx
    cases x with
    | to a p => exact this.2
    | «by» a w => exact this.2
    | cut f => trivial⟩
end Ap

namespace Ap
open PySem L2 L3
def env12 (n : Nat) (c : Code) (long : Int) (L : Nat) (l4 l5 l6 l7 l8 l9 l10 : Option D) : Envr := [some (.ref n), some c.enc, some (.int long), some (.ref L), l4, l5, l6, l7, l8, l9, l10, none]
def R1I (n m : Nat) (k : Int) (st : Store) (c : Code) (long : Int) (ys : List (Str × List Step)) (ρ : Envr) (s : Store) : Prop :=
  ∃ (ns : List Int) (done : List (Str × List Step)) (l4 l5 l6 : Option D), ρ = env12 n c long st.length l4 l5 l6 none none none none ∧ s[st.length]? = some (.lst (ns.map .int)) ∧ Mor n m st s ∧ Rig n m (k + 5 * done.length) s ∧ done ++ ys = c.segs ∧ FitR done ns
theorem rounds1 {n m : Nat} {k : Int} {st : Store} {c : Code} {long : Int} (hn : n < st.length) (hm : m < st.length) (hk : k ≤ 10 ^ 12) (hlg : long = 0 ∨ long = 1) (g : CodeG c) {x : Str × List Step} {ys : List (Str × List Step)} {ns : List Int} {done : List (Str × List Step)} {l6 : Option D} {s : Store}
    (h1 : s[st.length]? = some (.lst (ns.map .int))) (M : Mor n m st s) (A : Rig n m (k + 5 * done.length) s) (e : done ++ x :: ys = c.segs) (f : FitR done ns) {N C B : Envr → Store → Prop} {R : D → Store → Prop} (hN : N = R1I n m k st c long ys) :
    wps ((xIf (sBool (s2 vEq (sVar 4) (sC (.str "any")))) (xSeq (xAsg (.nm 6) (sLst (sCons (sC (.int 1)) (sCons (sC (.int 1)) (sCons (sC (.int 2)) (sCons (sC (.int 3)) (sCons (s2 vAdd (sC (.int 1)) (sCB F_law_take (sCons (sVar 0) (sCons (sC (.int 7)) sNil)))) sNil)))))))
    (xExpr (sML mAppend (sVar 3) (sCons (sSwp (sCB F_law_pick (sCons (sVar 0) (sCons (sSwp (s2 vIx (sLst (sCons (sVar 6) (sCons (sLst (sCons (sC (.int 60)) (sCons (sC (.int 60)) (sCons (sC (.int 30)) (sCons (s2 vAdd (sC (.int 1)) (sCB F_law_take (sCons (sVar 0) (sCons (sC (.int 60)) sNil)))) sNil))))) sNil))) (sVar 2))) sNil)))) sNil)))) xNil)
      (env12 n c long st.length (some (.str x.1)) (some (encSteps x.2)) l6 none none none none) s) N C B R := by
  subst hN
  have hdl : done.length ≤ 5 := by have := g.segs; rw [← e] at this; simp at this; omega
  by_cases ha : x.1 = "any"
  · simp [env12, ha]
    refine take_wp A (by omega) (by omega) fun r1 s1 A1 U1 p1 q1 => ?_
    have h1' : s1[st.length]? = some (.lst (ns.map .int)) := by rw [U1.at_ _ (by omega) (by omega)]; exact h1
    have M1 := M.trans U1.mor
    simp
    refine ⟨isLst_of (get_push h1'), ?_⟩
    have hxa : x = (("any" : Str), x.2) := by rw [← ha]
    have fin : ∀ (v : Int) (s' : Store) (l6 : Option D), 1 ≤ v ∧ v ≤ 60 → Rig n m (k + 5 * done.length + 4) s' → Mor n m st s' → s'[st.length]? = some (.lst (ns.map .int)) → wp (mAppend st.length [.int v] s') fun _ st_5 => R1I n m k st c long ys [some (.ref n), some c.enc, some (.int long), some (.ref st.length), some (.str "any"), some (encSteps x.2), l6, none, none, none, none, none] st_5 := by
      intro v s' l6 hv A8 M8 h8
      rw [mAppend_ev h8 (by have := f.len; simp; omega), wp_ok]
      refine ⟨ns ++ [v], done ++ [x], _, _, _, rfl, by rw [List.getElem?_set_self (lt_of_get h8)]; simp, M8.set (Nat.le_refl _), (A8.set (by omega) (by omega)).mono (by simp; omega), by simp [e], ?_⟩
      rw [hxa]
      exact f.snocA hv.1 hv.2
    have hs1 := M1.len
    have hl1 := lt_of_get h1'
    have A1p : Rig n m (k + 5 * done.length + 1) (s1 ++ [SO.lst [.int 1, .int 1, .int 2, .int 3, .int (1 + r1)]]) := A1.push
    have hf : (s1 ++ [SO.lst [.int 1, .int 1, .int 2, .int 3, .int (1 + r1)]])[s1.length]? = some (.lst [.int 1, .int 1, .int 2, .int 3, .int (1 + r1)]) := get_a0
    have hL : (s1 ++ [SO.lst [.int 1, .int 1, .int 2, .int 3, .int (1 + r1)]])[st.length]? = some (.lst (ns.map .int)) := get_push h1'
    have MS : Mor n m st (s1 ++ [SO.lst [.int 1, .int 1, .int 2, .int 3, .int (1 + r1)]]) := M1.trans .push
    have hSl : (s1 ++ [SO.lst [.int 1, .int 1, .int 2, .int 3, .int (1 + r1)]]).length = s1.length + 1 := by simp
    generalize (s1 ++ [SO.lst [.int 1, .int 1, .int 2, .int 3, .int (1 + r1)]] : Store) = S at A1p hf hL MS hSl
    refine take_wp A1p (by omega) (by omega) fun r2 s2 A2 U2 p2 q2 => ?_
    simp only [vAdd_int, wp_ok]
    rcases hlg with rfl | rfl
    · simp
      refine wp_sweptR' A2.push (U2.mor.trans .push) A1p.ln A1p.lm (by simp; omega) fun s3 A3 U3 => ?_
      rw [wp_sw1]
      refine pick_any (P := fun d => ∃ v : Int, d = .int v ∧ 1 ≤ v ∧ v ≤ 60) A3 (by rw [U3.at_ _ (by omega) (by omega)]; exact hf) (by omega) (by omega) (by omega) (by simp) (by simp; omega) fun d s4 hd A4 U4 => ?_
      obtain ⟨v, rfl, hv⟩ := hd
      rw [swept_len (U4.len.trans U3.len), wp_ok]
      have U34 := U3.trans U4
      exact fin v s4 _ hv (A4.mono (by omega)) (MS.trans U34.mor) (by rw [U34.at_ _ (by omega) (by omega)]; exact hL)
    · simp
      rw [swept_ref (by have := U2.len; omega), wp_ok, wp_sw1]
      refine pick_any (P := fun d => ∃ v : Int, d = .int v ∧ 1 ≤ v ∧ v ≤ 60) A2.push get_a0 (by have := A2.ln; omega) (by have := A2.lm; omega) (by omega) (by simp) (by simp; omega) fun d s4 hd A4 U4 => ?_
      obtain ⟨v, rfl, hv⟩ := hd
      refine wp_sweptR A4 ((U2.mor.trans .push).trans U4.mor) A1p.ln A1p.lm rfl fun s5 A5 U5 => ?_
      exact fin v s5 _ hv (A5.mono (by omega)) (MS.trans U5.mor) (by rw [U5.at_ _ (by omega) (by omega)]; exact hL)
  · simp [env12, ha]
    refine ⟨ns, done ++ [x], _, _, _, rfl, h1, M, A.mono (by simp; omega), by simp [e], ?_⟩
    have : x = (x.1, x.2) := rfl
    rw [this]
    exact f.snocO ha
end Ap

namespace Ap
open PySem L2 L3
noncomputable def bodyR : SS := (xSeq (xAsg (.nm 8) (sCB F_law_row (sCons (sVar 1) (sCons (sVar 3) sNil))))
    (xSeq (xAsg (.nm 9) (sSwp (sCB bLen (sCons (sLc (iSeq (sVar 8)) (.nm 11) (sBool (s2 vEq (s2 vIx (sVar 11) (sC (.int 0))) (sC (.str "cut")))) (sVar 11) [11]) sNil))))
    (xSeq (xIf (sOr (sAnd (sBool (s2 vLe (sCB bLen (sCons (sVar 8) sNil)) (sC (.int 2000)))) (sBool (s2 vLe (sVar 9) (sC (.int 300))))) (sSwpB (sBool (s2 vEq (sSwp (sCB bMax (sCons (s2 vAdd (sVar 3) (sLst (sCons (sC (.int 1)) sNil))) sNil))) (sC (.int 1)))))) xBreak xNil)
    (xSeq (xAsg (.nm 10) (sML mIndex (sVar 3) (sCons (sCB bMax (sCons (sVar 3) sNil)) sNil)))
    (xSetL (s2 vSub (s2 vSub (s2 vIx (sVar 3) (sVar 10)) (sC (.int 1))) (s2 vFdiv (s2 vIx (sVar 3) (sVar 10)) (sC (.int 12)))) (sVar 3) (sVar 10))))))
def R2I (n m : Nat) (k : Int) (st : Store) (c : Code) (long : Int) (i : Nat) (ρ : Envr) (s : Store) : Prop :=
  ∃ (ns : List Int) (l4 l5 l6 l7 l8 l9 l10 : Option D), ρ = env12 n c long st.length l4 l5 l6 l7 l8 l9 l10 ∧ s[st.length]? = some (.lst (ns.map .int)) ∧ Mor n m st s ∧ Rig n m (k + 30) s ∧ FitR c.segs ns
def isCutS : Step → Bool
  | .cut _ => true
  | _ => false
theorem keep_rig {n m : Nat} {k : Int} {a b : Store} (h : Keep a b) (A : Rig n m k a) : Rig n m k b := A.same (h.at_ _ A.ln) (h.at_ _ A.lm)
theorem keep_mor {n m : Nat} {a b : Store} (h : Keep a b) : Mor n m a b := ⟨h.len, fun i hi _ _ => h.at_ i hi⟩
theorem max_is {x : Int} {xs : List Int} (h : ∀ y ∈ x :: xs, y ≤ xs.foldl max x) : True := trivial
theorem bMax_val {st : Store} {r : Nat} {x : Int} {xs : List Int} (h : st[r]? = some (.lst ((x :: xs).map .int))) : bMax [.ref r] st = .ok (.int (xs.foldl max x)) st := by
  have := intsOf_map (x :: xs)
  rw [List.map_cons] at this h
  simp [bMax, seqNT, seqOf, h, this]
theorem rounds2 {n m : Nat} {k : Int} {st : Store} {c : Code} {long : Int} (hn : n < st.length) (hm : m < st.length) (g : CodeG c) {i : Nat} {ns : List Int} {l4 l5 l6 l7 l8 l9 l10 : Option D} {s : Store}
    (h1 : s[st.length]? = some (.lst (ns.map .int))) (M : Mor n m st s) (A : Rig n m (k + 30) s) (f : FitR c.segs ns) {R : D → Store → Prop} :
    wps (bodyR (env12 n c long st.length l4 l5 l6 l7 l8 l9 l10) s) (R2I n m k st c long (i + 1)) (R2I n m k st c long (i + 1)) (R2I n m k st c long i) R := by
  have ok := code_ok g f
  have hrl := rowP_len ok.fits
  have hsl := sizeLine_eq
  simp [bodyR, env12, -sLc_ev]
  refine law_row_wp ok.fits ok.segs (fun i r s' hi K => by rw [vIx_ref, K.get h1]; simp only [atI_ofNat]; simp [hi]) fun k1 s1 K1 hk1 e1 => ?_
  rw [sLc_map Step.enc isCutS Step.enc (rowP c.segs ns) (src := .lst k1 ((rowP c.segs ns).map Step.enc)) (st1 := s1) (by simp [srcOf_of e1]) rfl (by simpa using e1) (fun x hx => by cases x <;> simp [Step.enc, isCutS, ne5, ne6]) (by have := g.segs; omega)]
  have h1' := K1.get h1
  have A1 := keep_rig K1 A
  have M1 : Mor n m st s1 := M.trans (keep_mor K1)
  rw [wp_ok, bLen_push, swept_push rfl, wp_ok]
  have eb : bLen [.ref k1] s1 = .ok (.int ((rowP c.segs ns).map Step.enc).length) s1 := by simp [bLen, e1]
  have stay : ∀ l8 l9 l10 : Option D, R2I n m k st c long i [some (.ref n), some c.enc, some (.int long), some (.ref st.length), l4, l5, l6, l7, l8, l9, l10, none] s1 := fun l8 l9 l10 => ⟨ns, _, _, _, _, _, _, _, rfl, h1', M1, A1, f⟩
  rw [eb, wp_ok]
  have ea : vAdd (.ref st.length) (.ref s1.length) (s1 ++ [.lst [.int 1]]) = .ok (.ref (s1.length + 1)) (s1 ++ [.lst [.int 1], .lst ((ns ++ [1]).map .int)]) := by
    rw [vAdd_lst (xs := ns.map .int) (ys := [.int 1]) (get_push h1') (by simp) (by have := f.len; have := g.segs; simp; omega)]
    simp
  obtain ⟨mx, hmx, emx⟩ : ∃ mx ∈ ns ++ [1], bMax [.ref (s1.length + 1)] (s1 ++ [.lst [.int 1], .lst ((ns ++ [1]).map .int)]) = .ok (.int mx) (s1 ++ [.lst [.int 1], .lst ((ns ++ [1]).map .int)]) := by
    cases ns with
    | nil => exact ⟨1, by simp, bMax_val (x := 1) (xs := []) get_a1⟩
    | cons x xs => exact ⟨_, (foldl_max_mem (xs ++ [1]) x).1, bMax_val (x := x) (xs := xs ++ [1]) get_a1⟩
  have hcs := g.segs
  have hfl := f.len
  have pick : mx ≠ 1 → ∃ (M : Int) (j : Nat), bMax [.ref st.length] s1 = .ok (.int M) s1 ∧ mIndex st.length [.int M] s1 = .ok (.int j) s1 ∧ vIx (.ref st.length) (.int j) s1 = .ok (.int M) s1 ∧ j < ns.length ∧ 2 ≤ M ∧ M ≤ 60 := by
    intro hone
    have hin : mx ∈ ns := by
      rcases List.mem_append.mp hmx with q | q
      · exact q
      · exact absurd (List.mem_singleton.mp q) hone
    have hge : 2 ≤ mx := by have := f.mem mx hin; omega
    cases hns : ns with
    | nil => rw [hns] at hin; simp at hin
    | cons x xs =>
      have h1c : s1[st.length]? = some (.lst ((x :: xs).map .int)) := by rw [← hns]; exact h1'
      have mm := foldl_max_mem xs x
      have hM : xs.foldl max x ∈ ns := by rw [hns]; exact mm.1
      have hle := mm.2 mx (by rw [← hns]; exact hin)
      have hb := f.mem _ hM
      cases hj : (x :: xs).findIdx? (fun z => decide (z = xs.foldl max x)) with
      | none =>
        have := List.findIdx?_eq_none_iff.mp hj _ mm.1
        simp at this
      | some j =>
        obtain ⟨hjl, hjv, _⟩ := List.findIdx?_eq_some_iff_getElem.mp hj
        refine ⟨_, j, bMax_val h1c, mIndex_ev h1c hj, ?_, hjl, by omega, hb.2⟩
        have : (x :: xs)[j] = xs.foldl max x := by simpa using hjv
        rw [vIx_ints h1c hjl, List.getD_eq_getElem?_getD, List.getElem?_eq_getElem hjl, Option.getD_some, this]
  have next : ∀ (l9 : Option D), mx ≠ 1 → wp (bMax [.ref st.length] s1) fun a st_2 => wp (mIndex st.length [a] st_2) fun a st_3 => wp (vIx (.ref st.length) a st_3) fun a_1 st_4 => wp (vSub a_1 (.int 1) st_4) fun a_2 st_5 => wp (vIx (.ref st.length) a st_5) fun a_3 st_6 => wp (vFdiv a_3 (.int 12) st_6) fun a_4 st_7 => wp (vSub a_2 a_4 st_7) fun a_5 st_8 =>
      wps (match D.ref st.length, a with
        | D.ref n_1, D.int k => match st_8[n_1]? with
          | some (SO.lst xs) => match ixN xs.length k with
            | some j => SRes.nx [some (.ref n), some c.enc, some (.int long), some (.ref st.length), l4, l5, l6, l7, some (.ref k1), l9, some a, none] (st_8.set n_1 (.lst (xs.set j a_5)))
            | none => SRes.stuck
          | x => SRes.stuck
        | x, x_1 => SRes.stuck) (R2I n m k st c long (i + 1)) (R2I n m k st c long (i + 1)) (R2I n m k st c long i) R := by
    intro l9 hone
    obtain ⟨M, j, e1, e2, e3, e4, e5, e6⟩ := pick hone
    have d12 := div_ok (b := 12) (by decide) (by decide)
    simp [-vIx_ref, e1, e2, e3, d12, h1', ixN_nat e4]
    refine ⟨ns.set j (M - 1 - M / 12), _, _, _, _, _, _, _, rfl, by rw [List.getElem?_set_self (lt_of_get h1')]; simp [List.map_set], M1.set (Nat.le_refl _), A1.set (by omega) (by omega), FitR.set (by omega) (by omega) j f⟩
  simp [-sthn_ite]
  split
  split
  · exact stay _ _ _
  all_goals
    rw [ea]
    simp
    simp at emx
    rw [emx]
    rw [swept_push rfl]
    by_cases hone : mx = 1
    · simp [hone]
      exact stay _ _ _
    · simp [hone]
      exact ⟨isLst_of h1', next _ hone⟩
end Ap

namespace Ap
open PySem L2 L3
theorem FitR_nil_done {done segs : List (Str × List Step)} (h : done ++ [] = segs) : done = segs := by simpa using h
theorem rounds_wp {n m : Nat} {k : Int} {st : Store} {c : Code} {long : Int} {Q : D → Store → Prop} (A : Rig n m k st) (hk : k ≤ 10 ^ 12) (hlg : long = 0 ∨ long = 1) (g : CodeG c)
    (h : ∀ (ns : List Int) st', Rig n m (k + 30) st' → Upd n m st st' → FitR c.segs ns → Q (.tup (ns.map .int)) st') : wp (F_law_rounds [.ref n, c.enc, .int long] st) Q := by
  refine wp_fn ?_
  have hn := A.ln
  have hm := A.lm
  have ec : ∀ s : Store, vIx c.enc (.int 1) s = .ok (.tup (c.segs.map encS)) s := fun s => by simp [Code.enc, encSegs]
  have hcs := g.segs
  simp [b_law_rounds, ec]
  refine wp_for (enc := encS) (xs := c.segs) (R1I n m k st c long) ⟨[], [], none, none, none, rfl, by simp, .push, A.push.mono (by simp), by simp, .nil⟩ ?_ ?_
  · rintro ρ s ⟨ns, done, l4, l5, l6, rfl, h1, M, A1, e, f⟩
    have hd := FitR_nil_done e
    subst hd
    refine ⟨trivial, ?_⟩
    simp [env12, show rangeD 0 200 = (List.range 200).map ofN from rangeD_zero 200]
    refine wp_forR (R2I n m k st c long) ⟨ns, _, _, _, _, _, _, _, rfl, h1, M, A1.mono (by omega), f⟩ ?_ ?_
    · rintro ρ s ⟨ns, l4, l5, l6, l7, l8, l9, l10, rfl, h1, M, A2, f⟩
      simp [env12, bTuple_ref h1]
      exact wp_sweptR A2 M hn hm (by simp) fun st' A3 U3 => h ns st' A3 U3 f
    · rintro i ρ s hi ⟨ns, l4, l5, l6, l7, l8, l9, l10, rfl, h1, M, A2, f⟩
      refine ⟨_, rfl, ?_⟩
      refine wps_mono (rounds2 (i := i) (l4 := l4) (l5 := l5) (l6 := l6) (l7 := some (.int i)) (l8 := l8) (l9 := l9) (l10 := l10) (k := k) (long := long) hn hm g h1 M A2 f) (fun _ _ q => q) (fun _ _ q => q) ?_ (fun _ _ q => q)
      rintro ρ s ⟨ns, l4, l5, l6, l7, l8, l9, l10, rfl, h1, M, A2, f⟩
      simp [env12, bTuple_ref h1]
      exact wp_sweptR A2 M hn hm (by simp) fun st' A3 U3 => h ns st' A3 U3 f
  · rintro x ys ρ s hx ⟨ns, done, l4, l5, l6, rfl, h1, M, A1, e, f⟩
    refine ⟨trivial, _, rfl, ?_⟩
    exact rounds1 (l6 := l6) hn hm hk hlg g h1 M A1 e f rfl
end Ap

namespace Ap
open PySem L2 L3
def RiN (x : D) (ρ : Envr) (s : Store) : Prop := ∃ (salt : Int) (rs : List Int) (l3 : Option D), ρ = [some x, some (.ref 0), some (.int salt), l3] ∧ s[0]? = some (.lst (rs.map .int)) ∧ (0 ≤ salt ∧ salt < 4294964167) ∧ (∀ r ∈ rs, 0 ≤ r) ∧ rs.length ≤ 63
def RiI (x : D) (cut : List Int) (ys : List Int) (ρ : Envr) (s : Store) : Prop := ∃ (salt : Int) (rs : List Int) (l3 : Option D), ρ = [some x, some (.ref 0), some (.int salt), l3] ∧ s[0]? = some (.lst (rs.map .int)) ∧ s[1]? = some (.lst (cut.map .int)) ∧ (0 ≤ salt ∧ salt < 4294964167) ∧ (∀ r ∈ rs, 0 ≤ r) ∧ rs.length + ys.length ≤ 63
theorem cut_ints {xs : List Int} (h : xs.length ≤ 63) : cutD (xs.map .int) none (some 63) = xs.map .int := by
  unfold cutD
  rw [HT.sIx_none, show (some 63 : Option Int) = some ((63 : Nat) : Int) from rfl, HT.sIx_nat, List.drop_zero, List.length_map, Nat.sub_zero, Nat.min_eq_right h, List.take_of_length_le (by simp)]
theorem dict_rig {m : Nat} {salt : Int} : dictOf [.inr "ropes", .inr "salt", .inr "knot"] [.ref m, .int salt, .int 0] = rigD m salt 0 := by
  have a1 : ¬ (("salt" : Str) = "ropes") := fun h => nk1 h.symm
  simp [dictOf, setD, rigD, nk1, nk2, nk3]
theorem rig_wp {ns : List Int} {Q : D → Store → Prop} (hns : ns.length ≤ 63) (h : ∀ n s, Rig n 0 0 s → Q (.ref n) s) : wp (F_law_rig [.rl (ns.map .int)] []) Q := by
  refine wp_fn ?_
  simp [b_law_rig]
  refine wps_mono (N := RiN (.rl (ns.map .int))) (C := fun _ _ => False) (B := fun _ _ => False) (R := fun _ _ => False) (wps_xswp ?_) ?_ (fun _ _ q => q.elim) (fun _ _ q => q.elim) (fun _ _ q => q.elim)
  · simp [vSlice, cut_ints hns, srcOf]
    have start : RiI (.rl (ns.map .int)) ns ns [some (.rl (ns.map .int)), some (.ref 0), some (.int 104395301), none] [.lst [], .lst (ns.map .int)] := ⟨_, [], none, rfl, rfl, rfl, by omega, by simp, by simpa using hns⟩
    refine wp_for (enc := D.int) (xs := ns) (RiI (.rl (ns.map .int)) ns) start ?_ ?_
    · rintro ρ s ⟨salt, rs, l3, rfl, h1, h2, h3, h4, h5⟩
      refine ⟨by simpa using h2, ⟨salt, rs, l3, rfl, h1, h3, h4, by simpa using h5⟩, ⟨salt, rs, l3, rfl, by rw [List.getElem?_take]; simpa using h1, h3, h4, by simpa using h5⟩⟩
    · rintro x ys ρ s hx ⟨salt, rs, l3, rfl, h1, h2, h3, h4, h5⟩
      simp at h5
      refine ⟨by simpa using h2, _, rfl, ?_⟩
      have w1 := mul_ok (a := salt) (b := 1307) (by omega) (by decide)
      have q1 : 0 ≤ (salt * 1307 + x % 1000000579 + 179) % 4294964167 ∧ (salt * 1307 + x % 1000000579 + 179) % 4294964167 < 4294964167 := by omega
      simp [w1]
      split
      · refine ⟨isLst_of h1, ?_⟩
        rw [mAppend_ev h1 (by simp; omega), wp_ok]
        refine ⟨_, rs ++ [_], _, rfl, by rw [List.getElem?_set_self (lt_of_get h1)]; simp; rfl, by rw [List.getElem?_set_ne (by decide)]; exact h2, q1, fun g hg => ?_, by simp; omega⟩
        rcases List.mem_append.mp hg with hg | hg
        · exact h4 g hg
        · rw [List.mem_singleton.mp hg]; exact Int.emod_nonneg _ (by decide)
      · exact ⟨_, rs, _, rfl, h1, h2, q1, h4, by omega⟩
  · rintro ρ s ⟨salt, rs, l3, rfl, h1, h3, h4, h5⟩
    have hl := lt_of_get h1
    simp
    refine wp_swept_up (by simp [D.low]) (h _ _ ⟨rs, salt, 0, ?_, ?_, by omega, h3, by omega, h4, by omega⟩)
    · rw [dict_rig]; simp
    · rw [List.getElem?_append_left hl]; exact h1
end Ap

namespace Ap
open PySem L2 L3
theorem FitR.of : ∀ {segs : List (Str × List Step)} {ns ns' : List Int}, FitR segs ns → ns'.length = ns.length → (∀ x ∈ ns', 1 ≤ x ∧ x ≤ 60) → FitR segs ns'
  | _, _, [], .nil, _, _ => .nil
  | _, _, x :: ns', .any _ _ t, hl, hb => .any (hb x (by simp)).1 (hb x (by simp)).2 (t.of (by simpa using hl) fun y hy => hb y (by simp [hy]))
  | _, _, ns', .once a t, hl, hb => .once a (t.of hl hb)
theorem ones_map {n : Nat} : (List.replicate n ([D.int 1])).flatten = (List.replicate n (1 : Int)).map .int := by simp
end Ap
namespace Ap
open PySem L2 L3
def swingP (many : Nat) : List Step := (List.range many).map fun k : Nat => Step.by 0 (((many : Int) - k) * (1 - 2 * ((k : Int) % 2)))
def LwI (x : D) (n : Nat) (long : Int) (i : Nat) (ρ : Envr) (s : Store) : Prop := ∃ l3 l4 l5 l6 : Option D, ρ = [some x, some (.ref n), some (.int long), l3, l4, l5, l6, none, none, none] ∧ Rig n 0 (10 + 20000 * i) s
def swingC (many : Nat) (w : Int) : Code := ⟨[("x", 4), ("y", 0)], [("any", swingP many ++ [.to 0 0, .to 0 0, .cut "a"]), ("once", [.by 1 w, .cut "a"])]⟩
theorem swing_ok {many : Nat} {w r : Int} (h1 : many ≤ 20) (hw : -1 ≤ w ∧ w ≤ 1) (hr : 1 ≤ r ∧ r ≤ 60) : CodeOK (swingC many w) [r] := by
  refine code_ok ⟨by simp [swingC], by simp [swingC], by simp [swingC], fun s hs => ?_⟩ (.any hr.1 hr.2 (.once (by decide +kernel) .nil))
  simp [swingC] at hs
  rcases hs with rfl | rfl
  · refine ⟨by simp [swingP]; omega, fun x hx => ?_⟩
    simp [swingP] at hx
    rcases hx with ⟨k, hk, rfl⟩ | rfl | rfl
    · refine ⟨by simp [swingC], ?_⟩
      rcases (show ((k : Int) % 2 = 0 ∨ (k : Int) % 2 = 1) by omega) with e | e <;> rw [e] <;> omega
    · exact ⟨by simp [swingC], by omega⟩
    · trivial
  · refine ⟨by simp, fun x hx => ?_⟩
    simp at hx
    rcases hx with rfl | rfl
    · exact ⟨by simp [swingC], by omega⟩
    · trivial
theorem law_true (ns : List Int) (hns : ns.length ≤ 63) : ∃ st, F_law [.rl (ns.map D.int)] [] = .ok (.bl true) st := by
  refine ok_of_wp ?_
  refine wp_fn ?_
  simp [b_law, -sLc_ev]
  refine rig_wp hns fun n s A => ?_
  try simp [-sLc_ev]
  refine take_wp A (by omega) (by omega) fun r1 s1 A1 U1 p1 q1 => ?_
  simp [-sLc_ev]
  have hlg : (if r1 = 5 then (1 : Int) else 0) = 0 ∨ (if r1 = 5 then (1 : Int) else 0) = 1 := by split <;> simp
  generalize (if r1 = 5 then (1 : Int) else 0) = lg at hlg
  have m1 := mul_ok (a := 2) (b := lg) (by decide) (by omega)
  refine ⟨m1, by omega, ?_⟩
  rw [rangeD_zero]
  have hc : (3 - 2 * lg).toNat ≤ 3 := by omega
  generalize (3 - 2 * lg).toNat = cnt at hc
  refine wp_forR (LwI (.rl (ns.map .int)) n lg) ⟨none, none, none, none, rfl, A1.mono (by omega)⟩ ?_ ?_
  · rintro ρ s2 ⟨l3, l4, l5, l6, rfl, A2⟩
    simp [-sLc_ev]
    refine take_wp A2 (by omega) (by omega) fun r2 s3 A3 U3 p3 q3 => ?_
    obtain ⟨a, rfl⟩ := Int.eq_ofNat_of_zero_le p3
    have hM : (1 + (a : Int)) = ((a + 1 : Nat) : Int) := by omega
    simp [-sLc_ev, hM]
    rw [sLc_itsA ofN (fun k : Nat => D.tup [.str "by", .int 0, .int ((((a + 1 : Nat) : Int) - k) * (1 - 2 * ((k : Int) % 2)))]) (List.range (a + 1)) ?_ ?_ ?_]
    · simp
      rw [vAdd_tup (by simp; omega), wp_ok]
      refine take_wp A3 (by omega) (by omega) fun r5 s5 A5 U5 p5 q5 => ?_
      have m5 := mul_ok (a := 2) (b := r5) (by decide) (by omega)
      simp [m5]
      refine take_wp A5 (by omega) (by omega) fun r6 s6 A6 U6 p6 q6 => ?_
      simp
      have H := held_ev (st := s6) (swing_ok (many := a + 1) (w := 1 - 2 * r5) (r := 1 + r6) (by omega) (by omega) (by omega))
      have eq : (swingC (a + 1) (1 - 2 * r5)).enc = .tup [.tup [.tup [.str "x", .int 4], .tup [.str "y", .int 0]], .tup [.tup [.str "any", .tup (List.map (fun k : Nat => D.tup [.str "by", .int 0, .int (((a : Int) + 1 - k) * (1 - 2 * ((k : Int) % 2)))]) (List.range (a + 1)) ++ [.tup [.str "to", .int 0, .int 0], .tup [.str "to", .int 0, .int 0], .tup [.str "cut", .str "a"]])], .tup [.str "once", .tup [.tup [.str "by", .int 1, .int (1 - 2 * r5)], .tup [.str "cut", .str "a"]]]]] := by
        simp [swingC, Code.enc, encB, encS, encSegs, encSteps, Step.enc, swingP]
      rw [eq] at H
      simp at H
      simp [H]
      exact wp_swept_any rfl
    · simp [rangeD_zero]
      omega
    · simp; have := sizeLine_eq; omega
    · intro x hx
      refine ⟨_, rfl, ?_⟩
      have hx := List.mem_range.mp hx
      have w1 := mul_ok (a := 2) (b := (x : Int) % 2) (by decide) (by omega)
      have w2 := mul_ok (a := ((a : Int) + 1) - x) (b := 1 - 2 * ((x : Int) % 2)) (by omega) (by omega)
      simp [ofN, w1, w2]
  · rintro i ρ s2 hi ⟨l3, l4, l5, l6, rfl, A2⟩
    refine ⟨_, rfl, ?_⟩
    simp [-sthn_ite, -wps_ite]
    refine code_wp A2 (by omega) hlg fun c s3 A3 U3 g => ?_
    try simp [-sthn_ite, -wps_ite]
    refine rounds_wp A3 (by omega) hlg g fun rs s4 A4 U4 f => ?_
    have fin : ∀ l5 l6 : Option D, LwI (.rl (ns.map .int)) n lg (i + 1) [some (.rl (ns.map .int)), some (.ref n), some (.int lg), some (.int i), some c.enc, l5, l6, none, none, none] s4 := fun l5 l6 => ⟨_, _, _, _, rfl, A4.mono (by omega)⟩
    have hcs := g.segs
    have hfl := f.len
    have h1 := held_ev (st := s4) (code_ok g (f.of (ns' := List.replicate rs.length 1) (by simp) (fun x hx => by rw [(List.mem_replicate.mp hx).2]; omega)))
    have hvm : vMul (.tup [.int 1]) (.int rs.length) s4 = .ok (.tup ((List.replicate rs.length (1 : Int)).map .int)) s4 := by rw [vMul_tup (by omega) (by simp)]; simp
    have f2 := f.of (ns' := rs.reverse) (by simp) (fun x hx => f.mem x (by simpa using hx))
    have ok2 := code_ok g f2
    have h2 := held_ev (st := s4) ok2
    simp [-sthn_ite, -wps_ite, held_ev (code_ok g f)]
    refine wps_mono (N := fun ρ s => s = s4 ∧ ρ = [some (.rl (ns.map .int)), some (.ref n), some (.int lg), some (.int i), some c.enc, some (.tup (rs.map .int)), l6, none, none, none]) (C := fun _ _ => False) (B := fun _ _ => False) (R := fun _ _ => False) ?_ ?_ (fun _ _ q => q.elim) (fun _ _ q => q.elim) (fun _ _ q => q.elim)
    · split
      · simp at h1
        simp [hvm, h1]
      · simp
    rintro ρ s ⟨rfl, rfl⟩
    simp [-sthn_ite, -wps_ite]
    by_cases hl2 : rs.length = 2
    · rcases hlg with rfl | rfl
      · have e2 : ((2 : Nat) : Int) = 2 := rfl
        obtain ⟨_, s5, er, k1, rfl, K1, e1⟩ := wp_ex (law_row_wp (Q := fun d s5 => ∃ k1, d = .ref k1 ∧ Keep s s5 ∧ s5[k1]? = some (.lst ((rowP c.segs rs.reverse).map Step.enc))) (x := .tup (rs.reverse.map .int)) (st := s) ok2.fits (by omega) (fun i r s h _ => by rw [vIx_tup, atI_ofNat, List.getElem?_map, h]; rfl) fun k1 s5 K1 hk1 e1 => ⟨k1, rfl, K1, e1⟩)
        have hb : bLen [.ref k1] s5 = .ok (.int ((rowP c.segs rs.reverse).map Step.enc).length) s5 := by simp [bLen, e1]
        simp [hl2, ← List.map_reverse, er, hb, K1.swept, h2]
        exact fin _ _
      · simp [hl2]; exact fin _ _
    · have : ¬ ((rs.length : Int) = 2) := by omega
      simp [this]
      exact fin _ _
end Ap

namespace Ap
open PySem L2 L3
/-! the end -/
def spLaw (K : PySem.W.Frag) : Sp := fun vs H Q _ => ∃ (a : Addr) (ns : List Int), vs = [.ref a] ∧ SqL K H a (ns.map V.int) ∧ ns.length ≤ 63 ∧ Only H ∧ ∀ H1, Q (.bl true) H1
theorem all_mk {l : PySem.W.OpenLaw} {w : World} {K : PySem.W.Frag} {h : Heap} {mg : Str → Option Value} {fa : Addr} (X : K.In h) (G : h.Ns mainGlobals mg) (hfa : mg "law" = some (.ref fa))
    (a_row_of : FnAt K "row_of" s_row_of)
    (a_way_of_step : FnAt K "way_of_step" s_way_of_step)
    (a_moves_of : FnAt K "moves_of" s_moves_of)
    (a_is_cut : FnAt K "is_cut" s_is_cut)
    (a_cuts_at : FnAt K "cuts_at" s_cuts_at)
    (a_way_of : FnAt K "way_of" s_way_of)
    (a_turns_at : FnAt K "turns_at" s_turns_at)
    (a_law_rig : FnAt K "_law_rig" s_law_rig)
    (a_law_take : FnAt K "_law_take" s_law_take)
    (a_law_pick : FnAt K "_law_pick" s_law_pick)
    (a_law_steps : FnAt K "_law_steps" s_law_steps)
    (a_law_code : FnAt K "_law_code" s_law_code)
    (a_law_row : FnAt K "_law_row" s_law_row)
    (a_law_rounds : FnAt K "_law_rounds" s_law_rounds)
    (a_law_walk : FnAt K "_law_walk" s_law_walk)
    (a_law_same : FnAt K "_law_same" s_law_same)
    (a_law_held : FnAt K "_law_held" s_law_held)
    (a_law : FnAt K "law" s_law)
    (z_abs : PySem.W.nsIn K mainGlobals "abs" = some none)
    (z_bool : PySem.W.nsIn K mainGlobals "bool" = some none)
    (z_int : PySem.W.nsIn K mainGlobals "int" = some none)
    (z_isinstance : PySem.W.nsIn K mainGlobals "isinstance" = some none)
    (z_len : PySem.W.nsIn K mainGlobals "len" = some none)
    (z_list : PySem.W.nsIn K mainGlobals "list" = some none)
    (z_max : PySem.W.nsIn K mainGlobals "max" = some none)
    (z_range : PySem.W.nsIn K mainGlobals "range" = some none)
    (z_str : PySem.W.nsIn K mainGlobals "str" = some none)
    (z_sum : PySem.W.nsIn K mainGlobals "sum" = some none)
    (z_tuple : PySem.W.nsIn K mainGlobals "tuple" = some none)
    : ∃ fd : FuncData, (∀ (s : Shared) (v : Value), BindsTo s fd ⟨[v], []⟩ [("script", v)]) ∧ ∀ base : Heap, K.In base → base.Ns mainGlobals mg → FnOk l.prog w K mg base CX0 23 fa fd ["script"] (spLaw K) := by
  have T : Txt K mg := ⟨PySem.W.mg_none_of X G z_abs, PySem.W.mg_none_of X G z_bool, PySem.W.mg_none_of X G z_int, PySem.W.mg_none_of X G z_isinstance, PySem.W.mg_none_of X G z_len, PySem.W.mg_none_of X G z_list, PySem.W.mg_none_of X G z_max, PySem.W.mg_none_of X G z_range, PySem.W.mg_none_of X G z_str, PySem.W.mg_none_of X G z_sum, PySem.W.mg_none_of X G z_tuple⟩
  obtain ⟨f_row_of, fd_row_of, F_row_of', m_row_of⟩ := a_row_of.get X G
  obtain ⟨f_way_of_step, fd_way_of_step, F_way_of_step', m_way_of_step⟩ := a_way_of_step.get X G
  obtain ⟨f_moves_of, fd_moves_of, F_moves_of', m_moves_of⟩ := a_moves_of.get X G
  obtain ⟨f_is_cut, fd_is_cut, F_is_cut', m_is_cut⟩ := a_is_cut.get X G
  obtain ⟨f_cuts_at, fd_cuts_at, F_cuts_at', m_cuts_at⟩ := a_cuts_at.get X G
  obtain ⟨f_way_of, fd_way_of, F_way_of', m_way_of⟩ := a_way_of.get X G
  obtain ⟨f_turns_at, fd_turns_at, F_turns_at', m_turns_at⟩ := a_turns_at.get X G
  obtain ⟨f_law_rig, fd_law_rig, F_law_rig', m_law_rig⟩ := a_law_rig.get X G
  obtain ⟨f_law_take, fd_law_take, F_law_take', m_law_take⟩ := a_law_take.get X G
  obtain ⟨f_law_pick, fd_law_pick, F_law_pick', m_law_pick⟩ := a_law_pick.get X G
  obtain ⟨f_law_steps, fd_law_steps, F_law_steps', m_law_steps⟩ := a_law_steps.get X G
  obtain ⟨f_law_code, fd_law_code, F_law_code', m_law_code⟩ := a_law_code.get X G
  obtain ⟨f_law_row, fd_law_row, F_law_row', m_law_row⟩ := a_law_row.get X G
  obtain ⟨f_law_rounds, fd_law_rounds, F_law_rounds', m_law_rounds⟩ := a_law_rounds.get X G
  obtain ⟨f_law_walk, fd_law_walk, F_law_walk', m_law_walk⟩ := a_law_walk.get X G
  obtain ⟨f_law_same, fd_law_same, F_law_same', m_law_same⟩ := a_law_same.get X G
  obtain ⟨f_law_held, fd_law_held, F_law_held', m_law_held⟩ := a_law_held.get X G
  obtain ⟨f_law, fd_law, F_law', m_law⟩ := a_law.get X G
  have e := hfa.symm.trans m_law
  cases e
  refine ⟨fd_law, fun s v => ?_, fun base _ _ => ?_⟩
  · obtain ⟨oc, od, kV, doc, pm, an, cdv, ct, osl, e1, _, _⟩ := F_law'.ex
    subst e1
    exact .of_eq rfl
  have B_row_of : Binds K fd_row_of ["code", "rounds"] [] := F_row_of'.binds (ps := ["code", "rounds"]) fun _ _ _ _ _ _ us hl => match us, hl with | [_, _], _ => rfl
  have K_row_of := ok_row_of (P := l.prog) (w := w) (base := base) T F_row_of'  
  have H_row_of : HasFn l.prog w K mg base "row_of" 1 ["code", "rounds"] F_row_of := ⟨f_row_of, fd_row_of, K_row_of, m_row_of, F_row_of'.kp, B_row_of⟩
  have B_way_of_step : Binds K fd_way_of_step ["step", "places"] [] := F_way_of_step'.binds (ps := ["step", "places"]) fun _ _ _ _ _ _ us hl => match us, hl with | [_, _], _ => rfl
  have K_way_of_step := ok_way_of_step (P := l.prog) (w := w) (base := base) T F_way_of_step'  
  have H_way_of_step : HasFn l.prog w K mg base "way_of_step" 1 ["step", "places"] F_way_of_step := ⟨f_way_of_step, fd_way_of_step, K_way_of_step, m_way_of_step, F_way_of_step'.kp, B_way_of_step⟩
  have B_moves_of : Binds K fd_moves_of ["code", "rounds"] [] := F_moves_of'.binds (ps := ["code", "rounds"]) fun _ _ _ _ _ _ us hl => match us, hl with | [_, _], _ => rfl
  have K_moves_of := ok_moves_of (P := l.prog) (w := w) (base := base) T F_moves_of' H_row_of H_way_of_step 
  have H_moves_of : HasFn l.prog w K mg base "moves_of" 2 ["code", "rounds"] F_moves_of := ⟨f_moves_of, fd_moves_of, K_moves_of, m_moves_of, F_moves_of'.kp, B_moves_of⟩
  have B_is_cut : Binds K fd_is_cut ["move"] [] := F_is_cut'.binds (ps := ["move"]) fun _ _ _ _ _ _ us hl => match us, hl with | [_], _ => rfl
  have K_is_cut := ok_is_cut (P := l.prog) (w := w) (base := base) T F_is_cut'  
  have H_is_cut : HasFn l.prog w K mg base "is_cut" 1 ["move"] F_is_cut := ⟨f_is_cut, fd_is_cut, K_is_cut, m_is_cut, F_is_cut'.kp, B_is_cut⟩
  have B_cuts_at : Binds K fd_cuts_at ["code", "rounds"] [] := F_cuts_at'.binds (ps := ["code", "rounds"]) fun _ _ _ _ _ _ us hl => match us, hl with | [_, _], _ => rfl
  have K_cuts_at := ok_cuts_at (P := l.prog) (w := w) (base := base) T F_cuts_at' H_moves_of H_is_cut 
  have H_cuts_at : HasFn l.prog w K mg base "cuts_at" 3 ["code", "rounds"] F_cuts_at := ⟨f_cuts_at, fd_cuts_at, K_cuts_at, m_cuts_at, F_cuts_at'.kp, B_cuts_at⟩
  have B_way_of : Binds K fd_way_of ["code", "rounds"] [] := F_way_of'.binds (ps := ["code", "rounds"]) fun _ _ _ _ _ _ us hl => match us, hl with | [_, _], _ => rfl
  have K_way_of := ok_way_of (P := l.prog) (w := w) (base := base) T F_way_of' H_moves_of H_is_cut 
  have H_way_of : HasFn l.prog w K mg base "way_of" 3 ["code", "rounds"] F_way_of := ⟨f_way_of, fd_way_of, K_way_of, m_way_of, F_way_of'.kp, B_way_of⟩
  have B_turns_at : Binds K fd_turns_at ["code", "rounds", "axis"] [] := F_turns_at'.binds (ps := ["code", "rounds", "axis"]) fun _ _ _ _ _ _ us hl => match us, hl with | [_, _, _], _ => rfl
  have K_turns_at := ok_turns_at (P := l.prog) (w := w) (base := base) T F_turns_at' H_moves_of H_is_cut 
  have H_turns_at : HasFn l.prog w K mg base "turns_at" 3 ["code", "rounds", "axis"] F_turns_at := ⟨f_turns_at, fd_turns_at, K_turns_at, m_turns_at, F_turns_at'.kp, B_turns_at⟩
  have B_law_rig : Binds K fd_law_rig ["script"] [] := F_law_rig'.binds (ps := ["script"]) fun _ _ _ _ _ _ us hl => match us, hl with | [_], _ => rfl
  have K_law_rig := ok_law_rig (P := l.prog) (w := w) (base := base) T F_law_rig'  
  have H_law_rig : HasFn l.prog w K mg base "_law_rig" 1 ["script"] F_law_rig := ⟨f_law_rig, fd_law_rig, K_law_rig, m_law_rig, F_law_rig'.kp, B_law_rig⟩
  have B_law_take : Binds K fd_law_take ["rig", "many"] [] := F_law_take'.binds (ps := ["rig", "many"]) fun _ _ _ _ _ _ us hl => match us, hl with | [_, _], _ => rfl
  have K_law_take := ok_law_take (P := l.prog) (w := w) (base := base) T F_law_take'  
  have H_law_take : HasFn l.prog w K mg base "_law_take" 1 ["rig", "many"] F_law_take := ⟨f_law_take, fd_law_take, K_law_take, m_law_take, F_law_take'.kp, B_law_take⟩
  have B_law_pick : Binds K fd_law_pick ["rig", "row"] [] := F_law_pick'.binds (ps := ["rig", "row"]) fun _ _ _ _ _ _ us hl => match us, hl with | [_, _], _ => rfl
  have K_law_pick := ok_law_pick (P := l.prog) (w := w) (base := base) T F_law_pick' H_law_take 
  have H_law_pick : HasFn l.prog w K mg base "_law_pick" 2 ["rig", "row"] F_law_pick := ⟨f_law_pick, fd_law_pick, K_law_pick, m_law_pick, F_law_pick'.kp, B_law_pick⟩
  have B_law_steps : Binds K fd_law_steps ["rig", "axes", "many", "tos"] [] := F_law_steps'.binds (ps := ["rig", "axes", "many", "tos"]) fun _ _ _ _ _ _ us hl => match us, hl with | [_, _, _, _], _ => rfl
  have K_law_steps := ok_law_steps (P := l.prog) (w := w) (base := base) T F_law_steps' H_law_take H_law_pick 
  have H_law_steps : HasFn l.prog w K mg base "_law_steps" 3 ["rig", "axes", "many", "tos"] F_law_steps := ⟨f_law_steps, fd_law_steps, K_law_steps, m_law_steps, F_law_steps'.kp, B_law_steps⟩
  have B_law_code : Binds K fd_law_code ["rig", "long"] [] := F_law_code'.binds (ps := ["rig", "long"]) fun _ _ _ _ _ _ us hl => match us, hl with | [_, _], _ => rfl
  have K_law_code := ok_law_code (P := l.prog) (w := w) (base := base) T F_law_code' H_law_take H_law_steps H_law_pick 
  have H_law_code : HasFn l.prog w K mg base "_law_code" 4 ["rig", "long"] F_law_code := ⟨f_law_code, fd_law_code, K_law_code, m_law_code, F_law_code'.kp, B_law_code⟩
  have B_law_row : Binds K fd_law_row ["code", "rounds"] [] := F_law_row'.binds (ps := ["code", "rounds"]) fun _ _ _ _ _ _ us hl => match us, hl with | [_, _], _ => rfl
  have K_law_row := ok_law_row (P := l.prog) (w := w) (base := base) T F_law_row'  
  have H_law_row : HasFn l.prog w K mg base "_law_row" 1 ["code", "rounds"] F_law_row := ⟨f_law_row, fd_law_row, K_law_row, m_law_row, F_law_row'.kp, B_law_row⟩
  have B_law_rounds : Binds K fd_law_rounds ["rig", "code", "long"] [] := F_law_rounds'.binds (ps := ["rig", "code", "long"]) fun _ _ _ _ _ _ us hl => match us, hl with | [_, _, _], _ => rfl
  have K_law_rounds := ok_law_rounds (P := l.prog) (w := w) (base := base) T F_law_rounds' H_law_take H_law_pick H_law_row 
  have H_law_rounds : HasFn l.prog w K mg base "_law_rounds" 3 ["rig", "code", "long"] F_law_rounds := ⟨f_law_rounds, fd_law_rounds, K_law_rounds, m_law_rounds, F_law_rounds'.kp, B_law_rounds⟩
  have B_law_walk : Binds K fd_law_walk ["code", "row"] [] := F_law_walk'.binds (ps := ["code", "row"]) fun _ _ _ _ _ _ us hl => match us, hl with | [_, _], _ => rfl
  have K_law_walk := ok_law_walk (P := l.prog) (w := w) (base := base) T F_law_walk'  
  have H_law_walk : HasFn l.prog w K mg base "_law_walk" 1 ["code", "row"] F_law_walk := ⟨f_law_walk, fd_law_walk, K_law_walk, m_law_walk, F_law_walk'.kp, B_law_walk⟩
  have B_law_same : Binds K fd_law_same ["told", "due"] [] := F_law_same'.binds (ps := ["told", "due"]) fun _ _ _ _ _ _ us hl => match us, hl with | [_, _], _ => rfl
  have K_law_same := ok_law_same (P := l.prog) (w := w) (base := base) T F_law_same' m_law_same B_law_same   20
  have H_law_same : HasFn l.prog w K mg base "_law_same" 21 ["told", "due"] (F_law_same 20) := ⟨f_law_same, fd_law_same, K_law_same, m_law_same, F_law_same'.kp, B_law_same⟩
  have B_law_held : Binds K fd_law_held ["code", "rounds"] [] := F_law_held'.binds (ps := ["code", "rounds"]) fun _ _ _ _ _ _ us hl => match us, hl with | [_, _], _ => rfl
  have K_law_held := ok_law_held (P := l.prog) (w := w) (base := base) T F_law_held' H_law_row H_law_walk H_law_same H_row_of H_cuts_at H_way_of H_turns_at 
  have H_law_held : HasFn l.prog w K mg base "_law_held" 22 ["code", "rounds"] F_law_held := ⟨f_law_held, fd_law_held, K_law_held, m_law_held, F_law_held'.kp, B_law_held⟩
  have B_law : Binds K fd_law ["script"] [] := F_law'.binds (ps := ["script"]) fun _ _ _ _ _ _ us hl => match us, hl with | [_], _ => rfl
  have K_law := ok_law (P := l.prog) (w := w) (base := base) T F_law' H_law_rig H_law_take H_law_code H_law_rounds H_law_held H_law_row 
  exact K_law.imp fun vs H Q E h => law_sp law_true h
theorem walk {l : PySem.W.OpenLaw} {q : Program} {loose : List Str} {XP : (Str → Option Value) → Heap → Prop} {YP : World → Heap → Prop} {d : DefRec} {K : Params → PySem.W.Frag} (hn : l.most = some 63) (hdf : d.params.defaults = [])
    (hY : ∀ (w : World) (h : Heap), YP w h → (K w.params).In h)
    (F : ∀ (w : World) (mg : Str → Option Value) (fa : Addr) (h : Heap), (K w.params).In h → h.Ns mainGlobals mg → mg d.name = some (.ref fa) →
      ∃ fd : FuncData, (∀ (s : Shared) (u : Value), BindsTo s fd ⟨[u], []⟩ [("script", u)]) ∧ ∀ base : Heap, (K w.params).In base → base.Ns mainGlobals mg → FnOk l.prog w (K w.params) mg base CX0 23 fa fd ["script"] (spLaw (K w.params))) :
    PySem.W.WalkO q loose XP YP l.row.toRowW d [] (fun f vs => PySem.call f vs) :=
  L2.walk_of (n := 63) (k := 23) (x := "script") (CX := fun _ => CX0) (sp := fun w => spLaw (K w.params)) hn (by decide) hdf ⟨rfl, by decide, by decide⟩ hY F (fun _ _ a ns hl hO hS => ⟨a, ns, rfl, hS, hl, hO, fun _ => rfl⟩) fun _ _ _ _ _ z => z
end Ap
open PySem PySem.W PyProof.Rows
set_option maxRecDepth 100000 in
set_option maxHeartbeats 0 in
theorem PySem.Challenge.cw_anyplay_k07_rows_holds : PySem.Challenge.rw_anyplay_k07_rows.Holds := by
  w_on; o_law; k_head; (case hw => w_witness2)
  k_fill
  refine Ap.walk (l := PySem.Challenge.rw_anyplay_k07_rows) rfl rfl (fun w h Y => PySem.W.kIn_of Y) ?F
  case F =>
    intro w mg fa h KX G hmg
    refine' Ap.all_mk KX G hmg ?a_row_of ?a_way_of_step ?a_moves_of ?a_is_cut ?a_cuts_at ?a_way_of ?a_turns_at ?a_law_rig ?a_law_take ?a_law_pick ?a_law_steps ?a_law_code ?a_law_row ?a_law_rounds ?a_law_walk ?a_law_same ?a_law_held ?a_law ?z_abs ?z_bool ?z_int ?z_isinstance ?z_len ?z_list ?z_max ?z_range ?z_str ?z_sum ?z_tuple
    (case a_row_of => refine' L3.FnAt.mk ?a ?l ?c ?k; (case a => k_is); (case l => k_is); (case c => k_is); (case k => k_is))
    (case a_way_of_step => refine' L3.FnAt.mk ?a ?l ?c ?k; (case a => k_is); (case l => k_is); (case c => k_is); (case k => k_is))
    (case a_moves_of => refine' L3.FnAt.mk ?a ?l ?c ?k; (case a => k_is); (case l => k_is); (case c => k_is); (case k => k_is))
    (case a_is_cut => refine' L3.FnAt.mk ?a ?l ?c ?k; (case a => k_is); (case l => k_is); (case c => k_is); (case k => k_is))
    (case a_cuts_at => refine' L3.FnAt.mk ?a ?l ?c ?k; (case a => k_is); (case l => k_is); (case c => k_is); (case k => k_is))
    (case a_way_of => refine' L3.FnAt.mk ?a ?l ?c ?k; (case a => k_is); (case l => k_is); (case c => k_is); (case k => k_is))
    (case a_turns_at => refine' L3.FnAt.mk ?a ?l ?c ?k; (case a => k_is); (case l => k_is); (case c => k_is); (case k => k_is))
    (case a_law_rig => refine' L3.FnAt.mk ?a ?l ?c ?k; (case a => k_is); (case l => k_is); (case c => k_is); (case k => k_is))
    (case a_law_take => refine' L3.FnAt.mk ?a ?l ?c ?k; (case a => k_is); (case l => k_is); (case c => k_is); (case k => k_is))
    (case a_law_pick => refine' L3.FnAt.mk ?a ?l ?c ?k; (case a => k_is); (case l => k_is); (case c => k_is); (case k => k_is))
    (case a_law_steps => refine' L3.FnAt.mk ?a ?l ?c ?k; (case a => k_is); (case l => k_is); (case c => k_is); (case k => k_is))
    (case a_law_code => refine' L3.FnAt.mk ?a ?l ?c ?k; (case a => k_is); (case l => k_is); (case c => k_is); (case k => k_is))
    (case a_law_row => refine' L3.FnAt.mk ?a ?l ?c ?k; (case a => k_is); (case l => k_is); (case c => k_is); (case k => k_is))
    (case a_law_rounds => refine' L3.FnAt.mk ?a ?l ?c ?k; (case a => k_is); (case l => k_is); (case c => k_is); (case k => k_is))
    (case a_law_walk => refine' L3.FnAt.mk ?a ?l ?c ?k; (case a => k_is); (case l => k_is); (case c => k_is); (case k => k_is))
    (case a_law_same => refine' L3.FnAt.mk ?a ?l ?c ?k; (case a => k_is); (case l => k_is); (case c => k_is); (case k => k_is))
    (case a_law_held => refine' L3.FnAt.mk ?a ?l ?c ?k; (case a => k_is); (case l => k_is); (case c => k_is); (case k => k_is))
    (case a_law => refine' L3.FnAt.mk ?a ?l ?c ?k; (case a => k_is); (case l => k_is); (case c => k_is); (case k => k_is))
    (case z_abs => k_is)
    (case z_bool => k_is)
    (case z_int => k_is)
    (case z_isinstance => k_is)
    (case z_len => k_is)
    (case z_list => k_is)
    (case z_max => k_is)
    (case z_range => k_is)
    (case z_str => k_is)
    (case z_sum => k_is)
    (case z_tuple => k_is)

