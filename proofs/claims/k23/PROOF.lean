import PyProof.Rows.All
import Wide.All
import OpenK.AllK
import Wide.FinOn
import HandS.ForMost
import HandS.ForExc
import HandS.Flow
import HandS.Style
import HandS.Wide
import HandS.TupAny
import HandS.TupMul
import HandS.IsInst
import HandS.Zip
import KE.KTupSum
import PySem.Challenge.RW_anyplay_k23_told_rounds_and_drifts
set_option Elab.async false
set_option linter.all false
set_option maxRecDepth 100000
/-! L3: a layer of plain data over the hand layer: tuples as values, lists by numbers in a store, a def as a function. -/
namespace L3
open PySem PySem.Spec PyProof.Rows L2

/-- plain data: tuples by value, what may change by its number in the store -/
inductive D where
  | non | bl (b : Bool) | int (i : Int) | str (x : Str) | tup (xs : List D) | rl (xs : List D) | ref (n : Nat)

/-- an object of the store -/
inductive SO where
  | lst (xs : List D)
  | dK (kvs : List (Key × D))
  | ins (C : Addr) (fs : List (Str × D))
abbrev Store := List SO
abbrev Envr := List (Option D)
structure Exn where
  cls : Addr
  fs : List (Str × D)
inductive Res (α : Type) where
  | ok (a : α) (st : Store)
  | exc (x : Exn) (st : Store)
  | stuck
def Res.bind {α β : Type} (r : Res α) (f : α → Store → Res β) : Res β :=
  match r with
  | .ok a st => f a st
  | .exc x st => .exc x st
  | .stuck => .stuck
theorem bind_ok {α β : Type} {a : α} {st : Store} {f : α → Store → Res β} : (Res.ok a st).bind f = f a st := rfl
theorem bind_exc {α β : Type} {x : Exn} {st : Store} {f : α → Store → Res β} : (Res.exc x st : Res α).bind f = .exc x st := rfl
theorem bind_stuck {α β : Type} {f : α → Store → Res β} : (Res.stuck : Res α).bind f = .stuck := rfl

/-! ### what stands for what -/
def TupAt (K : PySem.W.Frag) (H : Hp) (μ : List Addr) (a : Addr) (vs : List V) : Prop := (Rd H a (.tup vs) ∧ a ∉ μ) ∨
    ∃ (o : Obj) (its : Array Value) (n : Nat), K.lookup a = some o ∧ o.cls = .type "tuple" ∧ o.data = .seq its n ∧ its.size ≤ sizeLine ∧ Vals vs its.toList
def RlAt (K : PySem.W.Frag) (H : Hp) (μ : List Addr) (a : Addr) (vs : List V) : Prop := ((∃ o, H a = some (.frz o (.lst vs))) ∧ a ∉ μ) ∨
    ∃ (o : Obj) (its : Array Value) (n : Nat), K.lookup a = some o ∧ o.cls = .type "list" ∧ o.dict = none ∧ o.data = .seq its n ∧ its.size ≤ sizeLine ∧ Vals vs its.toList
theorem TupAt.sq {K : PySem.W.Frag} {H : Hp} {μ : List Addr} {a : Addr} {vs : List V} (h : TupAt K H μ a vs) : SqT K H a vs := h.elim (fun h => .inl h.1) .inr
theorem RlAt.sq {K : PySem.W.Frag} {H : Hp} {μ : List Addr} {a : Addr} {vs : List V} (h : RlAt K H μ a vs) : SqL K H a vs := h.elim (fun h => .inl (.inr h.1)) .inr
mutual
inductive Rep (K : PySem.W.Frag) (H : Hp) (μ : List Addr) : D → V → Prop
  | non : Rep K H μ .non .non
  | bl (b : Bool) : Rep K H μ (.bl b) (.bl b)
  | int (i : Int) : Rep K H μ (.int i) (.int i)
  | str (x : Str) : Rep K H μ (.str x) (.str x)
  | tup {a : Addr} {vs : List V} {ds : List D} : TupAt K H μ a vs → Reps K H μ ds vs → Rep K H μ (.tup ds) (.ref a)
  | rl {a : Addr} {vs : List V} {ds : List D} : RlAt K H μ a vs → Reps K H μ ds vs → Rep K H μ (.rl ds) (.ref a)
  | ref {n : Nat} {a : Addr} : μ[n]? = some a → Rep K H μ (.ref n) (.ref a)
inductive Reps (K : PySem.W.Frag) (H : Hp) (μ : List Addr) : List D → List V → Prop
  | nil : Reps K H μ [] []
  | cons {d : D} {v : V} {ds : List D} {vs : List V} : Rep K H μ d v → Reps K H μ ds vs → Reps K H μ (d :: ds) (v :: vs)
end
/-- what a step may do -/
structure Ext (H : Hp) (μ : List Addr) (H' : Hp) (μ' : List Addr) : Prop where
  pre : ∃ more, μ' = μ ++ more ∧ ∀ a ∈ more, H a = none
  keep : ∀ a o, H a = some o → a ∉ μ → H' a = some o
  live : ∀ a, H' a = none → H a = none
section
variable {K : PySem.W.Frag} {H H1 H2 H' : Hp} {μ μ1 μ2 μ' : List Addr}
theorem Ext.refl (H : Hp) (μ : List Addr) : Ext H μ H μ := ⟨⟨[], by simp, by simp⟩, fun _ _ h _ => h, fun _ h => h⟩
theorem Ext.trans (a : Ext H μ H1 μ1) (b : Ext H1 μ1 H2 μ2) : Ext H μ H2 μ2 := by
  obtain ⟨m1, e1, f1⟩ := a.pre
  obtain ⟨m2, e2, f2⟩ := b.pre
  refine ⟨⟨m1 ++ m2, by rw [e2, e1, List.append_assoc], fun x hx => ?_⟩, fun x o hx hn => ?_, fun x h => a.live x (b.live x h)⟩
  · rcases List.mem_append.mp hx with h | h
    · exact f1 x h
    · exact a.live x (f2 x h)
  · refine b.keep x o (a.keep x o hx hn) ?_
    rw [e1]
    intro q
    rcases List.mem_append.mp q with h | h
    · exact hn h
    · rw [f1 x h] at hx; cases hx
theorem Ext.not_mem (x : Ext H μ H' μ') {a : Addr} {o : HO} (h : H a = some o) (n : a ∉ μ) : a ∉ μ' := by
  obtain ⟨m, e, f⟩ := x.pre
  rw [e]
  intro q
  rcases List.mem_append.mp q with z | z
  · exact n z
  · rw [f a z] at h; cases h
theorem Ext.get (x : Ext H μ H' μ') {n : Nat} {a : Addr} (h : μ[n]? = some a) : μ'[n]? = some a := by
  obtain ⟨m, e, f⟩ := x.pre
  rw [e, List.getElem?_append_left (List.getElem?_eq_some_iff.mp h).1]
  exact h
theorem TupAt.ext {a : Addr} {vs : List V} (x : Ext H μ H' μ') (h : TupAt K H μ a vs) : TupAt K H' μ' a vs := by
  rcases h with ⟨h, n⟩ | h
  · refine .inl ?_
    rcases h with h | ⟨o, h⟩
    · exact ⟨.inl (x.keep _ _ h n), x.not_mem h n⟩
    · exact ⟨.inr ⟨o, x.keep _ _ h n⟩, x.not_mem h n⟩
  · exact .inr h
theorem RlAt.ext {a : Addr} {vs : List V} (x : Ext H μ H' μ') (h : RlAt K H μ a vs) : RlAt K H' μ' a vs := by
  rcases h with ⟨⟨o, h⟩, n⟩ | h
  · exact .inl ⟨⟨o, x.keep _ _ h n⟩, x.not_mem h n⟩
  · exact .inr h
mutual
theorem Rep.ext (x : Ext H μ H' μ') : ∀ {d : D} {v : V}, Rep K H μ d v → Rep K H' μ' d v
  | _, _, .non => .non
  | _, _, .bl b => .bl b
  | _, _, .int i => .int i
  | _, _, .str i => .str i
  | _, _, .tup h r => .tup (h.ext x) (Reps.ext x r)
  | _, _, .rl h r => .rl (h.ext x) (Reps.ext x r)
  | _, _, .ref h => .ref (x.get h)
theorem Reps.ext (x : Ext H μ H' μ') : ∀ {ds : List D} {vs : List V}, Reps K H μ ds vs → Reps K H' μ' ds vs
  | _, _, .nil => .nil
  | _, _, .cons r t => .cons (Rep.ext x r) (Reps.ext x t)
end
/-! the numbers below n alone -/
mutual
def D.low (n : Nat) : D → Bool
  | .non => true | .bl _ => true | .int _ => true | .str _ => true
  | .tup xs => D.lows n xs
  | .rl xs => D.lows n xs
  | .ref k => decide (k < n)
def D.lows (n : Nat) : List D → Bool
  | [] => true
  | d :: ds => D.low n d && D.lows n ds
end
mutual
theorem Rep.cut {m : List Addr} : ∀ {d : D} {v : V}, Rep K H (μ ++ m) d v → d.low μ.length = true → Rep K H μ d v
  | _, _, .non, _ => .non
  | _, _, .bl b, _ => .bl b
  | _, _, .int i, _ => .int i
  | _, _, .str i, _ => .str i
  | _, _, .tup h r, q => .tup (h.elim (fun z => .inl ⟨z.1, fun y => z.2 (List.mem_append_left _ y)⟩) .inr) (Reps.cut r q)
  | _, _, .rl h r, q => .rl (h.elim (fun z => .inl ⟨z.1, fun y => z.2 (List.mem_append_left _ y)⟩) .inr) (Reps.cut r q)
  | _, _, .ref h, q => .ref (by rw [List.getElem?_append_left (of_decide_eq_true q)] at h; exact h)
theorem Reps.cut {m : List Addr} : ∀ {ds : List D} {vs : List V}, Reps K H (μ ++ m) ds vs → D.lows μ.length ds = true → Reps K H μ ds vs
  | _, _, .nil, _ => .nil
  | _, _, .cons r t, q => .cons (Rep.cut r (Bool.and_eq_true_iff.mp q).1) (Reps.cut t (Bool.and_eq_true_iff.mp q).2)
end
mutual
theorem Rep.lowD : ∀ {d : D} {v : V}, Rep K H μ d v → d.low μ.length = true
  | _, _, .non => rfl
  | _, _, .bl b => rfl
  | _, _, .int i => rfl
  | _, _, .str i => rfl
  | _, _, .tup h r => Reps.lows r
  | _, _, .rl h r => Reps.lows r
  | _, _, .ref h => decide_eq_true (List.getElem?_eq_some_iff.mp h).1
theorem Reps.lows : ∀ {ds : List D} {vs : List V}, Reps K H μ ds vs → D.lows μ.length ds = true
  | _, _, .nil => rfl
  | _, _, .cons r t => Bool.and_eq_true_iff.mpr ⟨Rep.lowD r, Reps.lows t⟩
end
theorem Reps.length : ∀ {ds : List D} {vs : List V}, Reps K H μ ds vs → ds.length = vs.length
  | _, _, .nil => rfl
  | _, _, .cons _ t => congrArg (· + 1) (Reps.length t)
/-! a list that is not in the store changes -/
theorem TupAt.chg {L : Addr} {xs ys : List V} (hL : H L = some (.lst xs)) {a : Addr} {vs : List V} (h : TupAt K H μ a vs) : TupAt K (upd H L (.lst ys)) μ a vs := by
  rcases h with ⟨h, n⟩ | h
  · refine .inl ⟨?_, n⟩
    rcases h with h | ⟨o, h⟩
    · exact .inl (by rw [upd_ne (ne_of h hL (fun z => nomatch z))]; exact h)
    · exact .inr ⟨o, by rw [upd_ne (ne_of h hL (fun z => nomatch z))]; exact h⟩
  · exact .inr h
theorem RlAt.chg {L : Addr} {xs ys : List V} (hL : H L = some (.lst xs)) {a : Addr} {vs : List V} (h : RlAt K H μ a vs) : RlAt K (upd H L (.lst ys)) μ a vs := by
  rcases h with ⟨⟨o, h⟩, n⟩ | h
  · exact .inl ⟨⟨o, by rw [upd_ne (ne_of h hL (fun z => nomatch z))]; exact h⟩, n⟩
  · exact .inr h
mutual
theorem Rep.chg {L : Addr} {xs ys : List V} (hL : H L = some (.lst xs)) : ∀ {d : D} {v : V}, Rep K H μ d v → Rep K (upd H L (.lst ys)) μ d v
  | _, _, .non => .non
  | _, _, .bl b => .bl b
  | _, _, .int i => .int i
  | _, _, .str i => .str i
  | _, _, .tup h r => .tup (h.chg hL) (Reps.chg hL r)
  | _, _, .rl h r => .rl (h.chg hL) (Reps.chg hL r)
  | _, _, .ref h => .ref h
theorem Reps.chg {L : Addr} {xs ys : List V} (hL : H L = some (.lst xs)) : ∀ {ds : List D} {vs : List V}, Reps K H μ ds vs → Reps K (upd H L (.lst ys)) μ ds vs
  | _, _, .nil => .nil
  | _, _, .cons r t => .cons (Rep.chg hL r) (Reps.chg hL t)
end
/-! a list enters the store -/
theorem TupAt.more {L : Addr} {xs : List V} (hL : H L = some (.lst xs)) {a : Addr} {vs : List V} (h : TupAt K H μ a vs) : TupAt K H (μ ++ [L]) a vs := by
  rcases h with ⟨h, n⟩ | h
  · refine .inl ⟨h, fun q => ?_⟩
    rcases List.mem_append.mp q with q | q
    · exact n q
    · have : a = L := by simpa using q
      subst this
      rcases h with h | ⟨o, h⟩
      · rw [hL] at h; cases h
      · rw [hL] at h; cases h
  · exact .inr h
theorem RlAt.more {L : Addr} {xs : List V} (hL : H L = some (.lst xs)) {a : Addr} {vs : List V} (h : RlAt K H μ a vs) : RlAt K H (μ ++ [L]) a vs := by
  rcases h with ⟨⟨o, h⟩, n⟩ | h
  · refine .inl ⟨⟨o, h⟩, fun q => ?_⟩
    rcases List.mem_append.mp q with q | q
    · exact n q
    · have : a = L := by simpa using q
      subst this
      rw [hL] at h; cases h
  · exact .inr h
mutual
theorem Rep.more {L : Addr} {xs : List V} (hL : H L = some (.lst xs)) : ∀ {d : D} {v : V}, Rep K H μ d v → Rep K H (μ ++ [L]) d v
  | _, _, .non => .non
  | _, _, .bl b => .bl b
  | _, _, .int i => .int i
  | _, _, .str i => .str i
  | _, _, .tup h r => .tup (h.more hL) (Reps.more hL r)
  | _, _, .rl h r => .rl (h.more hL) (Reps.more hL r)
  | _, _, .ref h => .ref (by rw [List.getElem?_append_left (List.getElem?_eq_some_iff.mp h).1]; exact h)
theorem Reps.more {L : Addr} {xs : List V} (hL : H L = some (.lst xs)) : ∀ {ds : List D} {vs : List V}, Reps K H μ ds vs → Reps K H (μ ++ [L]) ds vs
  | _, _, .nil => .nil
  | _, _, .cons r t => .cons (Rep.more hL r) (Reps.more hL t)
end
theorem Reps.get : ∀ {ds : List D} {vs : List V} {i : Nat} {d : D}, Reps K H μ ds vs → ds[i]? = some d → ∃ v, vs[i]? = some v ∧ Rep K H μ d v
  | _, _, _, _, .nil, e => by simp at e
  | _, _, 0, _, .cons r _, e => by simp at e; subst e; exact ⟨_, rfl, r⟩
  | _, _, i + 1, d, .cons _ t, e => by
    obtain ⟨u, h1, h2⟩ := Reps.get (i := i) (d := d) t (by simpa using e)
    exact ⟨u, by simpa using h1, h2⟩
theorem Reps.getV : ∀ {ds : List D} {vs : List V} {i : Nat} {v : V}, Reps K H μ ds vs → vs[i]? = some v → ∃ d, ds[i]? = some d ∧ Rep K H μ d v
  | _, _, _, _, .nil, e => by simp at e
  | _, _, 0, _, .cons r _, e => by simp at e; subst e; exact ⟨_, rfl, r⟩
  | _, _, i + 1, d, .cons _ t, e => by
    obtain ⟨u, h1, h2⟩ := Reps.getV (i := i) (v := d) t (by simpa using e)
    exact ⟨u, by simpa using h1, h2⟩
theorem Reps.append : ∀ {ds es : List D} {vs ws : List V}, Reps K H μ ds vs → Reps K H μ es ws → Reps K H μ (ds ++ es) (vs ++ ws)
  | _, _, _, _, .nil, s => s
  | _, _, _, _, .cons r t, s => .cons r (Reps.append t s)
theorem Reps.set {d : D} {v : V} (r : Rep K H μ d v) : ∀ {ds : List D} {vs : List V} (i : Nat), Reps K H μ ds vs → Reps K H μ (ds.set i d) (vs.set i v)
  | _, _, _, .nil => .nil
  | _, _, 0, .cons _ t => .cons r t
  | _, _, i + 1, .cons q t => .cons q (Reps.set r i t)
theorem Reps.take : ∀ {ds : List D} {vs : List V} (n : Nat), Reps K H μ ds vs → Reps K H μ (ds.take n) (vs.take n)
  | _, _, 0, _ => .nil
  | _, _, _ + 1, .nil => .nil
  | _, _, n + 1, .cons r t => .cons r (Reps.take n t)
theorem Reps.drop : ∀ {ds : List D} {vs : List V} (n : Nat), Reps K H μ ds vs → Reps K H μ (ds.drop n) (vs.drop n)
  | _, _, 0, r => r
  | _, _, _ + 1, .nil => .nil
  | _, _, n + 1, .cons _ t => Reps.drop n t
theorem Reps.eraseIdx : ∀ {ds : List D} {vs : List V} (i : Nat), Reps K H μ ds vs → Reps K H μ (ds.eraseIdx i) (vs.eraseIdx i)
  | _, _, _, .nil => .nil
  | _, _, 0, .cons _ t => t
  | _, _, i + 1, .cons r t => .cons r (Reps.eraseIdx i t)
theorem Reps.dropLast {ds : List D} {vs : List V} (h : Reps K H μ ds vs) : Reps K H μ ds.dropLast vs.dropLast := by
  rw [List.dropLast_eq_take, List.dropLast_eq_take, h.length]
  exact h.take _
theorem Reps.reverse {ds : List D} {vs : List V} (h : Reps K H μ ds vs) : Reps K H μ ds.reverse vs.reverse := by
  induction ds generalizing vs with
  | nil => cases h; exact .nil
  | cons d ds ih =>
    cases h with
    | cons r t => rw [List.reverse_cons, List.reverse_cons]; exact (ih t).append (.cons r .nil)
theorem Reps.rep {ds : List D} {vs : List V} (h : Reps K H μ ds vs) : ∀ k : Nat, Reps K H μ (List.replicate k ds).flatten (List.replicate k vs).flatten
  | 0 => .nil
  | k + 1 => by rw [List.replicate_succ, List.replicate_succ, List.flatten_cons, List.flatten_cons]; exact h.append (Reps.rep h k)
theorem Reps.ints : ∀ {ns : List Int} {vs : List V}, Reps K H μ (ns.map D.int) vs → vs = ns.map V.int
  | [], _, .nil => rfl
  | _ :: _, _, .cons r t => by cases r; rw [Reps.ints t]; rfl
theorem Reps.strs : ∀ {ns : List Str} {vs : List V}, Reps K H μ (ns.map D.str) vs → vs = ns.map V.str
  | [], _, .nil => rfl
  | _ :: _, _, .cons r t => by cases r; rw [Reps.strs t]; rfl
theorem reps_ints : ∀ (ns : List Int), Reps K H μ (ns.map D.int) (ns.map V.int)
  | [] => .nil
  | _ :: t => .cons (.int _) (reps_ints t)
theorem reps_strs : ∀ (ns : List Str), Reps K H μ (ns.map D.str) (ns.map V.str)
  | [] => .nil
  | _ :: t => .cons (.str _) (reps_strs t)

/-! ### the store -/
inductive RepF (K : PySem.W.Frag) (H : Hp) (μ : List Addr) {κ : Type} : List (κ × D) → List (κ × V) → Prop
  | nil : RepF K H μ [] []
  | cons {k : κ} {d : D} {v : V} {ds : List (κ × D)} {vs : List (κ × V)} : Rep K H μ d v → RepF K H μ ds vs → RepF K H μ ((k, d) :: ds) ((k, v) :: vs)
theorem RepF.ext {κ : Type} (x : Ext H μ H' μ') : ∀ {ds : List (κ × D)} {vs : List (κ × V)}, RepF K H μ ds vs → RepF K H' μ' ds vs
  | _, _, .nil => .nil
  | _, _, .cons r t => .cons (r.ext x) (RepF.ext x t)
def RepO (K : PySem.W.Frag) (H : Hp) (μ : List Addr) : SO → Addr → Prop
  | .lst ds, a => ∃ vs, H a = some (.lst vs) ∧ Reps K H μ ds vs
  | .dK kvs, a => ∃ ws, H a = some (.dK ws) ∧ RepF K H μ kvs ws
  | .ins C fs, a => ∃ dx ws, H a = some (.ins C dx ws) ∧ RepF K H μ fs ws
def fpure {κ : Type} (n : Nat) : List (κ × D) → Bool
  | [] => true
  | p :: r => p.2.low n && fpure n r
def SO.low (n : Nat) : SO → Bool
  | .lst ds => D.lows n ds
  | .dK kvs => fpure n kvs
  | .ins _ fs => fpure n fs
theorem RepF.cut {κ : Type} {m : List Addr} : ∀ {ds : List (κ × D)} {vs : List (κ × V)}, RepF K H (μ ++ m) ds vs → fpure μ.length ds = true → RepF K H μ ds vs
  | _, _, .nil, _ => .nil
  | _, _, .cons r t, q => .cons (r.cut (Bool.and_eq_true_iff.mp q).1) (RepF.cut t (Bool.and_eq_true_iff.mp q).2)
theorem RepO.cut {m : List Addr} {o : SO} {a : Addr} (h : RepO K H (μ ++ m) o a) (q : o.low μ.length = true) : RepO K H μ o a := by
  cases o with
  | lst ds => obtain ⟨vs, e, r⟩ := h; exact ⟨vs, e, r.cut q⟩
  | dK ds => obtain ⟨vs, e, r⟩ := h; exact ⟨vs, e, r.cut q⟩
  | ins C ds => obtain ⟨dx, vs, e, r⟩ := h; exact ⟨dx, vs, e, r.cut q⟩
theorem RepO.live {o : SO} {a : Addr} (h : RepO K H μ o a) : ∃ u, H a = some u := by
  cases o with
  | lst ds => obtain ⟨vs, e, r⟩ := h; exact ⟨_, e⟩
  | dK ds => obtain ⟨vs, e, r⟩ := h; exact ⟨_, e⟩
  | ins C ds => obtain ⟨dx, vs, e, r⟩ := h; exact ⟨_, e⟩
theorem RepO.ext {o : SO} {a : Addr} (h : RepO K H μ o a) (x : Ext H μ H' μ') (k : H' a = H a) : RepO K H' μ' o a := by
  cases o with
  | lst ds => obtain ⟨vs, e, r⟩ := h; exact ⟨vs, k.trans e, r.ext x⟩
  | dK ds => obtain ⟨vs, e, r⟩ := h; exact ⟨vs, k.trans e, r.ext x⟩
  | ins C ds => obtain ⟨dx, vs, e, r⟩ := h; exact ⟨dx, vs, k.trans e, r.ext x⟩
theorem RepF.lows {κ : Type} : ∀ {ds : List (κ × D)} {vs : List (κ × V)}, RepF K H μ ds vs → fpure μ.length ds = true
  | _, _, .nil => rfl
  | _, _, .cons r t => Bool.and_eq_true_iff.mpr ⟨r.lowD, RepF.lows t⟩
structure RepS (K : PySem.W.Frag) (H : Hp) (μ : List Addr) (st : Store) : Prop where
  len : μ.length = st.length
  nd : μ.Nodup
  obj : ∀ (i : Nat) (a : Addr) (o : SO), μ[i]? = some a → st[i]? = some o → RepO K H μ o a
theorem RepS.live {st : Store} (h : RepS K H μ st) {a : Addr} (m : a ∈ μ) : ∃ u, H a = some u := by
  obtain ⟨i, e⟩ := List.mem_iff_getElem?.mp m
  have hi : i < st.length := by rw [← h.len]; exact (List.getElem?_eq_some_iff.mp e).1
  exact (h.obj i a st[i] e (List.getElem?_eq_getElem hi)).live
theorem RepS.free {st : Store} (h : RepS K H μ st) {a : Addr} (m : H a = none) : a ∉ μ := fun z => by
  obtain ⟨u, e⟩ := h.live z
  rw [m] at e; cases e
/-- an address that is not in the store is filled: nothing else changes -/
theorem Ext.new {a : Addr} {o : HO} (m : H a = none) : Ext H μ (upd H a o) μ :=
  ⟨⟨[], by simp, by simp⟩, fun b u h _ => by rw [upd_ne (ne_of_none h m)]; exact h, fun b h => by
    by_cases q : b = a
    · subst q; exact m
    · rw [upd_ne q] at h; exact h⟩
theorem Ext.newS {a : Addr} {o : HO} (m : H a = none) : Ext H μ (upd H a o) (μ ++ [a]) :=
  ⟨⟨[a], rfl, by simpa using m⟩, (Ext.new (o := o) (μ := μ) m).keep, (Ext.new (o := o) (μ := μ) m).live⟩
theorem RepS.new {st : Store} {a : Addr} {o : HO} (h : RepS K H μ st) (m : H a = none) : RepS K (upd H a o) μ st :=
  ⟨h.len, h.nd, fun i b u e f => (h.obj i b u e f).ext (.new m) (upd_ne fun q => by
    subst q
    obtain ⟨z, hz⟩ := (h.obj i b u e f).live
    rw [m] at hz; cases hz)⟩
theorem RepS.push {st : Store} {a : Addr} {o : HO} {so : SO} (h : RepS K H μ st) (m : H a = none) (ho : RepO K (upd H a o) (μ ++ [a]) so a) : RepS K (upd H a o) (μ ++ [a]) (st ++ [so]) := by
  refine ⟨by simp [h.len], ?_, fun i b u e f => ?_⟩
  · rw [List.nodup_append]
    refine ⟨h.nd, by simp, fun x hx y hy => ?_⟩
    have : y = a := by simpa using hy
    subst this
    rintro rfl
    exact h.free m hx
  · by_cases hi : i < μ.length
    · rw [List.getElem?_append_left hi] at e
      rw [List.getElem?_append_left (by rw [← h.len]; exact hi)] at f
      refine (h.obj i b u e f).ext (.newS m) (upd_ne fun q => ?_)
      subst q
      obtain ⟨z, hz⟩ := (h.obj i b u e f).live
      rw [m] at hz; cases hz
    · have hj : i < (μ ++ [a]).length := (List.getElem?_eq_some_iff.mp e).1
      have : i = μ.length := by simp at hj; omega
      subst this
      rw [List.getElem?_append_right (Nat.le_refl _)] at e
      rw [h.len, List.getElem?_append_right (Nat.le_refl _)] at f
      simp at e f
      subst e f
      exact ho
/-- a store's object changes -/
theorem Ext.write {a : Addr} {o : HO} (m : a ∈ μ) : Ext H μ (upd H a o) μ :=
  ⟨⟨[], by simp, by simp⟩, fun b u h n => by rw [upd_ne (fun q => n (by rw [q]; exact m))]; exact h, fun b h => by
    by_cases q : b = a
    · subst q; rw [upd_same] at h; cases h
    · rw [upd_ne q] at h; exact h⟩
theorem RepS.write {st : Store} {i : Nat} {a : Addr} {o : HO} {so : SO} (h : RepS K H μ st) (e : μ[i]? = some a) (ho : RepO K (upd H a o) μ so a) : RepS K (upd H a o) μ (st.set i so) := by
  have hm : a ∈ μ := List.mem_of_getElem? e
  refine ⟨by simp [h.len], h.nd, fun j b u e' f => ?_⟩
  by_cases hj : j = i
  · subst hj
    rw [e] at e'; cases e'
    have hl : j < st.length := by rw [← h.len]; exact (List.getElem?_eq_some_iff.mp e).1
    rw [List.getElem?_set_self hl] at f; cases f
    exact ho
  · rw [List.getElem?_set_ne (Ne.symm hj)] at f
    refine (h.obj j b u e' f).ext (.write hm) (upd_ne fun q => hj ?_)
    subst q
    obtain ⟨h1, e1⟩ := List.getElem?_eq_some_iff.mp e
    obtain ⟨h2, e2⟩ := List.getElem?_eq_some_iff.mp e'
    exact (List.getElem_inj h.nd).mp (e2.trans e1.symm)
theorem RepS.at {st : Store} {i : Nat} {so : SO} (h : RepS K H μ st) (e : st[i]? = some so) : ∃ a, μ[i]? = some a ∧ RepO K H μ so a := by
  have hl : i < μ.length := by rw [h.len]; exact (List.getElem?_eq_some_iff.mp e).1
  exact ⟨μ[i], List.getElem?_eq_getElem hl, h.obj i _ so (List.getElem?_eq_getElem hl) e⟩
theorem RepF.chg {κ : Type} {L : Addr} {xs ys : List V} (hL : H L = some (.lst xs)) : ∀ {ds : List (κ × D)} {vs : List (κ × V)}, RepF K H μ ds vs → RepF K (upd H L (.lst ys)) μ ds vs
  | _, _, .nil => .nil
  | _, _, .cons r t => .cons (r.chg hL) (RepF.chg hL t)
theorem RepS.chg {L : Addr} {xs ys : List V} {st : Store} (hL : H L = some (.lst xs)) (n : L ∉ μ) (s : RepS K H μ st) : RepS K (upd H L (.lst ys)) μ st :=
  ⟨s.len, s.nd, fun i a o e f => by
    have ne : a ≠ L := fun q => n (q ▸ List.mem_of_getElem? e)
    have h := s.obj i a o e f
    cases o with
    | lst ds => obtain ⟨vs, e, r⟩ := h; exact ⟨vs, by rw [upd_ne ne]; exact e, r.chg hL⟩
    | dK ds => obtain ⟨vs, e, r⟩ := h; exact ⟨vs, by rw [upd_ne ne]; exact e, r.chg hL⟩
    | ins C ds => obtain ⟨dx, vs, e, r⟩ := h; exact ⟨dx, vs, by rw [upd_ne ne]; exact e, r.chg hL⟩⟩
theorem RepF.more {κ : Type} {L : Addr} {xs : List V} (hL : H L = some (.lst xs)) : ∀ {ds : List (κ × D)} {vs : List (κ × V)}, RepF K H μ ds vs → RepF K H (μ ++ [L]) ds vs
  | _, _, .nil => .nil
  | _, _, .cons r t => .cons (r.more hL) (RepF.more hL t)
theorem RepO.more {L : Addr} {xs : List V} {o : SO} {a : Addr} (h : RepO K H μ o a) (hL : H L = some (.lst xs)) : RepO K H (μ ++ [L]) o a := by
  cases o with
  | lst ds => obtain ⟨vs, e, r⟩ := h; exact ⟨vs, e, r.more hL⟩
  | dK ds => obtain ⟨vs, e, r⟩ := h; exact ⟨vs, e, r.more hL⟩
  | ins C ds => obtain ⟨dx, vs, e, r⟩ := h; exact ⟨dx, vs, e, r.more hL⟩
/-- environments -/
def RepE (K : PySem.W.Frag) (H : Hp) (μ : List Addr) (ρ : Envr) (σ : L2.St) : Prop :=
  ρ.length = σ.length ∧ ∀ (i : Nat) (d : D), ρ[i]? = some (some d) → ∃ v, σ[i]? = some (some v) ∧ Rep K H μ d v
theorem RepE.ext {ρ : Envr} {σ : L2.St} (h : RepE K H μ ρ σ) (x : Ext H μ H' μ') : RepE K H' μ' ρ σ :=
  ⟨h.1, fun i d e => let ⟨v, e1, r⟩ := h.2 i d e; ⟨v, e1, r.ext x⟩⟩
theorem RepE.set {ρ : Envr} {σ : L2.St} {i : Nat} {d : D} {v : V} (h : RepE K H μ ρ σ) (r : Rep K H μ d v) : RepE K H μ (ρ.set i (some d)) (σ.set i (some v)) := by
  refine ⟨by simp [h.1], fun j e q => ?_⟩
  by_cases hj : i = j
  · subst hj
    by_cases hl : i < ρ.length
    · rw [List.getElem?_set_self hl] at q
      cases q
      exact ⟨v, List.getElem?_set_self (by rw [← h.1]; exact hl), r⟩
    · rw [List.getElem?_eq_none (by simpa using hl)] at q; cases q
  · rw [List.getElem?_set_ne hj] at q
    obtain ⟨w, e1, r1⟩ := h.2 j e q
    exact ⟨w, by rw [List.getElem?_set_ne hj]; exact e1, r1⟩
end

/-! ### what is wanted behind -/
def RepX (K : PySem.W.Frag) (H : Hp) (μ : List Addr) (x : Exn) (c : Value) (od : Option Addr) : Prop :=
  c = .ref x.cls ∧ ((od = none ∧ x.fs = []) ∨ ∃ d ws, od = some d ∧ H d = some (.xd ws) ∧ d ∉ μ ∧ RepF K H μ x.fs ws)
def Post (K : PySem.W.Frag) (H : Hp) (μ : List Addr) (r : Res D) (Q : VK) (E : XK) : Prop :=
  match r with
  | .ok d st => ∀ v H' μ', Ext H μ H' μ' → Rep K H' μ' d v → RepS K H' μ' st → Q v H'
  | .exc x st => ∀ c od H' μ', Ext H μ H' μ' → RepX K H' μ' x c od → RepS K H' μ' st → E c od H'
  | .stuck => False
def PostL (K : PySem.W.Frag) (H : Hp) (μ : List Addr) (r : Res (List D)) (Q : List V → Hp → Prop) (E : XK) : Prop :=
  match r with
  | .ok d st => ∀ v H' μ', Ext H μ H' μ' → Reps K H' μ' d v → RepS K H' μ' st → Q v H'
  | .exc x st => ∀ c od H' μ', Ext H μ H' μ' → RepX K H' μ' x c od → RepS K H' μ' st → E c od H'
  | .stuck => False
def PostB (K : PySem.W.Frag) (H : Hp) (μ : List Addr) (r : Res Bool) (Q : Bool → Hp → Prop) (E : XK) : Prop :=
  match r with
  | .ok b st => ∀ H' μ', Ext H μ H' μ' → RepS K H' μ' st → Q b H'
  | .exc x st => ∀ c od H' μ', Ext H μ H' μ' → RepX K H' μ' x c od → RepS K H' μ' st → E c od H'
  | .stuck => False
section
variable {K : PySem.W.Frag} {H H1 H2 H' : Hp} {μ μ1 μ2 μ' : List Addr} {E : XK}
theorem RepX.ext {x : Exn} {c : Value} {od : Option Addr} (h : RepX K H μ x c od) (e : Ext H μ H' μ') : RepX K H' μ' x c od := by
  obtain ⟨e1, h⟩ := h
  refine ⟨e1, ?_⟩
  rcases h with h | ⟨d, ws, h1, h2, h3, h4⟩
  · exact .inl h
  · exact .inr ⟨d, ws, h1, e.keep _ _ h2 h3, e.not_mem h2 h3, h4.ext e⟩
theorem Post.ext {r : Res D} {Q : VK} (x : Ext H μ H1 μ1) (p : Post K H μ r Q E) : Post K H1 μ1 r Q E := by
  cases r with
  | ok d st => exact fun v H' μ' e a b => p v H' μ' (x.trans e) a b
  | exc y st => exact fun c od H' μ' e a b => p c od H' μ' (x.trans e) a b
  | stuck => exact p
theorem PostL.ext {r : Res (List D)} {Q : List V → Hp → Prop} (x : Ext H μ H1 μ1) (p : PostL K H μ r Q E) : PostL K H1 μ1 r Q E := by
  cases r with
  | ok d st => exact fun v H' μ' e a b => p v H' μ' (x.trans e) a b
  | exc y st => exact fun c od H' μ' e a b => p c od H' μ' (x.trans e) a b
  | stuck => exact p
theorem PostB.ext {r : Res Bool} {Q : Bool → Hp → Prop} (x : Ext H μ H1 μ1) (p : PostB K H μ r Q E) : PostB K H1 μ1 r Q E := by
  cases r with
  | ok d st => exact fun H' μ' e a => p H' μ' (x.trans e) a
  | exc y st => exact fun c od H' μ' e a b => p c od H' μ' (x.trans e) a b
  | stuck => exact p
/-- what stands behind the first step -/
def Then (K : PySem.W.Frag) (H : Hp) (μ : List Addr) (R : D → Store → Hp → List Addr → Prop) (v : V) (H1 : Hp) : Prop :=
  ∃ d st1 μ1, Ext H μ H1 μ1 ∧ Rep K H1 μ1 d v ∧ RepS K H1 μ1 st1 ∧ R d st1 H1 μ1
def ThenL (K : PySem.W.Frag) (H : Hp) (μ : List Addr) (R : List D → Store → Hp → List Addr → Prop) (v : List V) (H1 : Hp) : Prop :=
  ∃ d st1 μ1, Ext H μ H1 μ1 ∧ Reps K H1 μ1 d v ∧ RepS K H1 μ1 st1 ∧ R d st1 H1 μ1
def ThenB (K : PySem.W.Frag) (H : Hp) (μ : List Addr) (R : Bool → Store → Hp → List Addr → Prop) (v : Bool) (H1 : Hp) : Prop :=
  ∃ st1 μ1, Ext H μ H1 μ1 ∧ RepS K H1 μ1 st1 ∧ R v st1 H1 μ1
theorem Post.bind {r : Res D} {f : D → Store → Res D} {Q : VK} (p : Post K H μ (r.bind f) Q E) : Post K H μ r (Then K H μ fun d st1 H1 μ1 => Post K H1 μ1 (f d st1) Q E) E := by
  cases r with
  | ok d st => exact fun v H' μ' e a b => ⟨d, st, μ', e, a, b, p.ext e⟩
  | exc y st => exact p
  | stuck => exact p
theorem Post.bindL {r : Res D} {f : D → Store → Res (List D)} {Q : List V → Hp → Prop} (p : PostL K H μ (r.bind f) Q E) : Post K H μ r (Then K H μ fun d st1 H1 μ1 => PostL K H1 μ1 (f d st1) Q E) E := by
  cases r with
  | ok d st => exact fun v H' μ' e a b => ⟨d, st, μ', e, a, b, p.ext e⟩
  | exc y st => exact p
  | stuck => exact p
theorem Post.bindB {r : Res D} {f : D → Store → Res Bool} {Q : Bool → Hp → Prop} (p : PostB K H μ (r.bind f) Q E) : Post K H μ r (Then K H μ fun d st1 H1 μ1 => PostB K H1 μ1 (f d st1) Q E) E := by
  cases r with
  | ok d st => exact fun v H' μ' e a b => ⟨d, st, μ', e, a, b, p.ext e⟩
  | exc y st => exact p
  | stuck => exact p
theorem PostL.bind {r : Res (List D)} {f : List D → Store → Res D} {Q : VK} (p : Post K H μ (r.bind f) Q E) : PostL K H μ r (ThenL K H μ fun d st1 H1 μ1 => Post K H1 μ1 (f d st1) Q E) E := by
  cases r with
  | ok d st => exact fun v H' μ' e a b => ⟨d, st, μ', e, a, b, p.ext e⟩
  | exc y st => exact p
  | stuck => exact p
theorem PostL.bindL {r : Res (List D)} {f : List D → Store → Res (List D)} {Q : List V → Hp → Prop} (p : PostL K H μ (r.bind f) Q E) : PostL K H μ r (ThenL K H μ fun d st1 H1 μ1 => PostL K H1 μ1 (f d st1) Q E) E := by
  cases r with
  | ok d st => exact fun v H' μ' e a b => ⟨d, st, μ', e, a, b, p.ext e⟩
  | exc y st => exact p
  | stuck => exact p
theorem PostB.bind {r : Res Bool} {f : Bool → Store → Res D} {Q : VK} (p : Post K H μ (r.bind f) Q E) : PostB K H μ r (ThenB K H μ fun d st1 H1 μ1 => Post K H1 μ1 (f d st1) Q E) E := by
  cases r with
  | ok d st => exact fun H' μ' e b => ⟨st, μ', e, b, p.ext e⟩
  | exc y st => exact p
  | stuck => exact p
theorem PostB.bindB {r : Res Bool} {f : Bool → Store → Res Bool} {Q : Bool → Hp → Prop} (p : PostB K H μ (r.bind f) Q E) : PostB K H μ r (ThenB K H μ fun d st1 H1 μ1 => PostB K H1 μ1 (f d st1) Q E) E := by
  cases r with
  | ok d st => exact fun H' μ' e b => ⟨st, μ', e, b, p.ext e⟩
  | exc y st => exact p
  | stuck => exact p
theorem Post.mono {r : Res D} {Q Q' : VK} (p : Post K H μ r Q E) (h : ∀ v H', Q v H' → Q' v H') : Post K H μ r Q' E := by
  cases r with
  | ok d st => exact fun v H' μ' e a b => h v H' (p v H' μ' e a b)
  | exc y st => exact p
  | stuck => exact p
theorem PostL.mono {r : Res (List D)} {Q Q' : List V → Hp → Prop} (p : PostL K H μ r Q E) (h : ∀ v H', Q v H' → Q' v H') : PostL K H μ r Q' E := by
  cases r with
  | ok d st => exact fun v H' μ' e a b => h v H' (p v H' μ' e a b)
  | exc y st => exact p
  | stuck => exact p
theorem PostB.mono {r : Res Bool} {Q Q' : Bool → Hp → Prop} (p : PostB K H μ r Q E) (h : ∀ v H', Q v H' → Q' v H') : PostB K H μ r Q' E := by
  cases r with
  | ok d st => exact fun H' μ' e b => h d H' (p H' μ' e b)
  | exc y st => exact p
  | stuck => exact p
end
end L3

namespace L3
open PySem PySem.Spec PyProof.Rows L2

abbrev SE := Envr → Store → Res D
abbrev SL := Envr → Store → Res (List D)
abbrev SB := Envr → Store → Res Bool
def lift (K : PySem.W.Frag) (E : XK) (f : SE) : TE := fun σ H Q => ∃ ρ st μ, RepE K H μ ρ σ ∧ RepS K H μ st ∧ Post K H μ (f ρ st) Q E
def liftL (K : PySem.W.Frag) (E : XK) (f : SL) : TA := fun σ H Q => ∃ ρ st μ, RepE K H μ ρ σ ∧ RepS K H μ st ∧ PostL K H μ (f ρ st) Q E
def liftB (K : PySem.W.Frag) (E : XK) (f : SB) : TT := fun σ H Q => ∃ ρ st μ, RepE K H μ ρ σ ∧ RepS K H μ st ∧ PostB K H μ (f ρ st) Q E
structure LE (X : Cx) (E : XK) (e : Expr) (f : SE) : Prop where
  pe : PE X e (lift X.K E f)
structure LL (X : Cx) (E : XK) (es : List Expr) (f : SL) : Prop where
  pa : PA X es (liftL X.K E f)
structure LB (X : Cx) (E : XK) (e : Expr) (f : SB) : Prop where
  pt : PT X e (liftB X.K E f)
/-- and, or: a test whatever its whole is -/
structure LW (X : Cx) (E : XK) (e : Expr) (f : SB) : Prop where
  pw : PW X e (liftB X.K E f)
theorem LW.b {X : Cx} {E : XK} {e : Expr} {f : SB} (h : LW X E e f) : LB X E e f := ⟨h.pw.pt⟩
theorem peMono {X : Cx} {e : Expr} {t t' : TE} (h : PE X e t) (m : ∀ σ H Q, t' σ H Q → t σ H Q) : PE X e t' := ⟨fun pins s σ H Q I q => h.run pins s σ H Q I (m σ H Q q)⟩
theorem paMono {X : Cx} {e : List Expr} {t t' : TA} (h : PA X e t) (m : ∀ σ H Q, t' σ H Q → t σ H Q) : PA X e t' := ⟨fun pos pins s σ H Q I q => h.run pos pins s σ H Q I (m σ H Q q)⟩
theorem ptMono {X : Cx} {e : Expr} {t t' : TT} (h : PT X e t) (m : ∀ σ H Q, t' σ H Q → t σ H Q) : PT X e t' := ⟨fun pins s σ H Q I q => h.run pins s σ H Q I (m σ H Q q)⟩
theorem pwMono {X : Cx} {e : Expr} {t t' : TT} (h : PW X e t) (m : ∀ σ H Q, t' σ H Q → t σ H Q) : PW X e t' := ⟨fun w pins s σ H Q I q => h.run w pins s σ H Q I (m σ H Q q)⟩

/-! ### names, constants -/
def sVar (i : Nat) : SE := fun ρ st => match ρ[i]? with
  | some (some d) => .ok d st
  | _ => .stuck
def sC (d : D) : SE := fun _ st => .ok d st
section
variable {X : Cx} {E : XK} {pos : Pos}
theorem le_var (i : Nat) {x : Str} {pos : Pos} (hN : X.N[i]? = some x := by rfl) (hv : Vis X.env.scope x := by first | exact Or.inl rfl | exact Or.inr (Or.inl rfl) | exact Or.inr (Or.inr rfl)) (hd : (x == ("__debug__" : Str)) = false := by decide)
    (hcd : (x == ("__classdict__" : Str)) = false := by decide) : LE X E (.Name x pos) (sVar i) := ⟨peMono (pe_var hN hv hd hcd) fun σ H Q ⟨ρ, st, μ, re, rs, p⟩ => by
  unfold sVar at p
  split at p
  · rename_i d e
    obtain ⟨v, e1, r⟩ := re.2 i d e
    exact ⟨v, e1, p v H μ (.refl H μ) r rs⟩
  · exact p.elim⟩
theorem le_int {i : Int} {j : Nat} : LE X E (.Constant (.int i) j pos) (sC (.int i)) := ⟨peMono pe_int fun σ H Q ⟨ρ, st, μ, re, rs, p⟩ => p _ H μ (.refl H μ) (.int i) rs⟩
theorem le_bl {i : Bool} {j : Nat} : LE X E (.Constant (.bool i) j pos) (sC (.bl i)) := ⟨peMono pe_bl fun σ H Q ⟨ρ, st, μ, re, rs, p⟩ => p _ H μ (.refl H μ) (.bl i) rs⟩
theorem le_non {j : Nat} : LE X E (.Constant .none j pos) (sC .non) := ⟨peMono pe_non fun σ H Q ⟨ρ, st, μ, re, rs, p⟩ => p _ H μ (.refl H μ) .non rs⟩
theorem le_str {i : Str} {j : Nat} : LE X E (.Constant (.str i) j pos) (sC (.str i)) := ⟨peMono pe_str fun σ H Q ⟨ρ, st, μ, re, rs, p⟩ => p _ H μ (.refl H μ) (.str i) rs⟩
theorem le_glob {x : Str} {v : V} {u : Value} {d : D} (hg : Gl X x) (hm : X.mg x = some u) (r : RelV v u) (h : ∀ H μ, Rep X.K H μ d v) (hd : (x == ("__debug__" : Str)) = false := by decide) : LE X E (.Name x pos) (sC d) :=
  ⟨peMono (pe_glob hg hm r hd) fun σ H Q ⟨ρ, st, μ, re, rs, p⟩ => p _ H μ (.refl H μ) (h H μ) rs⟩

/-! ### argument lists -/
def sNil : SL := fun _ st => .ok [] st
def sCons (f : SE) (g : SL) : SL := fun ρ st => (f ρ st).bind fun d st => (g ρ st).bind fun ds st => .ok (d :: ds) st
theorem ll_nil : LL X E [] sNil := ⟨paMono pa_nil fun σ H Q ⟨ρ, st, μ, re, rs, p⟩ => p _ H μ (.refl H μ) .nil rs⟩
theorem ll_cons {e : Expr} {es : List Expr} {f : SE} {g : SL} (ha : LE X E e f) (hr : LL X E es g) (hs : starEach (e :: es) X.env = (false, eval e X.env) :: starEach es X.env := by rfl) : LL X E (e :: es) (sCons f g) :=
  ⟨paMono (pa_cons ha.pe hr.pa hs) fun σ H Q ⟨ρ, st, μ, re, rs, p⟩ => by
    have p1 := Post.bindL (f := fun d st => (g ρ st).bind fun ds st => .ok (d :: ds) st) p
    refine ⟨ρ, st, μ, re, rs, p1.mono fun v H1 ⟨d, st1, μ1, x1, r1, s1, p2⟩ => ?_⟩
    refine ⟨ρ, st1, μ1, re.ext x1, s1, (PostL.bindL (f := fun ds st => .ok (d :: ds) st) p2).mono fun vs H2 ⟨ds, st2, μ2, x2, r2, s2, p3⟩ => ?_⟩
    exact p3 (v :: vs) H2 μ2 (.refl _ _) (.cons (r1.ext x2) r2) s2⟩

/-! ### displays -/
def sTup (f : SL) : SE := fun ρ st => (f ρ st).bind fun ds st => .ok (.tup ds) st
def sLst (f : SL) : SE := fun ρ st => (f ρ st).bind fun ds st => .ok (.ref st.length) (st ++ [.lst ds])
def LenIs (f : SL) (n : Nat) : Prop := ∀ ρ st ds st', f ρ st = .ok ds st' → ds.length = n
theorem lenIs_nil : LenIs sNil 0 := fun ρ st ds st' e => by cases e; rfl
theorem lenIs_cons {f : SE} {g : SL} {n : Nat} (h : LenIs g n) : LenIs (sCons f g) (n + 1) := fun ρ st ds st' e => by
  unfold sCons at e
  cases q : f ρ st with
  | ok d st1 =>
    rw [q, bind_ok] at e
    cases q2 : g ρ st1 with
    | ok ds st2 =>
      rw [q2, bind_ok] at e
      cases e
      rw [List.length_cons, h ρ st1 ds _ q2]
    | exc x st2 => rw [q2] at e; cases e
    | stuck => rw [q2] at e; cases e
  | exc x st2 => rw [q] at e; cases e
  | stuck => rw [q] at e; cases e
theorem post_tup {K : PySem.W.Frag} {H : Hp} {μ : List Addr} {ds : List D} {vs : List V} {st : Store} {Q : VK} {a : Addr} (p : Post K H μ (.ok (.tup ds) st) Q E) (r : Reps K H μ ds vs) (s : RepS K H μ st) (hn : H a = none) : Q (.ref a) (upd H a (.tup vs)) :=
  p (.ref a) _ μ (.new hn) (.tup (.inl ⟨.inl upd_same, s.free hn⟩) (r.ext (.new hn))) (s.new hn)
theorem post_lst {K : PySem.W.Frag} {H : Hp} {μ : List Addr} {ds : List D} {vs : List V} {st : Store} {Q : VK} {a : Addr} (p : Post K H μ (.ok (.ref st.length) (st ++ [.lst ds])) Q E) (r : Reps K H μ ds vs) (s : RepS K H μ st) (hn : H a = none) : Q (.ref a) (upd H a (.lst vs)) :=
  p (.ref a) _ (μ ++ [a]) (.newS hn) (.ref (by rw [← s.len, List.getElem?_append_right (Nat.le_refl _)]; simp)) (s.push hn ⟨vs, upd_same, r.ext (.newS hn)⟩)
/-- the list's length behind a fixed display -/
theorem PostL.len {K : PySem.W.Frag} {H : Hp} {μ : List Addr} {r : Res (List D)} {Q : List V → Hp → Prop} {n : Nat} (p : PostL K H μ r Q E) (h : ∀ ds st, r = .ok ds st → ds.length = n) : PostL K H μ r (fun vs H' => vs.length = n ∧ Q vs H') E := by
  cases r with
  | ok d st => exact fun v H' μ' e a b => ⟨by rw [← a.length]; exact h d st rfl, p v H' μ' e a b⟩
  | exc y st => exact p
  | stuck => exact p
theorem small_line {n : Nat} (h : n ≤ 1000) : n ≤ sizeLine := Nat.le_trans h (by decide)
theorem le_tup {es : List Expr} {f : SL} {n : Nat} {x1 : Nat} (h : LL X E es f) (hl : LenIs f n) (hn : n ≤ 1000 := by decide) : LE X E (.Tuple es x1 pos) (sTup f) :=
  ⟨peMono (pe_tup h.pa) fun σ H Q ⟨ρ, st, μ, re, rs, p⟩ => ⟨ρ, st, μ, re, rs, ((PostL.bind (f := fun ds st => .ok (.tup ds) st) p).len fun ds st' e => hl _ _ _ _ e).mono fun vs H1 ⟨e, ds, st1, μ1, x1, r1, s1, p1⟩ =>
    ⟨by rw [e]; exact small_line hn, fun a ha => post_tup p1 r1 s1 ha⟩⟩⟩
theorem le_lst {es : List Expr} {f : SL} {n : Nat} (h : LL X E es f) (hl : LenIs f n) (hn : n ≤ 1000 := by decide) : LE X E (.List es pos) (sLst f) :=
  ⟨peMono (pe_lst h.pa) fun σ H Q ⟨ρ, st, μ, re, rs, p⟩ => ⟨ρ, st, μ, re, rs, ((PostL.bind (f := fun ds st => .ok (.ref st.length) (st ++ [.lst ds])) p).len fun ds st' e => hl _ _ _ _ e).mono fun vs H1 ⟨e, ds, st1, μ1, x1, r1, s1, p1⟩ =>
    ⟨by rw [e]; exact small_line hn, fun a ha => post_lst p1 r1 s1 ha⟩⟩⟩

/-! ### operators by values -/
abbrev F2 := D → D → Store → Res D
def s2 (F : F2) (f g : SE) : SE := fun ρ st => (f ρ st).bind fun x st => (g ρ st).bind fun y st => F x y st
def lift2 (K : PySem.W.Frag) (E : XK) (F : F2) : R2 := fun x y H Q => ∃ d d' st μ, Rep K H μ d x ∧ Rep K H μ d' y ∧ RepS K H μ st ∧ Post K H μ (F d d' st) Q E
def OpL (X : Cx) (E : XK) (f : Value → Value → Sem Value) (F : F2) : Prop := OpR X f (lift2 X.K E F)
theorem lift_s2 {K : PySem.W.Frag} {F : F2} {f g : SE} {σ : L2.St} {H : Hp} {Q : VK} (h : lift K E (s2 F f g) σ H Q) : tOp (lift2 K E F) (lift K E f) (lift K E g) σ H Q := by
  obtain ⟨ρ, st, μ, re, rs, p⟩ := h
  have p1 := Post.bind (f := fun x st => (g ρ st).bind fun y st => F x y st) p
  refine ⟨ρ, st, μ, re, rs, p1.mono fun v H1 ⟨d, st1, μ1, x1, r1, s1, p2⟩ => ?_⟩
  refine ⟨ρ, st1, μ1, re.ext x1, s1, (Post.bind (f := fun y st => F d y st) p2).mono fun w H2 ⟨d', st2, μ2, x2, r2, s2, p3⟩ => ?_⟩
  exact ⟨d, d', st2, μ2, r1.ext x2, r2, s2, p3⟩
theorem le_op {a b : Expr} {op : Operator} {F : F2} {f g : SE} (ho : OpL X E (binaryOp op) F) (ha : LE X E a f) (hb : LE X E b g) : LE X E (.BinOp a op b pos) (s2 F f g) :=
  ⟨peMono (pe_op ho ha.pe hb.pe) fun _ _ _ h => lift_s2 h⟩
theorem le_cmp {a b : Expr} {op : CmpOp} {F : F2} {f g : SE} (ho : OpL X E (compareOp op) F) (ha : LE X E a f) (hb : LE X E b g) (hm : behindInMarks op b = false) : LE X E (.Compare a [op] [b] pos) (s2 F f g) :=
  ⟨peMono (pe_cmpR ho ha.pe hb.pe hm) fun _ _ _ h => lift_s2 h⟩
/-- a value that is a bool, as a test -/
def sBool (f : SE) : SB := fun ρ st => (f ρ st).bind fun x st => match x with
  | .bl b => .ok b st
  | _ => .stuck
theorem Rep.blOf {K : PySem.W.Frag} {H : Hp} {μ : List Addr} {b : Bool} {v : V} (r : Rep K H μ (.bl b) v) : v = .bl b := by cases r; rfl
theorem lift_bool {K : PySem.W.Frag} {f : SE} {σ : L2.St} {H : Hp} {Q : Bool → Hp → Prop} (h : liftB K E (sBool f) σ H Q) : lift K E f σ H fun x H' => ∃ k, x = .bl k ∧ Q k H' := by
  obtain ⟨ρ, st, μ, re, rs, p⟩ := h
  refine ⟨ρ, st, μ, re, rs, (Post.bindB p).mono fun v H1 ⟨d, st1, μ1, x1, r1, s1, p1⟩ => ?_⟩
  cases d with
  | bl b => exact ⟨b, r1.blOf, p1 H1 μ1 (.refl _ _) s1⟩
  | _ => exact p1.elim
theorem lb_cmp {a b : Expr} {op : CmpOp} {F : F2} {f g : SE} (ho : OpL X E (compareOp op) F) (ha : LE X E a f) (hb : LE X E b g) (hm : behindInMarks op b = false) : LB X E (.Compare a [op] [b] pos) (sBool (s2 F f g)) :=
  ⟨ptMono (pt_cmpR ho ha.pe hb.pe hm) fun σ H Q h => by
    have h1 := lift_bool h
    exact lift_s2 h1⟩
/-- a < b < c -/
def sChain (F G : F2) (f g h : SE) : SE := fun ρ st => (f ρ st).bind fun x st => (g ρ st).bind fun y st => (F x y st).bind fun z st => match z with
  | .bl true => (h ρ st).bind fun w st => G y w st
  | .bl false => .ok (.bl false) st
  | _ => .stuck
theorem lift_chain {K : PySem.W.Frag} {F G : F2} {f g h : SE} {σ : L2.St} {H : Hp} {Q : VK} (q : lift K E (sChain F G f g h) σ H Q) : tChain (lift2 K E F) (lift2 K E G) (lift K E f) (lift K E g) (lift K E h) σ H Q := by
  obtain ⟨ρ, st, μ, re, rs, p⟩ := q
  refine ⟨ρ, st, μ, re, rs, (Post.bind p).mono fun v H1 ⟨d, st1, μ1, x1, r1, s1, p2⟩ => ?_⟩
  refine ⟨ρ, st1, μ1, re.ext x1, s1, (Post.bind p2).mono fun w H2 ⟨d', st2, μ2, x2, r2, s2, p3⟩ => ?_⟩
  refine ⟨d, d', st2, μ2, r1.ext x2, r2, s2, (Post.bind p3).mono fun z H3 ⟨d3, st3, μ3, x3, r3, s3, p4⟩ => ?_⟩
  cases d3 with
  | bl b =>
    refine ⟨b, r3.blOf, ?_⟩
    cases b with
    | true =>
      rw [if_pos rfl]
      refine ⟨ρ, st3, μ3, ((re.ext x1).ext x2).ext x3, s3, (Post.bind p4).mono fun z4 H4 ⟨d4, st4, μ4, x4, r4, s4, p5⟩ => ?_⟩
      exact ⟨d', d4, st4, μ4, (r2.ext x3).ext x4, r4, s4, p5⟩
    | false =>
      rw [if_neg Bool.false_ne_true]
      exact p4 _ H3 μ3 (.refl _ _) (.bl false) s3
  | _ => exact p4.elim
theorem le_chain {a b c : Expr} {op op' : CmpOp} {F G : F2} {f g h : SE} (ho : OpL X E (compareOp op) F) (ho' : OpL X E (compareOp op') G) (ha : LE X E a f) (hb : LE X E b g) (hc : LE X E c h) (hm : lastMarks [op, op'] [b, c] = false) :
    LE X E (.Compare a [op, op'] [b, c] pos) (sChain F G f g h) := ⟨peMono (pe_chain ho ho' ha.pe hb.pe hc.pe hm) fun _ _ _ h => lift_chain h⟩
theorem lb_chain {a b c : Expr} {op op' : CmpOp} {F G : F2} {f g h : SE} (ho : OpL X E (compareOp op) F) (ho' : OpL X E (compareOp op') G) (ha : LE X E a f) (hb : LE X E b g) (hc : LE X E c h) (hm : lastMarks [op, op'] [b, c] = false) :
    LB X E (.Compare a [op, op'] [b, c] pos) (sBool (sChain F G f g h)) := ⟨ptMono (pt_chain ho ho' ha.pe hb.pe hc.pe hm) fun σ H Q q => by
      have h1 := lift_bool q
      exact lift_chain h1⟩

/-! ### one value -/
abbrev F1 := D → Store → Res D
def s1 (F : F1) (f : SE) : SE := fun ρ st => (f ρ st).bind fun x st => F x st
def lift1 (K : PySem.W.Frag) (E : XK) (F : F1) : V → Hp → VK → Prop := fun x H Q => ∃ d st μ, Rep K H μ d x ∧ RepS K H μ st ∧ Post K H μ (F d st) Q E
theorem lift_s1 {K : PySem.W.Frag} {F : F1} {f : SE} {σ : L2.St} {H : Hp} {Q : VK} (h : lift K E (s1 F f) σ H Q) : lift K E f σ H fun x H1 => lift1 K E F x H1 Q := by
  obtain ⟨ρ, st, μ, re, rs, p⟩ := h
  exact ⟨ρ, st, μ, re, rs, (Post.bind p).mono fun v H1 ⟨d, st1, μ1, x1, r1, s1, p2⟩ => ⟨d, st1, μ1, r1, s1, p2⟩⟩
def vNeg : F1 := fun d st => match d with
  | .int i => .ok (.int (-i)) st
  | _ => .stuck
theorem le_neg {a : Expr} {f : SE} (ha : LE X E a f) : LE X E (.UnaryOp .USub a pos) (s1 vNeg f) := ⟨peMono (pe_un un_neg ha.pe) fun σ H Q h => by
  obtain ⟨ρ, st, μ, re, rs, p⟩ := lift_s1 h
  refine ⟨ρ, st, μ, re, rs, p.mono fun v H1 ⟨d, st1, μ1, r1, s1, p1⟩ => ?_⟩
  cases d with
  | int i => cases r1; exact ⟨i, rfl, p1 _ H1 μ1 (.refl _ _) (.int _) s1⟩
  | _ => exact p1.elim⟩

/-! ### truth -/
def truth (d : D) (st : Store) : Option Bool := match d with
  | .non => some false
  | .bl b => some b
  | .int i => some (i != 0)
  | .str x => if x.length ≤ sizeLine then some (x.length != 0) else none
  | .tup xs => some (!xs.isEmpty)
  | .rl xs => some (!xs.isEmpty)
  | .ref n => match st[n]? with
    | some (.lst xs) => some (!xs.isEmpty)
    | some (.dK xs) => some (!xs.isEmpty)
    | _ => none
theorem Reps.empty {K : PySem.W.Frag} {H : Hp} {μ : List Addr} {ds : List D} {vs : List V} (r : Reps K H μ ds vs) : ds.isEmpty = vs.isEmpty := by cases r <;> rfl
theorem RepF.empty {κ : Type} {K : PySem.W.Frag} {H : Hp} {μ : List Addr} {ds : List (κ × D)} {vs : List (κ × V)} (r : RepF K H μ ds vs) : ds.isEmpty = vs.isEmpty := by cases r <;> rfl
theorem truV {K : PySem.W.Frag} {H : Hp} {μ : List Addr} {d : D} {v : V} {st : Store} {b : Bool} (r : Rep K H μ d v) (s : RepS K H μ st) (h : truth d st = some b) : TruV K v H b := by
  cases d with
  | non => cases r; cases h; rfl
  | bl b => cases r; cases h; rfl
  | int i => cases r; cases h; rfl
  | str x =>
    cases r
    simp only [truth] at h
    split at h
    · cases h; exact ⟨by assumption, by rw [Bool.eq_iff_iff]; simp⟩
    · cases h
  | tup xs => cases r with | tup h1 h2 => cases h; exact .inr (.inl ⟨_, h1.sq, by rw [h2.empty]⟩)
  | rl xs => cases r with | rl h1 h2 => cases h; exact .inl ⟨_, h1.sq, by rw [h2.empty]⟩
  | ref n =>
    cases r with
    | ref h1 =>
      simp only [truth] at h
      split at h
      · rename_i xs e
        cases h
        obtain ⟨a, e1, vs, e2, r2⟩ := s.at e
        rw [h1] at e1; cases e1
        exact .inl ⟨vs, .of e2, by rw [r2.empty]⟩
      · rename_i xs e
        cases h
        obtain ⟨a, e1, vs, e2, r2⟩ := s.at e
        rw [h1] at e1; cases e1
        exact .inr (.inr (by first | exact ⟨vs, .inl e2, by rw [r2.empty]⟩ | exact .inl ⟨vs, .inl e2, by rw [r2.empty]⟩ | exact ⟨vs, e2, by rw [r2.empty]⟩))
      · cases h
def sTruth (f : SE) : SB := fun ρ st => (f ρ st).bind fun x st => match truth x st with
  | some b => .ok b st
  | none => .stuck
theorem lift_truth {K : PySem.W.Frag} {f : SE} {σ : L2.St} {H : Hp} {Q : Bool → Hp → Prop} (h : liftB K E (sTruth f) σ H Q) : lift K E f σ H fun x H' => ∃ k, TruV K x H' k ∧ Q k H' := by
  obtain ⟨ρ, st, μ, re, rs, p⟩ := h
  refine ⟨ρ, st, μ, re, rs, (Post.bindB p).mono fun v H1 ⟨d, st1, μ1, x1, r1, s1, p1⟩ => ?_⟩
  cases e : truth d st1 with
  | some b => dsimp only at p1; rw [e] at p1; exact ⟨b, truV r1 s1 e, p1 H1 μ1 (.refl _ _) s1⟩
  | none => dsimp only at p1; rw [e] at p1; exact p1.elim
theorem lb_truth {a : Expr} {f : SE} (ha : LE X E a f) (he : ∀ whole, isTrue a X.env whole = (do let v ← whole; standAt a.pos; holding [v] (truthy v)) := by intro _; rfl) : LB X E a (sTruth f) :=
  ⟨ptMono (pt_truth ha.pe he) fun σ H Q h => by
    first | exact lift_truth h | exact (lift_truth h)⟩
def sNot (t : SB) : SB := fun ρ st => (t ρ st).bind fun b st => .ok (!b) st
theorem lb_not {a : Expr} {t : SB} (ha : LB X E a t) : LB X E (.UnaryOp .Not a pos) (sNot t) := ⟨ptMono (pt_not ha.pt) fun σ H Q ⟨ρ, st, μ, re, rs, p⟩ =>
  ⟨ρ, st, μ, re, rs, (PostB.bindB p).mono fun b H1 ⟨st1, μ1, x1, s1, p1⟩ => p1 H1 μ1 (.refl _ _) s1⟩⟩
/-- not a, as a value -/
def sNotV (t : SB) : SE := fun ρ st => (t ρ st).bind fun b st => .ok (.bl (!b)) st
theorem le_not {a : Expr} {f : SE} (ha : LE X E a f) : LE X E (.UnaryOp .Not a pos) (sNotV (sTruth f)) := ⟨peMono (pe_notT ha.pe) fun σ H Q ⟨ρ, st, μ, re, rs, p⟩ => by
  have p1 : liftB X.K E (sTruth f) σ H (fun b H1 => Q (.bl (!b)) H1) := ⟨ρ, st, μ, re, rs, (PostB.bind p).mono fun b H1 ⟨st1, μ1, x1, s1, p1⟩ => p1 _ H1 μ1 (.refl _ _) (.bl _) s1⟩
  exact lift_truth p1⟩
/-! ### and, or -/
def sAnd (t u : SB) : SB := fun ρ st => (t ρ st).bind fun b st => if b = true then u ρ st else .ok false st
def sOr (t u : SB) : SB := fun ρ st => (t ρ st).bind fun b st => if b = true then .ok true st else u ρ st
theorem lw_and1 {a : Expr} {t : SB} (ha : LB X E a t) : LW X E (.BoolOp .And [a] pos) t := ⟨pw_and1 ha.pt⟩
theorem lw_or1 {a : Expr} {t : SB} (ha : LB X E a t) : LW X E (.BoolOp .Or [a] pos) t := ⟨pw_or1 ha.pt⟩
theorem lw_and {a b : Expr} {rest : List Expr} {t u : SB} (ha : LB X E a t) (hb : LW X E (.BoolOp .And (b :: rest) pos) u) : LW X E (.BoolOp .And (a :: b :: rest) pos) (sAnd t u) := ⟨pwMono (pw_and ha.pt hb.pw) fun σ H Q ⟨ρ, st, μ, re, rs, p⟩ =>
  ⟨ρ, st, μ, re, rs, (PostB.bindB p).mono fun b H1 ⟨st1, μ1, x1, s1, p1⟩ => by
    cases b with
    | true => rw [if_pos rfl] at p1 ⊢; exact ⟨ρ, st1, μ1, re.ext x1, s1, p1⟩
    | false => rw [if_neg Bool.false_ne_true] at p1 ⊢; exact p1 H1 μ1 (.refl _ _) s1⟩⟩
theorem lw_or {a b : Expr} {rest : List Expr} {t u : SB} (ha : LB X E a t) (hb : LW X E (.BoolOp .Or (b :: rest) pos) u) : LW X E (.BoolOp .Or (a :: b :: rest) pos) (sOr t u) := ⟨pwMono (pw_or ha.pt hb.pw) fun σ H Q ⟨ρ, st, μ, re, rs, p⟩ =>
  ⟨ρ, st, μ, re, rs, (PostB.bindB p).mono fun b H1 ⟨st1, μ1, x1, s1, p1⟩ => by
    cases b with
    | true => rw [if_pos rfl] at p1 ⊢; exact p1 H1 μ1 (.refl _ _) s1
    | false => rw [if_neg Bool.false_ne_true] at p1 ⊢; exact ⟨ρ, st1, μ1, re.ext x1, s1, p1⟩⟩⟩
/-- as values: each but the last by its truth -/
def sAndV (f g : SE) : SE := fun ρ st => (f ρ st).bind fun x st => match truth x st with
  | some true => g ρ st
  | some false => .ok x st
  | none => .stuck
def sOrV (f g : SE) : SE := fun ρ st => (f ρ st).bind fun x st => match truth x st with
  | some true => .ok x st
  | some false => g ρ st
  | none => .stuck
theorem le_one {a : Expr} {op : BoolOp} {f : SE} (h : LE X E a f) : LE X E (.BoolOp op [a] pos) f := ⟨pe_one h.pe⟩
theorem le_and {a b : Expr} {rest : List Expr} {f g : SE} (ha : LE X E a f) (hb : LE X E (.BoolOp .And (b :: rest) pos) g) : LE X E (.BoolOp .And (a :: b :: rest) pos) (sAndV f g) := ⟨peMono (pe_andT ha.pe hb.pe) fun σ H Q ⟨ρ, st, μ, re, rs, p⟩ =>
  ⟨ρ, st, μ, re, rs, (Post.bind p).mono fun v H1 ⟨d, st1, μ1, x1, r1, s1, p1⟩ => by
    cases e : truth d st1 with
    | none => dsimp only at p1; rw [e] at p1; exact p1.elim
    | some k =>
      dsimp only at p1; rw [e] at p1
      refine ⟨k, truV r1 s1 e, ?_⟩
      cases k with
      | true => exact ⟨ρ, st1, μ1, re.ext x1, s1, p1⟩
      | false => exact p1 v H1 μ1 (.refl _ _) r1 s1⟩⟩
theorem le_or {a b : Expr} {rest : List Expr} {f g : SE} (ha : LE X E a f) (hb : LE X E (.BoolOp .Or (b :: rest) pos) g) : LE X E (.BoolOp .Or (a :: b :: rest) pos) (sOrV f g) := ⟨peMono (pe_orT ha.pe hb.pe) fun σ H Q ⟨ρ, st, μ, re, rs, p⟩ =>
  ⟨ρ, st, μ, re, rs, (Post.bind p).mono fun v H1 ⟨d, st1, μ1, x1, r1, s1, p1⟩ => by
    cases e : truth d st1 with
    | none => dsimp only at p1; rw [e] at p1; exact p1.elim
    | some k =>
      dsimp only at p1; rw [e] at p1
      refine ⟨k, truV r1 s1 e, ?_⟩
      cases k with
      | true => exact p1 v H1 μ1 (.refl _ _) r1 s1
      | false => exact ⟨ρ, st1, μ1, re.ext x1, s1, p1⟩⟩⟩
/-- a if t else b -/
def sIte (t : SB) (f g : SE) : SE := fun ρ st => (t ρ st).bind fun b st => if b = true then f ρ st else g ρ st
theorem le_ite {c a b : Expr} {t : SB} {f g : SE} (hc : LB X E c t) (ha : LE X E a f) (hb : LE X E b g) : LE X E (.IfExp c a b pos) (sIte t f g) := ⟨peMono (pe_ifExp hc.pt ha.pe hb.pe) fun σ H Q ⟨ρ, st, μ, re, rs, p⟩ =>
  ⟨ρ, st, μ, re, rs, (PostB.bind p).mono fun b H1 ⟨st1, μ1, x1, s1, p1⟩ => by
    cases b with
    | true => rw [if_pos rfl] at p1 ⊢; exact ⟨ρ, st1, μ1, re.ext x1, s1, p1⟩
    | false => rw [if_neg Bool.false_ne_true] at p1 ⊢; exact ⟨ρ, st1, μ1, re.ext x1, s1, p1⟩⟩⟩

/-! ### the store swept: what was made and is not held is forgotten -/
open Classical in
noncomputable def swept (st : Store) (r : Res D) : Res D := match r with
  | .ok d st' => if st.length ≤ st'.length ∧ d.low st.length = true ∧ ∀ (i : Nat) (o : SO), i < st.length → st'[i]? = some o → st[i]? = some o ∨ o.low st.length = true then .ok d (st'.take st.length) else .ok d st'
  | r => r
theorem RepS.sweep {K : PySem.W.Frag} {H H' : Hp} {μ μ' : List Addr} {st st' : Store} (s : RepS K H μ st) (x : Ext H μ H' μ') (s' : RepS K H' μ' st')
    (h : ∀ (i : Nat) (o : SO), i < st.length → st'[i]? = some o → st[i]? = some o ∨ o.low st.length = true) (hl : st.length ≤ st'.length) : Ext H μ H' μ ∧ RepS K H' μ (st'.take st.length) := by
  obtain ⟨m, e, f⟩ := x.pre
  refine ⟨⟨⟨[], by simp, by simp⟩, x.keep, x.live⟩, ⟨by rw [List.length_take, Nat.min_eq_left hl, s.len], s.nd, fun i a o e1 e2 => ?_⟩⟩
  have hi : i < st.length := by
    have := (List.getElem?_eq_some_iff.mp e2).1
    rw [List.length_take] at this
    omega
  rw [List.getElem?_take_of_lt hi] at e2
  have q := s'.obj i a o (by rw [e, List.getElem?_append_left (by rw [s.len]; exact hi)]; exact e1) e2
  rcases h i o hi e2 with z | z
  · have q0 := s.obj i a o e1 z
    -- the object as it was, described as it was
    rw [e] at q
    cases o with
    | lst ds =>
      obtain ⟨vs, e3, r3⟩ := q
      obtain ⟨ws, e4, r4⟩ := q0
      exact ⟨vs, e3, r3.cut r4.lows⟩
    | dK ds =>
      obtain ⟨vs, e3, r3⟩ := q
      obtain ⟨ws, e4, r4⟩ := q0
      exact ⟨vs, e3, r3.cut (RepF.lows r4)⟩
    | ins C ds =>
      obtain ⟨dx, vs, e3, r3⟩ := q
      obtain ⟨dx', ws, e4, r4⟩ := q0
      exact ⟨dx, vs, e3, r3.cut (RepF.lows r4)⟩
  · rw [e] at q
    exact q.cut (by rw [s.len]; exact z)
end
end L3

namespace L3
open PySem PySem.Spec PyProof.Rows L2
section
variable {X : Cx} {E : XK} {pos : Pos}
/-! ### arithmetic -/
def vAdd : F2 := fun x y st => match x, y with
  | .int i, .int j => .ok (.int (i + j)) st
  | .str a, .str b => if a.length + b.length ≤ sizeLine then .ok (.str (a ++ b)) st else .stuck
  | .tup a, .tup b => if a.length + b.length ≤ sizeLine then .ok (.tup (a ++ b)) st else .stuck
  | .ref m, .ref n => match st[m]?, st[n]? with
    | some (.lst a), some (.lst b) => if a.length + b.length ≤ sizeLine then .ok (.ref st.length) (st ++ [.lst (a ++ b)]) else .stuck
    | _, _ => .stuck
  | _, _ => .stuck
theorem op_vAdd : OpL X E (binaryOp .Add) vAdd := by
  intro pins s σ H x y v u Q I rx ry ⟨d, d', st, μ, h1, h2, h3, p⟩
  cases d <;> cases d' <;> first | exact (show False from p).elim | skip
  · cases h1; cases h2
    exact op_add pins s σ H _ _ v u Q I rx ry ⟨_, _, rfl, rfl, p _ H μ (.refl _ _) (.int _) h3⟩
  · cases h1; cases h2
    simp only [vAdd] at p
    split at p
    · exact op_add_str pins s σ H _ _ v u Q I rx ry ⟨_, _, rfl, rfl, by assumption, p _ H μ (.refl _ _) (.str _) h3⟩
    · exact p.elim
  · simp only [vAdd] at p
    cases h1 with
    | tup t1 r1 =>
      cases h2 with
      | tup t2 r2 =>
        split at p
        · rename_i hz
          refine op_catA pins s σ H _ _ v u Q I rx ry ⟨_, _, _, _, rfl, rfl, t1.sq, t2.sq, by rw [← r1.length, ← r2.length]; exact hz, fun e => ?_, fun _ e => ?_, fun _ _ a ha => ?_⟩
          · subst e
            cases r1
            exact p _ H μ (.refl _ _) (.tup t2 (by simpa using r2)) h3
          · subst e
            cases r2
            exact p _ H μ (.refl _ _) (.tup t1 (by simpa using r1)) h3
          · exact post_tup p (r1.append r2) h3 ha
        · exact p.elim
  · simp only [vAdd] at p
    cases h1 with
    | ref e1 =>
      cases h2 with
      | ref e2 =>
        split at p
        · rename_i xs ys q1 q2
          split at p
          · rename_i hz
            obtain ⟨a, f1, vs, g1, r1⟩ := h3.at q1
            obtain ⟨b, f2, ws, g2, r2⟩ := h3.at q2
            rw [e1] at f1; cases f1
            rw [e2] at f2; cases f2
            exact op_cat pins s σ H _ _ v u Q I rx ry ⟨_, _, _, _, rfl, rfl, g1, g2, by rw [← r1.length, ← r2.length]; exact hz, fun a ha => post_lst p (r1.append r2) h3 ha⟩
          · exact p.elim
        · exact p.elim
def vSub : F2 := fun x y st => match x, y with
  | .int i, .int j => .ok (.int (i - j)) st
  | _, _ => .stuck
theorem op_vSub : OpL X E (binaryOp .Sub) vSub := by
  intro pins s σ H x y v u Q I rx ry ⟨d, d', st, μ, h1, h2, h3, p⟩
  cases d <;> cases d' <;> first | exact (show False from p).elim | skip
  cases h1; cases h2
  exact op_sub pins s σ H _ _ v u Q I rx ry ⟨_, _, rfl, rfl, p _ H μ (.refl _ _) (.int _) h3⟩
/-- how wide an int is -/
def wid (i : Int) : Nat := i.natAbs.log2
def vMul : F2 := fun x y st => match x, y with
  | .int i, .int j => if wid i + wid j < 1000000 then .ok (.int (i * j)) st else .stuck
  | .str a, .int k => if a.length ≤ 1000000 ∧ k ≤ 1000000 ∧ -1000000 ≤ k ∧ a.length * k.toNat ≤ sizeLine then .ok (.str ⟨(List.replicate k.toNat a.cps).foldl (· ++ ·) #[]⟩) st else .stuck
  | .tup a, .int k => if a ≠ [] ∧ 2 ≤ k ∧ k ≤ 1000 ∧ a.length ≤ 1000 then .ok (.tup (List.replicate k.toNat a).flatten) st else .stuck
  | .ref m, .int k => match st[m]? with
    | some (.lst a) => if -1000000 ≤ k ∧ k ≤ 1000000 ∧ a.length * k.toNat ≤ sizeLine then .ok (.ref st.length) (st ++ [.lst (List.replicate k.toNat a).flatten]) else .stuck
    | _ => .stuck
  | _, _ => .stuck
theorem op_str_mul {pins : List (Addr × Obj)} {s : Shared} {σ : L2.St} {H : Hp} {a : Str} {k : Int} {v u : Value} {Q : VK} (I : Inv X pins σ H s) (rx : RelV (.str a) v) (ry : RelV (.int k) u) (h1 : k ≤ 1000000) (h2 : -1000000 ≤ k) (h3 : a.length * k.toNat ≤ sizeLine) (h4 : a.length ≤ 1000000)
    (q : Q (.str ⟨(List.replicate k.toNat a.cps).foldl (· ++ ·) #[]⟩) H) : wpAny (model X.prog X.w) X.A (binaryOp .Mult v u) (EP X pins σ Q) X.xe s := by
  obtain ⟨t, rfl⟩ := rx
  obtain ⟨t', rfl⟩ := ry
  refine PySem.P.mul_str (by
      have e1 : decide (k < -(2 ^ 63 : Int)) = false := decide_eq_false (by omega)
      have e2 : decide (k ≥ 2 ^ 63) = false := decide_eq_false (by omega)
      rw [e1, e2]; rfl) (fun hk _ => ?_) (fun hk _ => ?_) ?_
  · intro hb
    have h5 : ((2 : Int) ^ 63 - 1) / k ≥ 1000000 := by
      rw [ge_iff_le, Int.le_ediv_iff_mul_le (by omega)]
      omega
    omega
  · have hs : sizeLine = 16777216 := sizeLine_eq
    unfold PySem.Builtin.Str.tooLong
    first
      | exact decide_eq_false (by omega)
      | (simp only [decide_eq_false_iff_not]; omega)
  · by_cases hk : k < 1
    · rw [if_pos hk]
      have e : k.toNat = 0 := by omega
      refine ⟨by decide, ⟨.str Str.empty, H, I.tok _, ⟨_, rfl⟩, ?_⟩⟩
      rw [e] at q
      exact q
    · rw [if_neg hk]
      split
      · rename_i hc
        have hq : (⟨(List.replicate k.toNat a.cps).foldl (· ++ ·) #[]⟩ : Str) = a := by
          rcases Bool.or_eq_true_iff.mp hc with hc | hc
          · have : k = 1 := by simpa using hc
            subst this
            simp
          · have hz : a.cps = #[] := by
              have : a.length = 0 := by simpa using hc
              exact Array.eq_empty_of_size_eq_zero this
            have : ∀ n (b : Array Nat), b = #[] → (List.replicate n (#[] : Array Nat)).foldl (· ++ ·) b = #[] := by
              intro n
              induction n with
              | zero => intro b hb; simpa using hb
              | succ n ih => intro b hb; rw [List.replicate_succ, List.foldl_cons]; exact ih _ (by rw [hb]; rfl)
            rw [hz, this _ _ rfl]
            cases a; simp at hz; rw [hz]
        rw [hq] at q
        exact ⟨.str a, H, I, ⟨_, rfl⟩, q⟩
      · exact ⟨by
          have : (Str.length ⟨(List.replicate k.toNat a.cps).foldl (· ++ ·) #[]⟩) = a.length * k.toNat := by
            have gen : ∀ n (b : Array Nat), ((List.replicate n a.cps).foldl (· ++ ·) b).size = b.size + a.length * n := by
              intro n
              induction n with
              | zero => intro b; simp
              | succ n ih => intro b; rw [List.replicate_succ, List.foldl_cons, ih, Array.size_append, Nat.mul_succ]; have : a.length = a.cps.size := rfl; rw [this]; omega
            have := gen k.toNat #[]
            simpa [Str.length] using this
          rw [this]; exact h3, ⟨.str _, H, I.tok _, ⟨_, rfl⟩, q⟩⟩
theorem op_vMul : OpL X E (binaryOp .Mult) vMul := by
  intro pins s σ H x y v u Q I rx ry ⟨d, d', st, μ, h1, h2, h3, p⟩
  cases d <;> cases d' <;> first | exact (show False from p).elim | skip
  · cases h1; cases h2
    simp only [vMul] at p
    split at p
    · exact op_mulW pins s σ H _ _ v u Q I rx ry ⟨_, _, rfl, rfl, by assumption, p _ H μ (.refl _ _) (.int _) h3⟩
    · exact p.elim
  · cases h1; cases h2
    simp only [vMul] at p
    split at p
    · rename_i hz
      exact op_str_mul I rx ry hz.2.1 hz.2.2.1 hz.2.2.2 hz.1 (p _ H μ (.refl _ _) (.str _) h3)
    · exact p.elim
  · cases h2
    simp only [vMul] at p
    cases h1 with
    | tup t1 r1 =>
      split at p
      · rename_i hz
        refine op_repT pins s σ H _ _ v u Q I rx ry ⟨_, _, _, rfl, rfl, t1.sq, fun e => ?_, hz.2.1, hz.2.2.1, by rw [← r1.length]; exact hz.2.2.2, fun a ha => post_tup p (r1.rep _) h3 ha⟩
        subst e
        cases r1
        exact hz.1 rfl
      · exact p.elim
  · cases h2
    simp only [vMul] at p
    cases h1 with
    | ref e1 =>
      split at p
      · rename_i xs q1
        split at p
        · rename_i hz
          obtain ⟨a, f1, vs, g1, r1⟩ := h3.at q1
          rw [e1] at f1; cases f1
          exact op_rep pins s σ H _ _ v u Q I rx ry ⟨_, _, _, rfl, rfl, g1, by omega, by omega, by rw [← r1.length]; exact hz.2.2, fun a ha => post_lst p (r1.rep _) h3 ha⟩
        · exact p.elim
      · exact p.elim
def vFdiv : F2 := fun x y st => match x, y with
  | .int i, .int j => if 0 < j ∧ wid j < 9000 then .ok (.int (i / j)) st else .stuck
  | _, _ => .stuck
theorem op_vFdiv : OpL X E (binaryOp .FloorDiv) vFdiv := by
  intro pins s σ H x y v u Q I rx ry ⟨d, d', st, μ, h1, h2, h3, p⟩
  cases d <;> cases d' <;> first | exact (show False from p).elim | skip
  cases h1; cases h2
  simp only [vFdiv] at p
  split at p
  · exact op_fdivW pins s σ H _ _ v u Q I rx ry ⟨_, _, rfl, rfl, by assumption, p _ H μ (.refl _ _) (.int _) h3⟩
  · exact p.elim
def vMod : F2 := fun x y st => match x, y with
  | .int i, .int j => if 0 < j then .ok (.int (i % j)) st else .stuck
  | _, _ => .stuck
theorem op_vMod : OpL X E (binaryOp .Mod) vMod := by
  intro pins s σ H x y v u Q I rx ry ⟨d, d', st, μ, h1, h2, h3, p⟩
  cases d <;> cases d' <;> first | exact (show False from p).elim | skip
  cases h1; cases h2
  simp only [vMod] at p
  split at p
  · exact op_mod pins s σ H _ _ v u Q I rx ry ⟨_, _, rfl, rfl, by assumption, p _ H μ (.refl _ _) (.int _) h3⟩
  · exact p.elim
def vPow : F2 := fun x y st => match x, y with
  | .int i, .int j => if 0 ≤ j ∧ j ≤ 1000000 ∧ i.natAbs < 2 ^ 64 then .ok (.int (i ^ j.toNat)) st else .stuck
  | _, _ => .stuck
theorem op_vPow : OpL X E (binaryOp .Pow) vPow := by
  intro pins s σ H x y v u Q I rx ry ⟨d, d', st, μ, h1, h2, h3, p⟩
  cases d <;> cases d' <;> first | exact (show False from p).elim | skip
  cases h1; cases h2
  simp only [vPow] at p
  split at p
  · exact op_pow pins s σ H _ _ v u Q I rx ry ⟨_, _, rfl, rfl, by assumption, p _ H μ (.refl _ _) (.int _) h3⟩
  · exact p.elim
def vShl : F2 := fun x y st => match x, y with
  | .int i, .int j => if 0 ≤ j ∧ j ≤ 1000000 ∧ i.natAbs < 2 ^ 64 then .ok (.int (i * 2 ^ j.toNat)) st else .stuck
  | _, _ => .stuck
theorem op_vShl : OpL X E (binaryOp .LShift) vShl := by
  intro pins s σ H x y v u Q I rx ry ⟨d, d', st, μ, h1, h2, h3, p⟩
  cases d <;> cases d' <;> first | exact (show False from p).elim | skip
  cases h1; cases h2
  simp only [vShl] at p
  split at p
  · exact op_shl pins s σ H _ _ v u Q I rx ry ⟨_, _, rfl, rfl, by assumption, p _ H μ (.refl _ _) (.int _) h3⟩
  · exact p.elim
def vShr : F2 := fun x y st => match x, y with
  | .int i, .int j => if 0 ≤ j then .ok (.int (i / 2 ^ j.toNat)) st else .stuck
  | _, _ => .stuck
theorem op_vShr : OpL X E (binaryOp .RShift) vShr := by
  intro pins s σ H x y v u Q I rx ry ⟨d, d', st, μ, h1, h2, h3, p⟩
  cases d <;> cases d' <;> first | exact (show False from p).elim | skip
  cases h1; cases h2
  simp only [vShr] at p
  split at p
  · exact op_shr pins s σ H _ _ v u Q I rx ry ⟨_, _, rfl, rfl, by assumption, p _ H μ (.refl _ _) (.int _) h3⟩
  · exact p.elim

/-! ### order -/
def vCmpI (p : Int → Int → Bool) : F2 := fun x y st => match x, y with
  | .int i, .int j => .ok (.bl (p i j)) st
  | _, _ => .stuck
theorem op_cmpI {f : Value → Value → Sem Value} {p : Int → Int → Bool} (h : OpR X f (rI0 fun i j => .bl (p i j))) : OpL X E f (vCmpI p) := by
  intro pins s σ H x y v u Q I rx ry ⟨d, d', st, μ, h1, h2, h3, q⟩
  cases d <;> cases d' <;> first | exact (show False from q).elim | skip
  cases h1; cases h2
  exact h pins s σ H _ _ v u Q I rx ry ⟨_, _, rfl, rfl, q _ H μ (.refl _ _) (.bl _) h3⟩
abbrev vLt : F2 := vCmpI fun i j => decide (i < j)
abbrev vLe : F2 := vCmpI fun i j => decide (i ≤ j)
abbrev vGt : F2 := vCmpI fun i j => decide (j < i)
abbrev vGe : F2 := vCmpI fun i j => decide (j ≤ i)
theorem op_vLt : OpL X E (compareOp .Lt) vLt := op_cmpI op_lt
theorem op_vLe : OpL X E (compareOp .LtE) vLe := op_cmpI op_le
theorem op_vGt : OpL X E (compareOp .Gt) vGt := op_cmpI op_gt
theorem op_vGe : OpL X E (compareOp .GtE) vGe := op_cmpI op_ge

/-! ### equal -/
def pyAll (f : D → Option PyData) : List D → Option (List PyData)
  | [] => some []
  | d :: ds => match f d, pyAll f ds with
    | some a, some b => some (a :: b)
    | _, _ => none
def pyOf : Nat → Store → D → Option PyData
  | 0, _, _ => none
  | n + 1, st, d => match d with
    | .non => some .none
    | .bl b => some (.bool b)
    | .int i => some (.int i)
    | .str x => if PyData.strOk x = true then some (.str x) else none
    | .tup xs => (pyAll (pyOf n st) xs).map .tuple
    | .rl xs => (pyAll (pyOf n st) xs).map .list
    | .ref k => match st[k]? with
      | some (.lst xs) => (pyAll (pyOf n st) xs).map .list
      | _ => none
theorem pyOf_dp {K : PySem.W.Frag} {H : Hp} {μ : List Addr} {st : Store} (s : RepS K H μ st) : ∀ (n : Nat) (d : D) (v : V) (p : PyData), Rep K H μ d v → pyOf n st d = some p → Dp K H v p ∧ p.canLay0 = true ∧ p.depth ≤ n
  | 0, _, _, _, _, h => by cases h
  | n + 1, d, v, p, r, h => by
    have all : ∀ (ds : List D) (vs : List V) (ps : List PyData), Reps K H μ ds vs → pyAll (pyOf n st) ds = some ps → DpAll K H vs ps ∧ PyData.canLayAll0 ps = true ∧ PyData.depthAll ps ≤ n := by
      intro ds
      induction ds with
      | nil =>
        intro vs ps r h
        cases r
        cases h
        exact ⟨.nil, rfl, Nat.zero_le _⟩
      | cons d ds ih =>
        intro vs ps r h
        cases r with
        | cons r1 r2 =>
          simp only [pyAll] at h
          split at h
          · rename_i a b e1 e2
            cases h
            obtain ⟨h1, h2, h3⟩ := pyOf_dp s n d _ a r1 e1
            obtain ⟨k1, k2, k3⟩ := ih _ _ r2 e2
            exact ⟨.cons h1 k1, by simp only [PyData.canLayAll0, h2, k2, Bool.and_self], by simp only [PyData.depthAll]; omega⟩
          · cases h
    cases d with
    | non => cases r; cases h; exact ⟨.non, rfl, Nat.zero_le _⟩
    | bl b => cases r; cases h; exact ⟨.bl b, rfl, Nat.zero_le _⟩
    | int i => cases r; cases h; exact ⟨.int i, rfl, Nat.zero_le _⟩
    | str x =>
      cases r
      simp only [pyOf] at h
      split at h
      · rename_i hx
        cases h
        exact ⟨.str x, hx, Nat.zero_le _⟩
      · cases h
    | tup xs =>
      cases r with
      | tup t r1 =>
        simp only [pyOf] at h
        cases e : pyAll (pyOf n st) xs with
        | none => rw [e] at h; cases h
        | some ps =>
          rw [e] at h; cases h
          obtain ⟨h1, h2, h3⟩ := all xs _ ps r1 e
          exact ⟨.tup t.sq h1, h2, by simp only [PyData.depth]; omega⟩
    | rl xs =>
      cases r with
      | rl t r1 =>
        simp only [pyOf] at h
        cases e : pyAll (pyOf n st) xs with
        | none => rw [e] at h; cases h
        | some ps =>
          rw [e] at h; cases h
          obtain ⟨h1, h2, h3⟩ := all xs _ ps r1 e
          exact ⟨.lst t.sq h1, h2, by simp only [PyData.depth]; omega⟩
    | ref k =>
      cases r with
      | ref e1 =>
        simp only [pyOf] at h
        split at h
        · rename_i xs q1
          obtain ⟨a, f1, vs, g1, r1⟩ := s.at q1
          rw [e1] at f1; cases f1
          cases e : pyAll (pyOf n st) xs with
          | none => rw [e] at h; cases h
          | some ps =>
            rw [e] at h; cases h
            obtain ⟨h1, h2, h3⟩ := all xs _ ps r1 e
            exact ⟨.lst (.of g1) h1, h2, by simp only [PyData.depth]; omega⟩
        · cases h
theorem pyOf_shaped {K : PySem.W.Frag} {H : Hp} {μ : List Addr} {st : Store} (s : RepS K H μ st) {n : Nat} {d : D} {v : V} {p : PyData} (hn : n ≤ 64) (r : Rep K H μ d v) (h : pyOf n st d = some p) : Dp K H v p ∧ SeqAt.shaped p = true := by
  obtain ⟨h1, h2, h3⟩ := pyOf_dp s n d v p r h
  exact ⟨h1, by unfold SeqAt.shaped; rw [h2, decide_eq_true (Nat.le_trans h3 hn)]; rfl⟩
def eqB (st : Store) (x y : D) : Option Bool := match x, y with
  | .int i, .int j => some (decide (i = j))
  | .str a, .str b => some (decide (a = b))
  | .bl a, .bl b => some (decide (a = b))
  | .non, .non => some true
  | .non, .int _ => some false | .int _, .non => some false | .non, .bl _ => some false | .bl _, .non => some false | .non, .str _ => some false | .str _, .non => some false
  | .int _, .str _ => some false | .str _, .int _ => some false | .bl _, .str _ => some false | .str _, .bl _ => some false
  | x, y => match pyOf 9 st x, pyOf 9 st y with
    | some a, some b => some (PyData.eqv a b)
    | _, _ => none
def vEq : F2 := fun x y st => match eqB st x y with
  | some b => .ok (.bl b) st
  | none => .stuck
def vNe : F2 := fun x y st => match eqB st x y with
  | some b => .ok (.bl (!b)) st
  | none => .stuck
theorem eqB_ok {K : PySem.W.Frag} {H : Hp} {μ : List Addr} {st : Store} (s : RepS K H μ st) {x y : D} {v w : V} {b : Bool} (r1 : Rep K H μ x v) (r2 : Rep K H μ y w) (h : eqB st x y = some b) :
    (scal v w = true ∧ b = decide (v = w)) ∨ ∃ d e, Dp K H v d ∧ Dp K H w e ∧ SeqAt.shaped d = true ∧ SeqAt.shaped e = true ∧ b = PyData.eqv d e := by
  have deep : (match pyOf 9 st x, pyOf 9 st y with
    | some a, some b => some (PyData.eqv a b)
    | _, _ => none) = some b → ∃ d e, Dp K H v d ∧ Dp K H w e ∧ SeqAt.shaped d = true ∧ SeqAt.shaped e = true ∧ b = PyData.eqv d e := by
    intro h
    split at h
    · rename_i p q e1 e2
      cases h
      obtain ⟨a1, a2⟩ := pyOf_shaped s (by decide) r1 e1
      obtain ⟨b1, b2⟩ := pyOf_shaped s (by decide) r2 e2
      exact ⟨p, q, a1, b1, a2, b2, rfl⟩
    · cases h
  cases x <;> cases y <;> first
    | (cases r1; cases r2; simp only [eqB] at h; cases h; refine .inl ⟨rfl, ?_⟩; simp)
    | exact .inr (deep h)
theorem op_vEq (hu : X.A.units + 64 < cLine) : OpL X E (compareOp .Eq) vEq := by
  intro pins s σ H x y v u Q I rx ry ⟨d, d', st, μ, h1, h2, h3, p⟩
  unfold vEq at p
  cases e : eqB st d d' with
  | none => rw [e] at p; exact p.elim
  | some b =>
    rw [e] at p
    have q := p (.bl b) H μ (.refl _ _) (.bl b) h3
    rcases eqB_ok h3 h1 h2 e with ⟨hs, hb⟩ | ⟨d1, e1, h4, h5, h6, h7, hb⟩
    · subst hb; exact op_eq pins s σ H _ _ v u Q I rx ry ⟨hs, q⟩
    · subst hb; exact op_eqD hu pins s σ H _ _ v u Q I rx ry ⟨d1, e1, h4, h5, h6, h7, q⟩
theorem op_vNe (hu : X.A.units + 64 < cLine) : OpL X E (compareOp .NotEq) vNe := by
  intro pins s σ H x y v u Q I rx ry ⟨d, d', st, μ, h1, h2, h3, p⟩
  unfold vNe at p
  cases e : eqB st d d' with
  | none => rw [e] at p; exact p.elim
  | some b =>
    rw [e] at p
    have q := p (.bl !b) H μ (.refl _ _) (.bl _) h3
    rcases eqB_ok h3 h1 h2 e with ⟨hs, hb⟩ | ⟨d1, e1, h4, h5, h6, h7, hb⟩
    · subst hb; exact op_ne pins s σ H _ _ v u Q I rx ry ⟨hs, q⟩
    · subst hb; exact op_neD hu pins s σ H _ _ v u Q I rx ry ⟨d1, e1, h4, h5, h6, h7, q⟩
/-! ### is None, is a bool -/
def vIs : F2 := fun x y st => match x, y with
  | x, .non => .ok (.bl (match x with | .non => true | _ => false)) st
  | .bl a, .bl b => .ok (.bl (decide (a = b))) st
  | _, _ => .stuck
def vIsNot : F2 := fun x y st => match x, y with
  | x, .non => .ok (.bl (match x with | .non => false | _ => true)) st
  | .bl a, .bl b => .ok (.bl (!decide (a = b))) st
  | _, _ => .stuck
theorem op_vIs : OpL X E (compareOp .Is) vIs := by
  intro pins s σ H x y v u Q I rx ry ⟨d, d', st, μ, h1, h2, h3, p⟩
  cases d' with
  | non =>
    cases h2
    refine op_isN pins s σ H _ _ v u Q I rx ry ⟨rfl, ?_⟩
    cases d <;> cases h1 <;> exact p _ H μ (.refl _ _) (.bl _) h3
  | bl b =>
    cases d with
    | bl a => cases h1; cases h2; exact op_isBl pins s σ H _ _ v u Q I rx ry ⟨_, _, rfl, rfl, p _ H μ (.refl _ _) (.bl _) h3⟩
    | _ => exact (show False from p).elim
  | _ => cases d <;> exact (show False from p).elim
theorem op_vIsNot : OpL X E (compareOp .IsNot) vIsNot := by
  intro pins s σ H x y v u Q I rx ry ⟨d, d', st, μ, h1, h2, h3, p⟩
  cases d' with
  | non =>
    cases h2
    refine op_notN pins s σ H _ _ v u Q I rx ry ⟨rfl, ?_⟩
    cases d <;> cases h1 <;> exact p _ H μ (.refl _ _) (.bl _) h3
  | bl b =>
    cases d with
    | bl a => cases h1; cases h2; exact op_notBl pins s σ H _ _ v u Q I rx ry ⟨_, _, rfl, rfl, p _ H μ (.refl _ _) (.bl _) h3⟩
    | _ => exact (show False from p).elim
  | _ => cases d <;> exact (show False from p).elim

/-! ### subscripts -/
def IxL (X : Cx) (E : XK) (F : F2) : Prop := IxR X (lift2 X.K E F)
theorem le_ix {a b : Expr} {F : F2} {f g : SE} (hF : IxL X E F) (ha : LE X E a f) (hb : LE X E b g) (hs : PlainIx b := by exact fun _ _ => rfl) : LE X E (.Subscript a b pos) (s2 F f g) :=
  ⟨peMono (pe_ix hF ha.pe hb.pe hs) fun _ _ _ h => lift_s2 h⟩
theorem Reps.atI {K : PySem.W.Frag} {H : Hp} {μ : List Addr} {ds : List D} {vs : List V} {i : Int} {d : D} (r : Reps K H μ ds vs) (h : atI ds i = some d) : ∃ v, L2.atI vs i = some v ∧ Rep K H μ d v := by
  unfold L2.atI at h ⊢
  rw [r.length] at h
  cases e : ixN vs.length i with
  | none => rw [e] at h; cases h
  | some j =>
    rw [e] at h
    exact r.get h
def vIx : F2 := fun x y st => match x, y with
  | .tup xs, .int i => match L2.atI xs i with
    | some d => .ok d st
    | none => .stuck
  | .rl xs, .int i => match L2.atI xs i with
    | some d => .ok d st
    | none => .stuck
  | .str z, .int i => if z.length ≤ sizeLine then match L2.atI z.cps.toList i with
    | some c => .ok (.str ⟨#[c]⟩) st
    | none => .stuck else .stuck
  | .ref n, .int i => match st[n]? with
    | some (.lst xs) => match L2.atI xs i with
      | some d => .ok d st
      | none => .stuck
    | _ => .stuck
  | _, _ => .stuck
theorem ix_vIx : IxL X E vIx := by
  intro value slice pins s σ H x y v u Q I rx ry ⟨d, d', st, μ, h1, h2, h3, p⟩ hs
  cases d <;> cases d' <;> first | exact (show False from p).elim | skip
  · cases h1; cases h2
    simp only [vIx] at p
    split at p
    · split at p
      · exact ix_str value slice pins s σ H _ _ v u Q I rx ry ⟨_, _, _, rfl, rfl, by assumption, by assumption, p _ H μ (.refl _ _) (.str _) h3⟩ hs
      · exact p.elim
    · exact p.elim
  · cases h2
    simp only [vIx] at p
    cases h1 with
    | tup t r =>
      split at p
      · rename_i e
        obtain ⟨z, e1, r1⟩ := r.atI e
        exact ix_tup value slice pins s σ H _ _ v u Q I rx ry ⟨_, _, _, _, rfl, rfl, t.sq, e1, p _ H μ (.refl _ _) r1 h3⟩ hs
      · exact p.elim
  · cases h2
    simp only [vIx] at p
    cases h1 with
    | rl t r =>
      split at p
      · rename_i e
        obtain ⟨z, e1, r1⟩ := r.atI e
        exact ix_list value slice pins s σ H _ _ v u Q I rx ry ⟨_, _, _, _, rfl, rfl, t.sq, e1, p _ H μ (.refl _ _) r1 h3⟩ hs
      · exact p.elim
  · cases h2
    simp only [vIx] at p
    cases h1 with
    | ref e1 =>
      split at p
      · rename_i xs q1
        obtain ⟨a, f1, vs, g1, r⟩ := h3.at q1
        rw [e1] at f1; cases f1
        split at p
        · rename_i e
          obtain ⟨z, e1, r1⟩ := r.atI e
          exact ix_list value slice pins s σ H _ _ v u Q I rx ry ⟨_, _, _, _, rfl, rfl, .of g1, e1, p _ H μ (.refl _ _) r1 h3⟩ hs
        · exact p.elim
      · exact p.elim

/-! ### slices -/
abbrev SO' := Envr → Store → Res (Option Int)
def PostO (K : PySem.W.Frag) (H : Hp) (μ : List Addr) (r : Res (Option Int)) (Q : Option Int → Hp → Prop) (E : XK) : Prop :=
  match r with
  | .ok b st => ∀ H' μ', Ext H μ H' μ' → RepS K H' μ' st → Q b H'
  | .exc x st => ∀ c od H' μ', Ext H μ H' μ' → RepX K H' μ' x c od → RepS K H' μ' st → E c od H'
  | .stuck => False
theorem PostO.ext {K : PySem.W.Frag} {H H1 : Hp} {μ μ1 : List Addr} {r : Res (Option Int)} {Q : Option Int → Hp → Prop} (x : Ext H μ H1 μ1) (p : PostO K H μ r Q E) : PostO K H1 μ1 r Q E := by
  cases r with
  | ok d st => exact fun H' μ' e a => p H' μ' (x.trans e) a
  | exc y st => exact fun c od H' μ' e a b => p c od H' μ' (x.trans e) a b
  | stuck => exact p
def liftO (K : PySem.W.Frag) (E : XK) (f : SO') : TO := fun σ H Q => ∃ ρ st μ, RepE K H μ ρ σ ∧ RepS K H μ st ∧ PostO K H μ (f ρ st) Q E
structure LO (X : Cx) (E : XK) (e : Option Expr) (f : SO') : Prop where
  po : PO X e (liftO X.K E f)
theorem poMono {e : Option Expr} {t t' : TO} (h : PO X e t) (m : ∀ σ H Q, t' σ H Q → t σ H Q) : PO X e t' := ⟨fun pins s σ H Q I q => h.run pins s σ H Q I (m σ H Q q)⟩
def sNoPart : SO' := fun _ st => .ok none st
def sPart (f : SE) : SO' := fun ρ st => (f ρ st).bind fun d st => match d with
  | .int i => .ok (some i) st
  | _ => .stuck
theorem lo_none : LO X E none sNoPart := ⟨poMono po_none fun σ H Q ⟨ρ, st, μ, re, rs, p⟩ => p H μ (.refl _ _) rs⟩
theorem PostD.bindO {K : PySem.W.Frag} {H : Hp} {μ : List Addr} {r : Res D} {f : D → Store → Res (Option Int)} {Q : Option Int → Hp → Prop} (p : PostO K H μ (r.bind f) Q E) : Post K H μ r (Then K H μ fun d st1 H1 μ1 => PostO K H1 μ1 (f d st1) Q E) E := by
  cases r with
  | ok d st => exact fun v H' μ' e a b => ⟨d, st, μ', e, a, b, p.ext e⟩
  | exc y st => exact p
  | stuck => exact p
theorem lo_some {e : Expr} {f : SE} (h : LE X E e f) : LO X E (some e) (sPart f) := ⟨poMono (po_some h.pe) fun σ H Q ⟨ρ, st, μ, re, rs, p⟩ =>
  ⟨ρ, st, μ, re, rs, (PostD.bindO p).mono fun v H1 ⟨d, st1, μ1, x1, r1, s1, p1⟩ => by
    cases d with
    | int i => cases r1; exact ⟨i, rfl, p1 H1 μ1 (.refl _ _) s1⟩
    | _ => exact (show False from p1).elim⟩⟩
def ThenO (K : PySem.W.Frag) (H : Hp) (μ : List Addr) (R : Option Int → Store → Hp → List Addr → Prop) (v : Option Int) (H1 : Hp) : Prop :=
  ∃ st1 μ1, Ext H μ H1 μ1 ∧ RepS K H1 μ1 st1 ∧ R v st1 H1 μ1
theorem PostO.bindD {K : PySem.W.Frag} {H : Hp} {μ : List Addr} {r : Res (Option Int)} {f : Option Int → Store → Res D} {Q : VK} (p : Post K H μ (r.bind f) Q E) : PostO K H μ r (ThenO K H μ fun d st1 H1 μ1 => Post K H1 μ1 (f d st1) Q E) E := by
  cases r with
  | ok d st => exact fun H' μ' e b => ⟨st, μ', e, b, p.ext e⟩
  | exc y st => exact p
  | stuck => exact p
theorem PostO.mono {K : PySem.W.Frag} {H : Hp} {μ : List Addr} {r : Res (Option Int)} {Q Q' : Option Int → Hp → Prop} (p : PostO K H μ r Q E) (h : ∀ v H', Q v H' → Q' v H') : PostO K H μ r Q' E := by
  cases r with
  | ok d st => exact fun H' μ' e b => h d H' (p H' μ' e b)
  | exc y st => exact p
  | stuck => exact p
abbrev FS := D → Option Int → Option Int → Store → Res D
def sSlice (F : FS) (f : SE) (g h : SO') : SE := fun ρ st => (f ρ st).bind fun d st => (g ρ st).bind fun lo st => (h ρ st).bind fun hi st => F d lo hi st
def liftS3 (K : PySem.W.Frag) (E : XK) (F : FS) : V → Option Int → Option Int → Hp → VK → Prop := fun x lo hi H Q => ∃ d st μ, Rep K H μ d x ∧ RepS K H μ st ∧ Post K H μ (F d lo hi st) Q E
theorem le_slice {e : Expr} {lo hi : Option Expr} {p2 : Pos} {F : FS} {f : SE} {g h : SO'} (hF : SlR X (liftS3 X.K E F)) (he : LE X E e f) (hl : LO X E lo g) (hh : LO X E hi h) : LE X E (.Subscript e (.Slice lo hi none p2) pos) (sSlice F f g h) :=
  ⟨peMono (pe_slice hF he.pe hl.po hh.po) fun σ H Q ⟨ρ, st, μ, re, rs, p⟩ => ⟨ρ, st, μ, re, rs, (Post.bind p).mono fun v H1 ⟨d, st1, μ1, x1, r1, s1, p1⟩ =>
    ⟨ρ, st1, μ1, re.ext x1, s1, (PostO.bindD p1).mono fun l H2 ⟨st2, μ2, x2, s2, p2⟩ => ⟨ρ, st2, μ2, (re.ext x1).ext x2, s2, (PostO.bindD p2).mono fun l2 H3 ⟨st3, μ3, x3, s3, p3⟩ =>
      ⟨d, st3, μ3, (r1.ext x2).ext x3, s3, p3⟩⟩⟩⟩⟩
def cutD (xs : List D) (lo hi : Option Int) : List D := (xs.drop (HT.sIx xs.length 0 lo)).take (HT.sIx xs.length xs.length hi - HT.sIx xs.length 0 lo)
theorem Reps.cutV {K : PySem.W.Frag} {H : Hp} {μ : List Addr} {ds : List D} {vs : List V} (r : Reps K H μ ds vs) (lo hi : Option Int) : Reps K H μ (cutD ds lo hi) (L2.cutV vs lo hi) := by
  unfold cutD L2.cutV
  rw [r.length]
  exact (r.drop _).take _
def vSlice : FS := fun d lo hi st => match d with
  | .tup xs => .ok (.tup (cutD xs lo hi)) st
  | .rl xs => .ok (.ref st.length) (st ++ [.lst (cutD xs lo hi)])
  | .str z => if z.length ≤ sizeLine then .ok (.str (cutS z lo hi)) st else .stuck
  | .ref n => match st[n]? with
    | some (.lst xs) => .ok (.ref st.length) (st ++ [.lst (cutD xs lo hi)])
    | _ => .stuck
  | _ => .stuck
theorem cutD_all {xs : List D} {lo hi : Option Int} (h : HT.sIx xs.length 0 lo = 0 ∧ HT.sIx xs.length xs.length hi = xs.length) : cutD xs lo hi = xs := by
  unfold cutD
  rw [h.1, h.2]
  simp
theorem sl_vSlice : SlR X (liftS3 X.K E vSlice) := by
  intro pins s σ H x v vl vu lo hi sl Q I rx hs pl pu ⟨d, st, μ, h1, h3, p⟩
  cases d <;> first | exact (show False from p).elim | skip
  · cases h1
    simp only [vSlice] at p
    split at p
    · exact sl_str pins s σ H _ v vl vu lo hi sl Q I rx hs pl pu ⟨_, rfl, by assumption, p _ H μ (.refl _ _) (.str _) h3⟩
    · exact p.elim
  · cases h1 with
    | tup t r =>
      refine sl_tupA pins s σ H _ v vl vu lo hi sl Q I rx hs pl pu ⟨_, _, rfl, t.sq, fun hw => ?_, fun hw a ha => post_tup p (r.cutV lo hi) h3 ha⟩
      rw [← r.length] at hw
      refine p _ H μ (.refl _ _) ?_ h3
      rw [cutD_all hw]
      exact .tup t r
  · cases h1 with
    | rl t r => exact sl_list pins s σ H _ v vl vu lo hi sl Q I rx hs pl pu ⟨_, _, rfl, t.sq, fun a ha => post_lst p (r.cutV lo hi) h3 ha⟩
  · simp only [vSlice] at p
    cases h1 with
    | ref e1 =>
      split at p
      · rename_i xs q1
        obtain ⟨a, f1, vs, g1, r⟩ := h3.at q1
        rw [e1] at f1; cases f1
        exact sl_list pins s σ H _ v vl vu lo hi sl Q I rx hs pl pu ⟨_, _, rfl, .of g1, fun a ha => post_lst p (r.cutV lo hi) h3 ha⟩
      · exact p.elim
end
end L3

namespace L3
open PySem PySem.Spec PyProof.Rows L2
section
variable {X : Cx} {E : XK} {pos : Pos}
/-! ### swept -/
noncomputable def sSwp (f : SE) : SE := fun ρ st => swept st (f ρ st)
theorem post_swept {K : PySem.W.Frag} {H : Hp} {μ : List Addr} {st : Store} {r : Res D} {Q : VK} (s : RepS K H μ st) (p : Post K H μ (swept st r) Q E) : Post K H μ r Q E := by
  cases r with
  | ok d st' =>
    intro v H' μ' x r' s'
    unfold swept at p
    simp only at p
    split at p
    · rename_i hc
      obtain ⟨hl, hd, hq⟩ := hc
      obtain ⟨x2, s2⟩ := s.sweep x s' hq hl
      refine p v H' μ x2 ?_ s2
      obtain ⟨m, e, f⟩ := x.pre
      rw [e] at r'
      exact r'.cut (by rw [s.len]; exact hd)
    · exact p v H' μ' x r' s'
  | exc y st' => exact p
  | stuck => exact p
theorem le_swp {e : Expr} {f : SE} (h : LE X E e f) : LE X E e (sSwp f) := ⟨peMono h.pe fun σ H Q ⟨ρ, st, μ, re, rs, p⟩ => ⟨ρ, st, μ, re, rs, post_swept rs p⟩⟩

/-! ### built-ins by name -/
abbrev FL := List D → Store → Res D
def sCB (F : FL) (g : SL) : SE := fun ρ st => (g ρ st).bind F
def liftC (K : PySem.W.Frag) (E : XK) (F : FL) : List V → Hp → VK → Prop := fun vs H Q => ∃ ds st μ, Reps K H μ ds vs ∧ RepS K H μ st ∧ Post K H μ (F ds st) Q E
def CallL (X : Cx) (E : XK) (f : Value) (F : FL) : Prop := CallR X f (liftC X.K E F)
theorem lift_sCB {K : PySem.W.Frag} {F : FL} {g : SL} {σ : L2.St} {H : Hp} {Q : VK} (h : lift K E (sCB F g) σ H Q) : tCB (liftC K E F) (liftL K E g) σ H Q := by
  obtain ⟨ρ, st, μ, re, rs, p⟩ := h
  exact ⟨ρ, st, μ, re, rs, (PostL.bind p).mono fun v H1 ⟨d, st1, μ1, x1, r1, s1, p1⟩ => ⟨d, st1, μ1, r1, s1, p1⟩⟩
section
variable {x : Str} {p : Pos} {e : Expr} {es : List Expr} {g : SL} {id T : String} {F : FL}
theorem le_callB (hc : CallL X E (.builtin id) F) (hg : Gl X x) (hm : X.mg x = none) (hv : bootBuiltins x = some (.builtin id)) (ha : LL X E (e :: es) g) (hn : x ≠ "__name__" := by decide) (hdb : (x == ("__debug__" : Str)) = false := by decide)
    (he : starEach (e :: es) X.env = (false, eval e X.env) :: starEach es X.env := by rfl) (hpl : (backTo pos (starEach es X.env)).any (·.1) = false := by rfl) : LE X E (.Call (.Name x p) (e :: es) [] pos) (sCB F g) :=
  ⟨peMono (pe_callB hc hg hm hv ha.pa hn hdb he hpl) fun _ _ _ h => lift_sCB h⟩
theorem le_callTy (hc : CallL X E (.type T) F) (hg : Gl X x) (hm : X.mg x = none) (hv : bootBuiltins x = some (.type T)) (ha : LL X E (e :: es) g) (hn : x ≠ "__name__" := by decide) (hdb : (x == ("__debug__" : Str)) = false := by decide)
    (he : starEach (e :: es) X.env = (false, eval e X.env) :: starEach es X.env := by rfl) (hpl : (backTo pos (starEach es X.env)).any (·.1) = false := by rfl) : LE X E (.Call (.Name x p) (e :: es) [] pos) (sCB F g) :=
  ⟨peMono (pe_callTy hc hg hm hv ha.pa hn hdb he hpl) fun _ _ _ h => lift_sCB h⟩
end
def bAbs : FL := fun ds st => match ds with
  | [.int i] => .ok (.int i.natAbs) st
  | _ => .stuck
theorem reps1 {K : PySem.W.Frag} {H : Hp} {μ : List Addr} {d : D} {vs : List V} (r : Reps K H μ [d] vs) : ∃ v, vs = [v] ∧ Rep K H μ d v := by
  cases r with
  | cons r t => cases t; exact ⟨_, rfl, r⟩
theorem reps2 {K : PySem.W.Frag} {H : Hp} {μ : List Addr} {d d' : D} {vs : List V} (r : Reps K H μ [d, d'] vs) : ∃ v w, vs = [v, w] ∧ Rep K H μ d v ∧ Rep K H μ d' w := by
  cases r with
  | cons r t =>
    obtain ⟨w, e, r2⟩ := reps1 t
    subst e
    exact ⟨_, _, rfl, r, r2⟩
theorem cl_abs : CallL X E (.builtin "abs") bAbs := by
  intro pins s σ H vs us Q I rv ⟨ds, st, μ, h1, h2, p⟩
  unfold bAbs at p
  split at p
  · rename_i i
    obtain ⟨v, rfl, r⟩ := reps1 h1
    cases r
    refine call_abs pins s σ H _ us Q I rv ⟨_, rfl, ?_⟩
    have e : (if i < 0 then -i else i) = (i.natAbs : Int) := by split <;> omega
    rw [e]
    exact p _ H μ (.refl _ _) (.int _) h2
  · exact p.elim
def bLen : FL := fun ds st => match ds with
  | [.tup xs] => .ok (.int xs.length) st
  | [.rl xs] => .ok (.int xs.length) st
  | [.str z] => if z.length ≤ sizeLine then .ok (.int z.length) st else .stuck
  | [.ref n] => match st[n]? with
    | some (.lst xs) => .ok (.int xs.length) st
    | some (.dK xs) => .ok (.int xs.length) st
    | _ => .stuck
  | _ => .stuck
theorem RepF.length {κ : Type} {K : PySem.W.Frag} {H : Hp} {μ : List Addr} : ∀ {ds : List (κ × D)} {vs : List (κ × V)}, RepF K H μ ds vs → ds.length = vs.length
  | _, _, .nil => rfl
  | _, _, .cons _ t => congrArg (· + 1) (RepF.length t)
theorem cl_len : CallL X E (.builtin "len") bLen := by
  intro pins s σ H vs us Q I rv ⟨ds, st, μ, h1, h2, p⟩
  unfold bLen at p
  split at p
  · obtain ⟨v, rfl, r⟩ := reps1 h1
    cases r with
    | tup t r => exact call_len pins s σ H _ us Q I rv ⟨_, _, rfl, .inr ⟨_, t.sq, rfl⟩, by rw [← r.length]; exact p _ H μ (.refl _ _) (.int _) h2⟩
  · obtain ⟨v, rfl, r⟩ := reps1 h1
    cases r with
    | rl t r => exact call_len pins s σ H _ us Q I rv ⟨_, _, rfl, .inl ⟨_, t.sq, rfl⟩, by rw [← r.length]; exact p _ H μ (.refl _ _) (.int _) h2⟩
  · obtain ⟨v, rfl, r⟩ := reps1 h1
    cases r
    split at p
    · exact call_len pins s σ H _ us Q I rv ⟨_, _, rfl, ⟨by assumption, rfl⟩, p _ H μ (.refl _ _) (.int _) h2⟩
    · exact p.elim
  · obtain ⟨v, rfl, r⟩ := reps1 h1
    cases r with
    | ref e1 =>
      split at p
      · rename_i xs q1
        obtain ⟨a, f1, ws, g1, r⟩ := h2.at q1
        rw [e1] at f1; cases f1
        exact call_len pins s σ H _ us Q I rv ⟨_, _, rfl, .inl ⟨_, .of g1, rfl⟩, by rw [← r.length]; exact p _ H μ (.refl _ _) (.int _) h2⟩
      · rename_i xs q1
        obtain ⟨a, f1, ws, g1, r⟩ := h2.at q1
        rw [e1] at f1; cases f1
        exact call_lenD pins s σ H _ us Q I rv ⟨_, _, rfl, g1, by rw [← r.length]; exact p _ H μ (.refl _ _) (.int _) h2⟩
      · exact p.elim
  · exact p.elim
/-- the ints of a list of data -/
def intsOf : List D → Option (List Int)
  | [] => some []
  | .int i :: ds => (intsOf ds).map (i :: ·)
  | _ :: _ => none
theorem intsOf_eq : ∀ {ds : List D} {ns : List Int}, intsOf ds = some ns → ds = ns.map D.int
  | [], _, h => by cases h; rfl
  | .int i :: ds, ns, h => by
    simp only [intsOf] at h
    cases e : intsOf ds with
    | none => rw [e] at h; cases h
    | some ms => rw [e] at h; cases h; rw [intsOf_eq e]; rfl
  | .non :: _, _, h => by cases h
  | .bl _ :: _, _, h => by cases h
  | .str _ :: _, _, h => by cases h
  | .tup _ :: _, _, h => by cases h
  | .rl _ :: _, _, h => by cases h
  | .ref _ :: _, _, h => by cases h
theorem intsOf_map : ∀ (ns : List Int), intsOf (ns.map D.int) = some ns
  | [] => rfl
  | i :: ns => by simp only [List.map_cons, intsOf, intsOf_map ns, Option.map_some]
/-- the items of a list, a tuple -/
def seqOf (d : D) (st : Store) : Option (List D) := match d with
  | .tup xs => some xs
  | .rl xs => some xs
  | .ref n => match st[n]? with
    | some (.lst xs) => some xs
    | _ => none
  | _ => none
theorem seqOf_sq {K : PySem.W.Frag} {H : Hp} {μ : List Addr} {d : D} {v : V} {st : Store} {xs : List D} (r : Rep K H μ d v) (s : RepS K H μ st) (h : seqOf d st = some xs) : ∃ a vs, v = .ref a ∧ Reps K H μ xs vs ∧ (SqL K H a vs ∨ SqT K H a vs) := by
  cases d with
  | tup xs => cases h; cases r with | tup t r => exact ⟨_, _, rfl, r, .inr t.sq⟩
  | rl xs => cases h; cases r with | rl t r => exact ⟨_, _, rfl, r, .inl t.sq⟩
  | ref n =>
    cases r with
    | ref e1 =>
      simp only [seqOf] at h
      split at h
      · rename_i xs q1
        cases h
        obtain ⟨a, f1, ws, g1, r⟩ := s.at q1
        rw [e1] at f1; cases f1
        exact ⟨_, _, rfl, r, .inl (.of g1)⟩
      · cases h
  | _ => cases h
/-- .. of a list alone -/
def seqNT (d : D) (st : Store) : Option (List D) := match d with
  | .tup _ => none
  | d => seqOf d st
def bMax : FL := fun ds st => match ds with
  | [.int i, .int j] => .ok (.int (max i j)) st
  | [d] => match (seqNT d st).bind intsOf with
    | some (n :: ns) => .ok (.int (ns.foldl max n)) st
    | _ => .stuck
  | _ => .stuck
def bMin : FL := fun ds st => match ds with
  | [.int i, .int j] => .ok (.int (min i j)) st
  | [d] => match (seqNT d st).bind intsOf with
    | some (n :: ns) => .ok (.int (ns.foldl min n)) st
    | _ => .stuck
  | _ => .stuck
theorem foldl_max_mem : ∀ (ns : List Int) (n : Int), ns.foldl max n ∈ n :: ns ∧ ∀ y ∈ n :: ns, y ≤ ns.foldl max n
  | [], n => by simp
  | m :: ns, n => by
    obtain ⟨h1, h2⟩ := foldl_max_mem ns (max n m)
    simp only [List.foldl_cons]
    refine ⟨?_, fun y hy => ?_⟩
    · rcases List.mem_cons.mp h1 with h | h
      · rw [h]
        rcases Int.le_total n m with k | k
        · rw [Int.max_eq_right k]; simp
        · rw [Int.max_eq_left k]; simp
      · simp [h]
    · have h0 := h2 (max n m) (by simp)
      rcases List.mem_cons.mp hy with rfl | hy
      · exact Int.le_trans (Int.le_max_left _ _) h0
      · rcases List.mem_cons.mp hy with rfl | hy
        · exact Int.le_trans (Int.le_max_right _ _) h0
        · exact h2 y (by simp [hy])
theorem foldl_min_mem : ∀ (ns : List Int) (n : Int), ns.foldl min n ∈ n :: ns ∧ ∀ y ∈ n :: ns, ns.foldl min n ≤ y
  | [], n => by simp
  | m :: ns, n => by
    obtain ⟨h1, h2⟩ := foldl_min_mem ns (min n m)
    simp only [List.foldl_cons]
    refine ⟨?_, fun y hy => ?_⟩
    · rcases List.mem_cons.mp h1 with h | h
      · rw [h]
        rcases Int.le_total n m with k | k
        · rw [Int.min_eq_left k]; simp
        · rw [Int.min_eq_right k]; simp
      · simp [h]
    · have h0 := h2 (min n m) (by simp)
      rcases List.mem_cons.mp hy with rfl | hy
      · exact Int.le_trans h0 (Int.min_le_left _ _)
      · rcases List.mem_cons.mp hy with rfl | hy
        · exact Int.le_trans h0 (Int.min_le_right _ _)
        · exact h2 y (by simp [hy])
theorem notTup {K : PySem.W.Frag} {H : Hp} {μ : List Addr} {d : D} {v : V} {st : Store} {xs : List D} (hd : ∀ ys, d ≠ .tup ys) (r : Rep K H μ d v) (s : RepS K H μ st) (h : seqOf d st = some xs) : ∃ a vs, v = .ref a ∧ Reps K H μ xs vs ∧ SqL K H a vs := by
  cases d with
  | tup xs => exact (hd _ rfl).elim
  | rl xs => cases h; cases r with | rl t r => exact ⟨_, _, rfl, r, t.sq⟩
  | ref n =>
    cases r with
    | ref e1 =>
      simp only [seqOf] at h
      split at h
      · rename_i xs q1
        cases h
        obtain ⟨a, f1, ws, g1, r⟩ := s.at q1
        rw [e1] at f1; cases f1
        exact ⟨_, _, rfl, r, .of g1⟩
      · cases h
  | _ => cases h
theorem seqNT_sq {K : PySem.W.Frag} {H : Hp} {μ : List Addr} {d : D} {v : V} {st : Store} {xs : List D} (r : Rep K H μ d v) (s : RepS K H μ st) (h : seqNT d st = some xs) : ∃ a vs, v = .ref a ∧ Reps K H μ xs vs ∧ SqL K H a vs := by
  cases d with
  | tup xs => cases h
  | _ => exact notTup (fun ys h => by cases h) r s h
theorem cl_max (hc : X.calm = true) : CallL X E (.builtin "max") bMax := by
  intro pins s σ H vs us Q I rv ⟨ds, st, μ, h1, h2, p⟩
  unfold bMax at p
  split at p
  · obtain ⟨v, w', rfl, r1, r2⟩ := reps2 h1
    cases r1; cases r2
    refine call_max2 hc pins s σ H _ us Q I rv ⟨_, _, rfl, ?_⟩
    rename_i i j
    have e : (if j > i then j else i) = max i j := by split <;> omega
    rw [e]
    exact p _ H μ (.refl _ _) (.int _) h2
  · obtain ⟨v, rfl, r⟩ := reps1 h1
    rename_i _ d
    split at p
    · rename_i n ns e
      cases q : seqNT d st with
      | none => rw [q] at e; cases e
      | some xs =>
        rw [q] at e
        have e2 : intsOf xs = some (n :: ns) := e
        have e3 := intsOf_eq e2
        subst e3
        obtain ⟨a, ws, rfl, rw', sq⟩ := seqNT_sq r h2 q
        obtain rfl := rw'.ints
        obtain ⟨m1, m2⟩ := foldl_max_mem ns n
        refine cr_max hc pins s σ H _ us Q I rv ⟨_, _, rfl, sq, by simp, fun m hm hy => ?_⟩
        have : m = ns.foldl max n := Int.le_antisymm (m2 m hm) (hy _ m1)
        rw [this]
        exact p _ H μ (.refl _ _) (.int _) h2
    · exact p.elim
  · exact p.elim
theorem cl_min (hc : X.calm = true) : CallL X E (.builtin "min") bMin := by
  intro pins s σ H vs us Q I rv ⟨ds, st, μ, h1, h2, p⟩
  unfold bMin at p
  split at p
  · obtain ⟨v, w', rfl, r1, r2⟩ := reps2 h1
    cases r1; cases r2
    refine call_min2 hc pins s σ H _ us Q I rv ⟨_, _, rfl, ?_⟩
    rename_i i j
    have e : (if j < i then j else i) = min i j := by split <;> omega
    rw [e]
    exact p _ H μ (.refl _ _) (.int _) h2
  · obtain ⟨v, rfl, r⟩ := reps1 h1
    rename_i _ d
    split at p
    · rename_i n ns e
      cases q : seqNT d st with
      | none => rw [q] at e; cases e
      | some xs =>
        rw [q] at e
        have e2 : intsOf xs = some (n :: ns) := e
        have e3 := intsOf_eq e2
        subst e3
        obtain ⟨a, ws, rfl, rw', sq⟩ := seqNT_sq r h2 q
        obtain rfl := rw'.ints
        obtain ⟨m1, m2⟩ := foldl_min_mem ns n
        refine cr_min hc pins s σ H _ us Q I rv ⟨_, _, rfl, sq, by simp, fun m hm hy => ?_⟩
        have : m = ns.foldl min n := Int.le_antisymm (hy _ m1) (m2 m hm)
        rw [this]
        exact p _ H μ (.refl _ _) (.int _) h2
    · exact p.elim
  · exact p.elim
def bSum : FL := fun ds st => match ds with
  | [d] => match (seqOf d st).bind intsOf with
    | some ns => .ok (.int ns.sum) st
    | none => .stuck
  | _ => .stuck
theorem sumT_raw {prog : Program} {w : World} {A : Around} {E : Value → Shared → Prop} {s : Shared} {l : Addr} {its : List Value} {ns : List Int} {Q : Value → Shared → Prop} (hh : A.handled = none) (hl : s.heap.IsTuple l its.toArray) (hi : IntsAre its ns)
    (h : ∀ h' tk t', (∀ b o, s.heap.get? b = some o → h'.get? b = some o) → Q (.int ns.sum t') { s with heap := h', toks := tk }) : wpAny (model prog w) A (call (.builtin "sum") [.ref l]) Q E s := by
  obtain ⟨xs, e⟩ := hi.allInts.items
  have hn : numsOf (intItems xs).toList = ns := by rw [← e]; exact hi.numsOf
  rw [nums_intItems] at hn
  rw [e] at hl
  refine PySem.W.ktm_sumG hh hl fun h' tk t' hk => ?_
  have := h h' tk t' hk
  rw [preSum_eq, List.take_of_length_le (by simp), hn]; exact this
theorem cl_sum (hc : X.calm = true) : CallL X E (.builtin "sum") bSum := by
  intro pins s σ H vs us Q I rv ⟨ds, st, μ, h1, h2, p⟩
  unfold bSum at p
  split at p
  · obtain ⟨v, rfl, r⟩ := reps1 h1
    rename_i d
    split at p
    · rename_i ns e
      cases q : seqOf d st with
      | none => rw [q] at e; cases e
      | some xs =>
        rw [q] at e
        have e2 : intsOf xs = some ns := e
        have e3 := intsOf_eq e2
        subst e3
        obtain ⟨a, ws, rfl, rw', sq⟩ := seqOf_sq r h2 q
        obtain rfl := rw'.ints
        rcases sq with sq | sq
        · exact cr_sum hc pins s σ H _ us Q I rv ⟨_, _, rfl, sq, p _ H μ (.refl _ _) (.int _) h2⟩
        · obtain ⟨its, rv', ht, _⟩ := I.tuple sq
          rw [Vals.ref1 rv]
          exact sumT_raw (I.ok.hd hc) ht rv'.ints fun h' tk t' hk => ⟨.int _, H, I.kept hk, ⟨_, rfl⟩, p _ H μ (.refl _ _) (.int _) h2⟩
    · exact p.elim
  · exact p.elim
def bInt : FL := fun ds st => match ds with
  | [.int i] => .ok (.int i) st
  | [.bl b] => .ok (.int (if b then 1 else 0)) st
  | [.str x] => match PySem.intText? x with
    | some n => if x.length ≤ 640 then .ok (.int n) st else .stuck
    | none => .stuck
  | _ => .stuck
theorem cl_int : CallL X E (.type "int") bInt := by
  intro pins s σ H vs us Q I rv ⟨ds, st, μ, h1, h2, p⟩
  unfold bInt at p
  split at p
  · obtain ⟨v, rfl, r⟩ := reps1 h1
    cases r
    exact call_int1 pins s σ H _ us Q I rv (.inl ⟨_, rfl, p _ H μ (.refl _ _) (.int _) h2⟩)
  · obtain ⟨v, rfl, r⟩ := reps1 h1
    cases r
    exact call_int1 pins s σ H _ us Q I rv (.inr ⟨_, rfl, p _ H μ (.refl _ _) (.int _) h2⟩)
  · obtain ⟨v, rfl, r⟩ := reps1 h1
    cases r
    split at p
    · split at p
      · exact call_int_str pins s σ H _ us Q I rv ⟨_, _, rfl, by assumption, by assumption, p _ H μ (.refl _ _) (.int _) h2⟩
      · exact p.elim
    · exact p.elim
  · exact p.elim
def bStr : FL := fun ds st => match ds with
  | [.int i] => if i.natAbs.log2 < 1920 then .ok (.str (toString i)) st else .stuck
  | _ => .stuck
theorem cl_str : CallL X E (.type "str") bStr := by
  intro pins s σ H vs us Q I rv ⟨ds, st, μ, h1, h2, p⟩
  unfold bStr at p
  split at p
  · obtain ⟨v, rfl, r⟩ := reps1 h1
    cases r
    split at p
    · exact call_str_int pins s σ H _ us Q I rv ⟨_, rfl, by assumption, p _ H μ (.refl _ _) (.str _) h2⟩
    · exact p.elim
  · exact p.elim
def bTuple : FL := fun ds st => match ds with
  | [d] => match seqOf d st with
    | some xs => .ok (.tup xs) st
    | none => .stuck
  | _ => .stuck
theorem cl_tuple : CallL X E (.type "tuple") bTuple := by
  intro pins s σ H vs us Q I rv ⟨ds, st, μ, h1, h2, p⟩
  unfold bTuple at p
  split at p
  · obtain ⟨v, rfl, r⟩ := reps1 h1
    rename_i d
    split at p
    · rename_i xs q
      cases d with
      | tup ys =>
        cases q
        cases id r with
        | tup t r' => exact call_tuple_of pins s σ H _ us Q I rv ⟨_, _, rfl, .inr ⟨t.sq, p _ H μ (.refl _ _) r h2⟩⟩
      | _ =>
        obtain ⟨a, ws, rfl, rw', sq⟩ := notTup (fun ys h => by cases h) r h2 q
        exact call_tuple_of pins s σ H _ us Q I rv ⟨_, _, rfl, .inl ⟨sq, fun b hb => post_tup p rw' h2 hb⟩⟩
    · exact p.elim
  · exact p.elim
def bList : FL := fun ds st => match ds with
  | [d] => match seqOf d st with
    | some xs => .ok (.ref st.length) (st ++ [.lst xs])
    | none => .stuck
  | _ => .stuck
theorem cl_list : CallL X E (.type "list") bList := by
  intro pins s σ H vs us Q I rv ⟨ds, st, μ, h1, h2, p⟩
  unfold bList at p
  split at p
  · obtain ⟨v, rfl, r⟩ := reps1 h1
    rename_i d
    split at p
    · rename_i xs q
      obtain ⟨a, ws, rfl, rw', sq⟩ := seqOf_sq r h2 q
      exact call_list_of pins s σ H _ us Q I rv ⟨_, _, rfl, sq, fun b hb => post_lst p rw' h2 hb⟩
    · exact p.elim
  · exact p.elim
/-! ### isinstance(x, T), T a built-in type by its name -/
def tyName (d : D) (st : Store) : Option String := match d with
  | .non => some "NoneType"
  | .bl _ => some "bool"
  | .int _ => some "int"
  | .str _ => some "str"
  | .tup _ => some "tuple"
  | .rl _ => some "list"
  | .ref n => match st[n]? with
    | some (.lst _) => some "list"
    | some (.dK _) => some "dict"
    | _ => none
theorem tyX_of {K : PySem.W.Frag} {H : Hp} {μ : List Addr} {d : D} {v : V} {st : Store} {n : String} (r : Rep K H μ d v) (s : RepS K H μ st) (h : tyName d st = some n) : TyX K H v (.type n) := by
  cases d with
  | non => cases r; cases h; exact .base .non
  | bl b => cases r; cases h; exact .base (.bl b)
  | int i => cases r; cases h; exact .base (.int i)
  | str x => cases r; cases h; exact .base (.str x)
  | tup xs =>
    cases h
    cases r with
    | tup t r =>
      rcases t with ⟨h | ⟨o, h⟩, _⟩ | ⟨o, its, n, h1, h2, _⟩
      · exact .base (.tup h)
      · exact .fTuple h
      · exact .kTuple h1 h2
  | rl xs =>
    cases h
    cases r with
    | rl t r =>
      rcases t with ⟨⟨o, h⟩, _⟩ | ⟨o, its, n, h1, h2, _⟩
      · exact .base (.frz h)
      · exact .kList h1 h2
  | ref k =>
    cases r with
    | ref e1 =>
      simp only [tyName] at h
      split at h
      · rename_i xs q1
        cases h
        obtain ⟨a, f1, ws, g1, r⟩ := s.at q1
        rw [e1] at f1; cases f1
        exact .base (.lst g1)
      · rename_i xs q1
        cases h
        obtain ⟨a, f1, ws, g1, r⟩ := s.at q1
        rw [e1] at f1; cases f1
        exact .base (.dK g1)
      · cases h
def isiB (T : String) (n : String) : Bool := match T with
  | "int" => n == "int" || n == "bool"
  | T => n == T
def sIsi (T : String) (f : SE) : SE := fun ρ st => (f ρ st).bind fun d st => match tyName d st with
  | some n => match kitB n T with
    | some b => .ok (.bl b) st
    | none => .stuck
  | none => .stuck
theorem le_isi {p : Pos} {e : Expr} {T : String} {x : Str} {p2 : Pos} {f : SE} (hg : Gl X "isinstance") (hm : X.mg "isinstance" = none) (hg2 : Gl X x) (hm2 : X.mg x = none) (hv2 : bootBuiltins x = some (.type T)) (ha : LE X E e f) (hn2 : x ≠ "__name__" := by decide) (hd2 : (x == ("__debug__" : Str)) = false := by decide)
    (he : starEach (e :: [.Name x p2]) X.env = (false, eval e X.env) :: starEach [.Name x p2] X.env := by rfl)
    (he2 : starEach [.Name x p2] X.env = (false, eval (.Name x p2) X.env) :: starEach [] X.env := by rfl)
    (hpl : (backTo pos (starEach [.Name x p2] X.env)).any (·.1) = false := by rfl) : LE X E (.Call (.Name "isinstance" p) (e :: [.Name x p2]) [] pos) (sIsi T f) :=
  ⟨peMono (pe_callB call_isi hg hm (by decide +kernel) (pa_cons ha.pe (pa_cons (pe_bltn (v := .ty T) hg2 hm2 hv2 rfl hn2 hd2) pa_nil he2) he) (by decide) (by decide) he hpl) fun σ H Q ⟨ρ, st, μ, re, rs, p⟩ => by
    refine ⟨ρ, st, μ, re, rs, (Post.bind p).mono fun v H1 ⟨d, st1, μ1, x1, r1, s1, p1⟩ => ?_⟩
    dsimp only at p1
    split at p1
    · rename_i n e1
      split at p1
      · rename_i b e2
        exact ⟨v, .ty T, .type n, .type T, b, rfl, .ty T, tyX_of r1 s1 e1, kit_ty e2, p1 _ H1 μ1 (.refl _ _) (.bl b) s1⟩
      · exact p1.elim
    · exact p1.elim⟩

/-! ### methods of lists, of texts -/
abbrev FM := Nat → List D → Store → Res D
def isLst (st : Store) (n : Nat) : Bool := match st[n]? with
  | some (.lst _) => true
  | _ => false
def sML (F : FM) (f : SE) (g : SL) : SE := fun ρ st => (f ρ st).bind fun d st => match d with
  | .ref n => if isLst st n = true then (g ρ st).bind fun ds st => F n ds st else .stuck
  | _ => .stuck
def liftM (K : PySem.W.Frag) (E : XK) (F : FM) : V → List V → Hp → VK → Prop := fun x vs H Q => ∃ n a ds st μ, x = .ref a ∧ μ[n]? = some a ∧ Reps K H μ ds vs ∧ RepS K H μ st ∧ Post K H μ (F n ds st) Q E
section
variable {o e : Expr} {es : List Expr} {name : Str} {apos cpos : Pos} {id : String} {F : FM} {f : SE} {g : SL}
theorem isLst_ty {K : PySem.W.Frag} {H : Hp} {μ : List Addr} {st : Store} {n : Nat} {a : Addr} (s : RepS K H μ st) (e : μ[n]? = some a) (h : isLst st n = true) : tyV K "list" (.ref a) H := by
  unfold isLst at h
  split at h
  · rename_i xs q1
    obtain ⟨a', f1, ws, g1, r⟩ := s.at q1
    rw [e] at f1; cases f1
    exact .inl ⟨rfl, _, .of g1⟩
  · cases h
theorem le_ml (slot : Slot "list" name id) (hty : typeOf (.builtin id) = pure (.type "method_descriptor")) (hm : MtR X id (liftM X.K E F)) (ho : LE X E o f) (ha : LL X E (e :: es) g)
    (hbase : attributeBase o name X.env (eval o X.env) = eval o X.env := by rfl)
    (hfew : ((backTo cpos (starEach (e :: es) X.env)).all (fun x => !x.1) && (backToKw cpos (keywordEach [] X.env)).all (fun x => x.1.isSome)
      && decide ((e :: es).length + ([] : List Keyword).length + (if ([] : List Keyword).isEmpty then 0 else 1) < 30)) = true := by rfl)
    (hline : (apos.endLine == cpos.line) = true := by rfl) (hs : starEach (e :: es) X.env = (false, eval e X.env) :: starEach es X.env := by rfl) (hplain : (backTo cpos (starEach es X.env)).any (·.1) = false := by rfl) :
    LE X E (.Call (.Attribute o name apos) (e :: es) [] cpos) (sML F f g) :=
  ⟨peMono (pe_bm PySem.F.plainAttrs_list slot hty hm ho.pe ha.pa hbase hfew hline hs hplain) fun σ H Q ⟨ρ, st, μ, re, rs, p⟩ => by
    refine ⟨ρ, st, μ, re, rs, (Post.bind p).mono fun v H1 ⟨d, st1, μ1, x1, r1, s1, p1⟩ => ?_⟩
    cases d with
    | ref n =>
      dsimp only at p1
      split at p1
      · rename_i hl
        cases r1 with
        | ref e1 =>
          refine ⟨isLst_ty s1 e1 hl, ρ, st1, μ1, re.ext x1, s1, (PostL.bind p1).mono fun vs H2 ⟨ds, st2, μ2, x2, r2, s2, p2⟩ => ?_⟩
          exact ⟨n, _, ds, st2, μ2, rfl, x2.get e1, r2, s2, p2⟩
      · exact p1.elim
    | _ => exact (show False from p1).elim⟩
theorem le_ml0 (slot : Slot "list" name id) (hty : typeOf (.builtin id) = pure (.type "method_descriptor")) (hm : MtR X id (liftM X.K E F)) (ho : LE X E o f)
    (hbase : attributeBase o name X.env (eval o X.env) = eval o X.env := by rfl) (hline : (apos.endLine == cpos.line) = true := by rfl) : LE X E (.Call (.Attribute o name apos) [] [] cpos) (sML F f sNil) :=
  ⟨peMono (pe_bm0 PySem.F.plainAttrs_list slot hty hm ho.pe hbase hline) fun σ H Q ⟨ρ, st, μ, re, rs, p⟩ => by
    refine ⟨ρ, st, μ, re, rs, (Post.bind p).mono fun v H1 ⟨d, st1, μ1, x1, r1, s1, p1⟩ => ?_⟩
    cases d with
    | ref n =>
      dsimp only at p1
      split at p1
      · rename_i hl
        cases r1 with
        | ref e1 => exact ⟨isLst_ty s1 e1 hl, n, _, [], st1, μ1, rfl, e1, .nil, s1, p1⟩
      · exact p1.elim
    | _ => exact (show False from p1).elim⟩
end
theorem post_set {K : PySem.W.Frag} {H : Hp} {μ : List Addr} {d : D} {v : V} {st : Store} {Q : VK} {n : Nat} {a : Addr} {xs : List D} {vs : List V} (p : Post K H μ (.ok d (st.set n (.lst xs))) Q E) (e : μ[n]? = some a) (r : Rep K H μ d v) (rs : Reps K H μ xs vs) (s : RepS K H μ st) : Q v (upd H a (.lst vs)) :=
  have x : Ext H μ (upd H a (.lst vs)) μ := .write (List.mem_of_getElem? e)
  p v _ μ x (r.ext x) (s.write e ⟨vs, upd_same, rs.ext x⟩)
def mAppend : FM := fun n ds st => match ds, st[n]? with
  | [y], some (.lst xs) => if xs.length < sizeLine then .ok .non (st.set n (.lst (xs ++ [y]))) else .stuck
  | _, _ => .stuck
theorem ml_append : MtR X "list.append" (liftM X.K E mAppend) := by
  intro pins s σ H x vs v us Q I rx rvs ⟨n, a, ds, st, μ, hx, e, r, hs, p⟩
  subst hx
  unfold mAppend at p
  split at p
  · rename_i y xs q1
    split at p
    · obtain ⟨v1, rfl, ry⟩ := reps1 r
      obtain ⟨a', f1, ws, g1, r1⟩ := hs.at q1
      rw [e] at f1; cases f1
      exact mt_append pins s σ H _ _ v us Q I rx rvs ⟨_, _, _, rfl, rfl, g1, by rw [← r1.length]; assumption, post_set p e .non (r1.append (.cons ry .nil)) hs⟩
    · exact p.elim
  · exact p.elim
def mPop : FM := fun n ds st => match ds, st[n]? with
  | [], some (.lst xs) => match xs[xs.length - 1]? with
    | some y => .ok y (st.set n (.lst xs.dropLast))
    | none => .stuck
  | [.int i], some (.lst xs) => if -(2 ^ 63) ≤ i ∧ i < 2 ^ 63 then match seqIndex? i xs.length with
    | some k => match xs[k]? with
      | some y => .ok y (st.set n (.lst (xs.eraseIdx k)))
      | none => .stuck
    | none => .stuck else .stuck
  | _, _ => .stuck
theorem ml_pop : MtR X "list.pop" (liftM X.K E mPop) := by
  intro pins s σ H x vs v us Q I rx rvs ⟨n, a, ds, st, μ, hx, e, r, hs, p⟩
  subst hx
  unfold mPop at p
  split at p
  · rename_i xs q1
    split at p
    · rename_i y ey
      cases r
      obtain ⟨a', f1, ws, g1, r1⟩ := hs.at q1
      rw [e] at f1; cases f1
      obtain ⟨z, ez, rz⟩ := r1.get ey
      exact mt_pop pins s σ H _ _ v us Q I rx rvs ⟨_, _, _, rfl, rfl, g1, by rw [← r1.length]; exact ez, post_set p e rz r1.dropLast hs⟩
    · exact p.elim
  · rename_i i xs q1
    split at p
    · rename_i hi
      split at p
      · rename_i k ek
        split at p
        · rename_i y ey
          obtain ⟨v1, rfl, ri⟩ := reps1 r
          cases ri
          obtain ⟨a', f1, ws, g1, r1⟩ := hs.at q1
          rw [e] at f1; cases f1
          obtain ⟨z, ez, rz⟩ := r1.get ey
          exact mt_popAt pins s σ H _ _ v us Q I rx rvs ⟨_, _, _, _, _, rfl, rfl, g1, hi.1, hi.2, by rw [← r1.length]; exact ek, ez, post_set p e rz (r1.eraseIdx k) hs⟩
        · exact p.elim
      · exact p.elim
    · exact p.elim
  · exact p.elim
/-- extend by a list -/
def mExtend : FM := fun n ds st => match ds, st[n]? with
  | [.ref m], some (.lst xs) => match st[m]? with
    | some (.lst ys) => if xs.length + ys.length ≤ sizeLine then .ok .non (st.set n (.lst (xs ++ ys))) else .stuck
    | _ => .stuck
  | _, _ => .stuck
theorem ml_extend : MtR X "list.extend" (liftM X.K E mExtend) := by
  intro pins s σ H x vs v us Q I rx rvs ⟨n, a, ds, st, μ, hx, e, r, hs, p⟩
  subst hx
  unfold mExtend at p
  split at p
  · rename_i m xs q1
    split at p
    · rename_i ys q2
      split at p
      · rename_i hz
        obtain ⟨v1, rfl, ri⟩ := reps1 r
        obtain ⟨a', f1, ws, g1, r1⟩ := hs.at q1
        rw [e] at f1; cases f1
        cases ri with
        | ref e2 =>
          obtain ⟨b', f2, zs, g2, r2⟩ := hs.at q2
          rw [e2] at f2; cases f2
          exact mt_extend pins s σ H _ _ v us Q I rx rvs ⟨_, _, _, _, rfl, rfl, g1, g2, by rw [← r1.length, ← r2.length]; exact hz, post_set p e .non (r1.append r2) hs⟩
      · exact p.elim
    · exact p.elim
  · exact p.elim
/-! texts -/
abbrev FT := Str → List D → Store → Res D
def sMT (F : FT) (f : SE) (g : SL) : SE := fun ρ st => (f ρ st).bind fun d st => match d with
  | .str z => (g ρ st).bind fun ds st => F z ds st
  | _ => .stuck
def liftT (K : PySem.W.Frag) (E : XK) (F : FT) : V → List V → Hp → VK → Prop := fun x vs H Q => ∃ z ds st μ, x = .str z ∧ Reps K H μ ds vs ∧ RepS K H μ st ∧ Post K H μ (F z ds st) Q E
section
variable {o e : Expr} {es : List Expr} {name : Str} {apos cpos : Pos} {id : String} {F : FT} {f : SE} {g : SL}
theorem le_mt (slot : Slot "str" name id) (hty : typeOf (.builtin id) = pure (.type "method_descriptor")) (hm : MtR X id (liftT X.K E F)) (ho : LE X E o f) (ha : LL X E (e :: es) g)
    (hbase : attributeBase o name X.env (eval o X.env) = eval o X.env := by rfl)
    (hfew : ((backTo cpos (starEach (e :: es) X.env)).all (fun x => !x.1) && (backToKw cpos (keywordEach [] X.env)).all (fun x => x.1.isSome)
      && decide ((e :: es).length + ([] : List Keyword).length + (if ([] : List Keyword).isEmpty then 0 else 1) < 30)) = true := by rfl)
    (hline : (apos.endLine == cpos.line) = true := by rfl) (hs : starEach (e :: es) X.env = (false, eval e X.env) :: starEach es X.env := by rfl) (hplain : (backTo cpos (starEach es X.env)).any (·.1) = false := by rfl) :
    LE X E (.Call (.Attribute o name apos) (e :: es) [] cpos) (sMT F f g) :=
  ⟨peMono (pe_bm PySem.F.plainAttrs_str slot hty hm ho.pe ha.pa hbase hfew hline hs hplain) fun σ H Q ⟨ρ, st, μ, re, rs, p⟩ => by
    refine ⟨ρ, st, μ, re, rs, (Post.bind p).mono fun v H1 ⟨d, st1, μ1, x1, r1, s1, p1⟩ => ?_⟩
    cases d with
    | str z =>
      cases r1
      refine ⟨rfl, ρ, st1, μ1, re.ext x1, s1, (PostL.bind p1).mono fun vs H2 ⟨ds, st2, μ2, x2, r2, s2, p2⟩ => ?_⟩
      exact ⟨z, ds, st2, μ2, rfl, r2, s2, p2⟩
    | _ => exact (show False from p1).elim⟩
end
def strsOf : List D → Option (List Str)
  | [] => some []
  | .str i :: ds => (strsOf ds).map (i :: ·)
  | _ :: _ => none
theorem strsOf_eq : ∀ {ds : List D} {ns : List Str}, strsOf ds = some ns → ds = ns.map D.str
  | [], _, h => by cases h; rfl
  | .str i :: ds, ns, h => by
    simp only [strsOf] at h
    cases e : strsOf ds with
    | none => rw [e] at h; cases h
    | some ms => rw [e] at h; cases h; rw [strsOf_eq e]; rfl
  | .non :: _, _, h => by cases h
  | .bl _ :: _, _, h => by cases h
  | .int _ :: _, _, h => by cases h
  | .tup _ :: _, _, h => by cases h
  | .rl _ :: _, _, h => by cases h
  | .ref _ :: _, _, h => by cases h
theorem strsOf_map : ∀ (ns : List Str), strsOf (ns.map D.str) = some ns
  | [] => rfl
  | i :: ns => by simp only [List.map_cons, strsOf, strsOf_map ns, Option.map_some]
def tJoin : FT := fun z ds st => match ds with
  | [d] => match (seqOf d st).bind strsOf with
    | some ys => if (ys.map (·.length)).sum + ys.length * z.length ≤ 16777216 then .ok (.str (Txt.join z ys)) st else .stuck
    | none => .stuck
  | _ => .stuck
theorem mt_tJoin : MtR X "str.join" (liftT X.K E tJoin) := by
  intro pins s σ H x vs v us Q I rx rvs ⟨z, ds, st, μ, hx, r, hs, p⟩
  subst hx
  unfold tJoin at p
  split at p
  · rename_i d
    obtain ⟨v1, rfl, r1⟩ := reps1 r
    split at p
    · rename_i ys e
      split at p
      · cases q : seqOf d st with
        | none => rw [q] at e; cases e
        | some xs =>
          rw [q] at e
          have e3 := strsOf_eq (show strsOf xs = some ys from e)
          subst e3
          obtain ⟨a, ws, rfl, rw', sq⟩ := seqOf_sq r1 hs q
          obtain rfl := rw'.strs
          exact mt_join pins s σ H _ _ v us Q I rx rvs ⟨_, _, _, rfl, rfl, sq, by assumption, p _ H μ (.refl _ _) (.str _) hs⟩
      · exact p.elim
    · exact p.elim
  · exact p.elim
def tCount : FT := fun z ds st => match ds with
  | [.str b] => .ok (.int (Txt.count z b)) st
  | _ => .stuck
theorem mt_tCount : MtR X "str.count" (liftT X.K E tCount) := by
  intro pins s σ H x vs v us Q I rx rvs ⟨z, ds, st, μ, hx, r, hs, p⟩
  subst hx
  unfold tCount at p
  split at p
  · obtain ⟨v1, rfl, r1⟩ := reps1 r
    cases r1
    exact mt_count pins s σ H _ _ v us Q I rx rvs ⟨_, _, rfl, rfl, p _ H μ (.refl _ _) (.int _) hs⟩
  · exact p.elim

/-! ### the text's own defs -/
def spOf (K : PySem.W.Frag) (n : Nat) (F : FL) : Sp := fun vs H Q _ => vs.length = n ∧ ∃ ds st μ, Reps K H μ ds vs ∧ RepS K H μ st ∧ Post K H μ (F ds st) Q E0
theorem spOf_len {K : PySem.W.Frag} {n : Nat} {F : FL} {ps : List Str} (h : n = ps.length) : ∀ vs H Q E, spOf K n F vs H Q E → vs.length = ps.length := fun vs H Q E q => by rw [← h]; exact q.1
theorem le_call {x : Str} {p : Pos} {e : Expr} {es : List Expr} {CX : CXT} {k n : Nat} {f : Addr} {fd : FuncData} {ps : List Str} {G : FL} {g : SL} (F : FnOk X.prog X.w X.K X.mg X.base CX k f fd ps (spOf X.K n G)) (hr : Room k X.A) (hg : Gl X x) (hm : X.mg x = some (.ref f)) (hk : PySem.W.keepIn X.K (.ref f) = true)
    (hb : Binds X.K fd ps []) (hx : Passes CX X E0) (ha : LL X E0 (e :: es) g) (hl : LenIs g n) (hdb : (x == ("__debug__" : Str)) = false := by decide) (he : starEach (e :: es) X.env = (false, eval e X.env) :: starEach es X.env := by rfl) (hpl : (backTo pos (starEach es X.env)).any (·.1) = false := by rfl) :
    LE X E0 (.Call (.Name x p) (e :: es) [] pos) (sCB G g) :=
  ⟨peMono (pe_call F hr hg hm hk hb .nil hx ha.pa hdb he hpl) fun σ H Q ⟨ρ, st, μ, re, rs, p⟩ => ⟨ρ, st, μ, re, rs, ((PostL.bind p).len fun ds st' e => hl _ _ _ _ e).mono fun vs H1 ⟨en, d, st1, μ1, x1, r1, s1, p1⟩ => by
    rw [List.append_nil]
    exact ⟨en, d, st1, μ1, r1, s1, p1⟩⟩⟩
/-- keywords: the values in the order of the call, then put in the parameters' order -/
structure LK (X : Cx) (E : XK) (kws : List Keyword) (f : SL) : Prop where
  pk : PK X kws (liftL X.K E f)
theorem pkMono {kws : List Keyword} {t t' : TA} (h : PK X kws t) (m : ∀ σ H Q, t' σ H Q → t σ H Q) : PK X kws t' := ⟨fun pos pins s σ H Q I q => h.run pos pins s σ H Q I (m σ H Q q)⟩
theorem lk_nil : LK X E [] sNil := ⟨pkMono pk_nil fun σ H Q ⟨ρ, st, μ, re, rs, p⟩ => p _ H μ (.refl H μ) .nil rs⟩
theorem lk_cons {nm : Option Str} {kpos : Pos} {e : Expr} {kws : List Keyword} {f : SE} {g : SL} (ha : LE X E e f) (hr : LK X E kws g) : LK X E (⟨nm, e, kpos⟩ :: kws) (sCons f g) :=
  ⟨pkMono (pk_cons ha.pe hr.pk) fun σ H Q ⟨ρ, st, μ, re, rs, p⟩ => by
    have p1 := Post.bindL (f := fun d st => (g ρ st).bind fun ds st => .ok (d :: ds) st) p
    refine ⟨ρ, st, μ, re, rs, p1.mono fun v H1 ⟨d, st1, μ1, x1, r1, s1, p2⟩ => ?_⟩
    refine ⟨ρ, st1, μ1, re.ext x1, s1, (PostL.bindL (f := fun ds st => .ok (d :: ds) st) p2).mono fun vs H2 ⟨ds, st2, μ2, x2, r2, s2, p3⟩ => ?_⟩
    exact p3 (v :: vs) H2 μ2 (.refl _ _) (.cons (r1.ext x2) r2) s2⟩
end
end L3

namespace L3
open PySem PySem.Spec PyProof.Rows L2

/-! ### targets -/
inductive Tgt where
  | nm (i : Nat)
  | tp (ts : List Tgt)
mutual
def Tgt.rd (K : PySem.W.Frag) : Tgt → TG
  | .nm i => gName i
  | .tp ts => gTup K ts.length (Tgt.rds K ts)
def Tgt.rds (K : PySem.W.Frag) : List Tgt → TGs
  | [] => gNil
  | t :: ts => gCons (Tgt.rd K t) (Tgt.rds K ts)
end
mutual
def Tgt.ev : Tgt → D → Envr → Option Envr
  | .nm i, d, ρ => some (ρ.set i (some d))
  | .tp ts, d, ρ => match d with
    | .tup ds => Tgt.evs ts ds ρ
    | _ => none
def Tgt.evs : List Tgt → List D → Envr → Option Envr
  | [], [], ρ => some ρ
  | t :: ts, d :: ds, ρ => match Tgt.ev t d ρ with
    | some ρ1 => Tgt.evs ts ds ρ1
    | none => none
  | _, _, _ => none
end
mutual
def Tgt.slots : Tgt → List Nat
  | .nm i => [i]
  | .tp ts => Tgt.slotss ts
def Tgt.slotss : List Tgt → List Nat
  | [] => []
  | t :: ts => Tgt.slots t ++ Tgt.slotss ts
end
theorem Tgt.evs_len : ∀ (ts : List Tgt) (ds : List D) (ρ ρ' : Envr), Tgt.evs ts ds ρ = some ρ' → ts.length = ds.length
  | [], [], _, _, _ => rfl
  | [], _ :: _, _, _, e => by simp only [Tgt.evs] at e; cases e
  | _ :: _, [], _, _, e => by simp only [Tgt.evs] at e; cases e
  | t :: ts, d :: ds, ρ, ρ', e => by
    simp only [Tgt.evs] at e
    cases e1 : Tgt.ev t d ρ with
    | none => rw [e1] at e; cases e
    | some ρ1 => rw [e1] at e; simp [Tgt.evs_len ts ds ρ1 ρ' e]
theorem wipe_set {i : Nat} {x : Option V} : ∀ {vs : List Nat} {σ : L2.St}, i ∈ vs → wipe (σ.set i x) vs = wipe σ vs
  | [], _, h => by cases h
  | v :: vs, σ, h => by
    show (wipe (σ.set i x) vs).set v none = (wipe σ vs).set v none
    by_cases hv : i = v
    · subst hv
      -- what stands at i is overwritten
      have gen : ∀ (ws : List Nat) (τ : L2.St), (wipe (τ.set i x) ws).set i none = (wipe τ ws).set i none := by
        intro ws
        induction ws with
        | nil => intro τ; show (τ.set i x).set i none = τ.set i none; rw [List.set_set]
        | cons w ws ih =>
          intro τ
          show ((wipe (τ.set i x) ws).set w none).set i none = ((wipe τ ws).set w none).set i none
          by_cases hw : w = i
          · subst hw; rw [List.set_set, List.set_set]; exact ih τ
          · rw [List.set_comm _ _ hw, List.set_comm _ _ hw, ih τ]
      exact gen vs σ
    · rw [wipe_set (by rcases List.mem_cons.mp h with h | h; exact absurd h hv; exact h)]
section
variable {K : PySem.W.Frag} {H : Hp} {μ : List Addr}
mutual
theorem Tgt.ok : ∀ (t : Tgt) {d : D} {v : V} {ρ ρ' : Envr} {σ : L2.St} {Q : L2.St → Hp → Prop}, Rep K H μ d v → RepE K H μ ρ σ → Tgt.ev t d ρ = some ρ' → (∀ σ', RepE K H μ ρ' σ' → (∀ vs, (∀ i ∈ t.slots, i ∈ vs) → wipe σ' vs = wipe σ vs) → Q σ' H) → Tgt.rd K t v σ H Q
  | .nm i, d, v, ρ, ρ', σ, Q, r, re, e, q => by
    simp only [Tgt.ev] at e
    cases e
    simp only [Tgt.rd]
    exact q _ (re.set r) fun vs h => wipe_set (h i (by simp [Tgt.slots]))
  | .tp ts, d, v, ρ, ρ', σ, Q, r, re, e, q => by
    cases d with
    | tup ds =>
      cases r with
      | tup t r =>
        simp only [Tgt.ev] at e
        simp only [Tgt.rd]
        obtain ⟨h1, h2⟩ := Tgt.oks ts r re e (fun σ' h1 h2 => q σ' h1 fun vs hv => h2 vs (by simpa [Tgt.slots] using hv))
        exact ⟨_, _, rfl, t.sq, h1, h2⟩
    | _ => simp only [Tgt.ev] at e; cases e
theorem Tgt.oks : ∀ (ts : List Tgt) {ds : List D} {vs : List V} {ρ ρ' : Envr} {σ : L2.St} {Q : L2.St → Hp → Prop}, Reps K H μ ds vs → RepE K H μ ρ σ → Tgt.evs ts ds ρ = some ρ' → (∀ σ', RepE K H μ ρ' σ' → (∀ ws, (∀ i ∈ Tgt.slotss ts, i ∈ ws) → wipe σ' ws = wipe σ ws) → Q σ' H) → vs.length = ts.length ∧ Tgt.rds K ts vs σ H Q
  | [], [], vs, ρ, ρ', σ, Q, r, re, e, q => by
    cases r
    simp only [Tgt.evs] at e
    cases e
    simp only [Tgt.rds]
    exact ⟨rfl, rfl, q σ re fun _ _ => rfl⟩
  | [], _ :: _, vs, ρ, ρ', σ, Q, r, re, e, q => by simp only [Tgt.evs] at e; cases e
  | _ :: _, [], vs, ρ, ρ', σ, Q, r, re, e, q => by simp only [Tgt.evs] at e; cases e
  | t :: ts, d :: ds, vs, ρ, ρ', σ, Q, r, re, e, q => by
    cases r with
    | @cons _ v _ vs r1 r2 =>
      simp only [Tgt.evs] at e
      cases e1 : Tgt.ev t d ρ with
      | none => rw [e1] at e; cases e
      | some ρ1 =>
        rw [e1] at e
        simp only [Tgt.rds]
        have hl : vs.length = ts.length := by rw [← r2.length]; exact (Tgt.evs_len ts ds ρ1 ρ' e).symm
        refine ⟨by simp [hl], v, vs, rfl, Tgt.ok t r1 re e1 fun σ1 re1 w1 => ?_⟩
        exact (Tgt.oks ts r2 re1 e (fun σ' re' w2 => q σ' re' fun ws hw => (w2 ws fun i hi => hw i (by simp [Tgt.slotss, hi])).trans (w1 ws fun i hi => hw i (by simp [Tgt.slotss, hi])))).2
end
end
structure LTg (X : Cx) (target : Expr) (t : Tgt) : Prop where
  pg : PG X target (Tgt.rd X.K t)
structure LTgs (X : Cx) (targets : List Expr) (t : List Tgt) : Prop where
  pgs : PGs X targets (Tgt.rds X.K t)
section
variable {X : Cx} {E : XK} {pos : Pos}
theorem lt_nm (i : Nat) {x : Str} (hN : X.N.Nodup) (hi : X.N[i]? = some x := by rfl) (hx : Loc X.env.scope x := by first | exact .inl rfl | exact .inr rfl) (hf : X.fn x = true ∨ X.env.scope.names.lookup x = some .local := by first | exact .inl rfl | exact .inr rfl) : LTg X (.Name x pos) (.nm i) :=
  ⟨by simp only [Tgt.rd]; exact pg_name hN hi hx hf⟩
theorem lts_nil : LTgs X [] [] := ⟨by simp only [Tgt.rds]; exact pgs_nil⟩
theorem lts_cons {e : Expr} {es : List Expr} {t : Tgt} {ts : List Tgt} (h1 : LTg X e t) (h2 : LTgs X es ts)
    (hs : (assignEach (e :: es) X.env).map (·.2) = assign e X.env :: (assignEach es X.env).map (·.2) := by rfl) : LTgs X (e :: es) (t :: ts) := ⟨by simp only [Tgt.rds]; exact pgs_cons h1.pg h2.pgs hs⟩
theorem lt_tp {es : List Expr} {ts : List Tgt} {k : Nat} (hc : X.calm = true) (h : LTgs X es ts) (hn : (assignEach es X.env).length = ts.length := by rfl) (hst : (assignEach es X.env).findIdx? (·.1) = none := by rfl) : LTg X (.Tuple es k pos) (.tp ts) :=
  ⟨by simp only [Tgt.rd]; exact pg_tup hc h.pgs hn hst⟩

/-! ### statements -/
inductive SRes where
  | nx (ρ : Envr) (st : Store)
  | rt (d : D) (st : Store)
  | bk (ρ : Envr) (st : Store)
  | ct (ρ : Envr) (st : Store)
  | exc (x : Exn) (st : Store)
  | stuck
abbrev SS := Envr → Store → SRes
def PostS (K : PySem.W.Frag) (H : Hp) (μ : List Addr) (r : SRes) (D : Ends) (E : XK) : Prop :=
  match r with
  | .nx ρ st => ∀ σ' H' μ', Ext H μ H' μ' → RepE K H' μ' ρ σ' → RepS K H' μ' st → D.nx σ' H'
  | .rt d st => ∀ v H' μ', Ext H μ H' μ' → Rep K H' μ' d v → RepS K H' μ' st → D.rt v H'
  | .bk ρ st => ∀ σ' H' μ', Ext H μ H' μ' → RepE K H' μ' ρ σ' → RepS K H' μ' st → D.bk σ' H'
  | .ct ρ st => ∀ σ' H' μ', Ext H μ H' μ' → RepE K H' μ' ρ σ' → RepS K H' μ' st → D.ct σ' H'
  | .exc x st => ∀ c od H' μ', Ext H μ H' μ' → RepX K H' μ' x c od → RepS K H' μ' st → E c od H'
  | .stuck => False
theorem PostS.ext {K : PySem.W.Frag} {H H1 : Hp} {μ μ1 : List Addr} {r : SRes} {D : Ends} (x : Ext H μ H1 μ1) (p : PostS K H μ r D E) : PostS K H1 μ1 r D E := by
  cases r with
  | nx ρ st => exact fun σ' H' μ' e a b => p σ' H' μ' (x.trans e) a b
  | bk ρ st => exact fun σ' H' μ' e a b => p σ' H' μ' (x.trans e) a b
  | ct ρ st => exact fun σ' H' μ' e a b => p σ' H' μ' (x.trans e) a b
  | rt d st => exact fun v H' μ' e a b => p v H' μ' (x.trans e) a b
  | exc y st => exact fun c od H' μ' e a b => p c od H' μ' (x.trans e) a b
  | stuck => exact p
def liftS (K : PySem.W.Frag) (E : XK) (f : SS) : TS := fun D σ H => ∃ ρ st μ, RepE K H μ ρ σ ∧ RepS K H μ st ∧ PostS K H μ (f ρ st) D E
structure LS (X : Cx) (E : XK) (s : Stmt) (f : SS) : Prop where
  ps : PS X s (liftS X.K E f)
structure LSs (X : Cx) (E : XK) (s : List Stmt) (f : SS) : Prop where
  pss : PSs X s (liftS X.K E f)
theorem psMono {s : Stmt} {t t' : TS} (h : PS X s t) (m : ∀ D σ H, t' D σ H → t D σ H) : PS X s t' := ⟨fun pins s σ H D I q => h.run pins s σ H D I (m D σ H q)⟩
theorem pssMono {s : List Stmt} {t t' : TS} (h : PSs X s t) (m : ∀ D σ H, t' D σ H → t D σ H) : PSs X s t' := ⟨fun pins s σ H D I q => h.run pins s σ H D I (m D σ H q)⟩
/-- an expression's result, then a statement's -/
def Res.thn {α : Type} (r : Res α) (f : α → Store → SRes) : SRes := match r with
  | .ok a st => f a st
  | .exc x st => .exc x st
  | .stuck => .stuck
theorem thn_ok {α : Type} {a : α} {st : Store} {f : α → Store → SRes} : (Res.ok a st).thn f = f a st := rfl
theorem Post.thn {K : PySem.W.Frag} {H : Hp} {μ : List Addr} {r : Res D} {f : D → Store → SRes} {De : Ends} (p : PostS K H μ (r.thn f) De E) : Post K H μ r (Then K H μ fun d st1 H1 μ1 => PostS K H1 μ1 (f d st1) De E) E := by
  cases r with
  | ok d st => exact fun v H' μ' e a b => ⟨d, st, μ', e, a, b, p.ext e⟩
  | exc y st => exact p
  | stuck => exact p
theorem PostB.thn {K : PySem.W.Frag} {H : Hp} {μ : List Addr} {r : Res Bool} {f : Bool → Store → SRes} {De : Ends} (p : PostS K H μ (r.thn f) De E) : PostB K H μ r (ThenB K H μ fun d st1 H1 μ1 => PostS K H1 μ1 (f d st1) De E) E := by
  cases r with
  | ok d st => exact fun H' μ' e b => ⟨st, μ', e, b, p.ext e⟩
  | exc y st => exact p
  | stuck => exact p
theorem PostL.thn {K : PySem.W.Frag} {H : Hp} {μ : List Addr} {r : Res (List D)} {f : List D → Store → SRes} {De : Ends} (p : PostS K H μ (r.thn f) De E) : PostL K H μ r (ThenL K H μ fun d st1 H1 μ1 => PostS K H1 μ1 (f d st1) De E) E := by
  cases r with
  | ok d st => exact fun v H' μ' e a b => ⟨d, st, μ', e, a, b, p.ext e⟩
  | exc y st => exact p
  | stuck => exact p
def SRes.thn (r : SRes) (g : SS) : SRes := match r with
  | .nx ρ st => g ρ st
  | r => r
def xNil : SS := fun ρ st => .nx ρ st
def xSeq (f g : SS) : SS := fun ρ st => (f ρ st).thn g
theorem lss_nil : LSs X E [] xNil := ⟨pssMono pss_nil fun D σ H ⟨ρ, st, μ, re, rs, p⟩ => p σ H μ (.refl _ _) re rs⟩
theorem lss_cons {s : Stmt} {ss : List Stmt} {f g : SS} (h1 : LS X E s f) (h2 : LSs X E ss g) : LSs X E (s :: ss) (xSeq f g) :=
  ⟨pssMono (pss_cons h1.ps h2.pss) fun D σ H ⟨ρ, st, μ, re, rs, p⟩ => by
    refine ⟨ρ, st, μ, re, rs, ?_⟩
    unfold xSeq at p
    cases e : f ρ st with
    | nx ρ' st' => rw [e] at p; exact fun σ' H' μ' x a b => ⟨ρ', st', μ', a, b, PostS.ext x p⟩
    | rt d st' => rw [e] at p; exact p
    | bk ρ' st' => rw [e] at p; exact p
    | ct ρ' st' => rw [e] at p; exact p
    | exc y st' => rw [e] at p; exact p
    | stuck => rw [e] at p; exact p⟩
theorem lss_one {s : Stmt} {f : SS} (h1 : LS X E s f) : LSs X E [s] f := ⟨pss_one h1.ps⟩
def xBreak : SS := fun ρ st => .bk ρ st
def xCont : SS := fun ρ st => .ct ρ st
theorem ls_pass : LS X E (.Pass pos) xNil := ⟨psMono ps_pass fun D σ H ⟨ρ, st, μ, re, rs, p⟩ => p σ H μ (.refl _ _) re rs⟩
theorem ls_break : LS X E (.Break pos) xBreak := ⟨psMono ps_break fun D σ H ⟨ρ, st, μ, re, rs, p⟩ => p σ H μ (.refl _ _) re rs⟩
theorem ls_cont : LS X E (.Continue pos) xCont := ⟨psMono ps_continue fun D σ H ⟨ρ, st, μ, re, rs, p⟩ => p σ H μ (.refl _ _) re rs⟩
def xRet (f : SE) : SS := fun ρ st => (f ρ st).thn fun d st => .rt d st
theorem ls_ret {e : Expr} {f : SE} (h : LE X E e f) : LS X E (.Return (some e) pos) (xRet f) := ⟨psMono (ps_ret h.pe) fun D σ H ⟨ρ, st, μ, re, rs, p⟩ =>
  ⟨ρ, st, μ, re, rs, (Post.thn p).mono fun v H1 ⟨d, st1, μ1, x1, r1, s1, p1⟩ => p1 v H1 μ1 (.refl _ _) r1 s1⟩⟩
def xRetN : SS := fun _ st => .rt .non st
theorem ls_retN : LS X E (.Return none pos) xRetN := ⟨psMono ps_retN fun D σ H ⟨ρ, st, μ, re, rs, p⟩ => p .non H μ (.refl _ _) .non rs⟩
def xExpr (f : SE) : SS := fun ρ st => (f ρ st).thn fun _ st => .nx ρ st
theorem ls_expr {e : Expr} {f : SE} (h : LE X E e f) (hs : swapsWith e none pos.line X.env = pure false := by rfl) : LS X E (.Expr e pos) (xExpr f) := ⟨psMono (ps_expr h.pe hs) fun D σ H ⟨ρ, st, μ, re, rs, p⟩ =>
  ⟨ρ, st, μ, re, rs, (Post.thn p).mono fun v H1 ⟨d, st1, μ1, x1, r1, s1, p1⟩ => p1 σ H1 μ1 (.refl _ _) (re.ext x1) s1⟩⟩
def xIf (t : SB) (f g : SS) : SS := fun ρ st => (t ρ st).thn fun b st => if b = true then f ρ st else g ρ st
theorem ls_if {c : Expr} {a b : List Stmt} {t : SB} {f g : SS} (hc : LB X E c t) (ha : LSs X E a f) (hb : LSs X E b g) : LS X E (.If c a b pos) (xIf t f g) := ⟨psMono (ps_if hc.pt ha.pss hb.pss) fun D σ H ⟨ρ, st, μ, re, rs, p⟩ =>
  ⟨ρ, st, μ, re, rs, (PostB.thn p).mono fun b H1 ⟨st1, μ1, x1, s1, p1⟩ => by
    cases b with
    | true => rw [if_pos rfl] at p1 ⊢; exact ⟨ρ, st1, μ1, re.ext x1, s1, p1⟩
    | false => rw [if_neg Bool.false_ne_true] at p1 ⊢; exact ⟨ρ, st1, μ1, re.ext x1, s1, p1⟩⟩⟩
/-- target = value -/
def xAsg (t : Tgt) (f : SE) : SS := fun ρ st => (f ρ st).thn fun d st => match t.ev d ρ with
  | some ρ' => .nx ρ' st
  | none => .stuck
theorem lift_xAsg {K : PySem.W.Frag} {t : Tgt} {f : SE} {De : Ends} {σ : L2.St} {H : Hp} (h : liftS K E (xAsg t f) De σ H) : tAsg (lift K E f) (Tgt.rd K t) De σ H := by
  obtain ⟨ρ, st, μ, re, rs, p⟩ := h
  refine ⟨ρ, st, μ, re, rs, (Post.thn p).mono fun v H1 ⟨d, st1, μ1, x1, r1, s1, p1⟩ => ?_⟩
  dsimp only at p1
  cases e : t.ev d ρ with
  | none => rw [e] at p1; exact p1.elim
  | some ρ' =>
    rw [e] at p1
    exact Tgt.ok t r1 (re.ext x1) e fun σ' re' _ => p1 σ' H1 μ1 (.refl _ _) re' s1
theorem ls_set (i : Nat) {x : Str} {e : Expr} {f : SE} {pos' : Pos} (hN : X.N.Nodup) (he : LE X E e f) (hi : X.N[i]? = some x := by rfl) (hx : Loc X.env.scope x := by first | exact .inl rfl | exact .inr rfl) (hs : swapsWith e (some (.Name x pos')) pos.line X.env = pure false := by rfl) (hf : X.fn x = true ∨ X.env.scope.names.lookup x = some .local := by first | exact .inl rfl | exact .inr rfl) :
    LS X E (.Assign [.Name x pos'] e pos) (xAsg (.nm i) f) := ⟨psMono (ps_set hN hi hx he.pe hs hf) fun D σ H h => by
      have := lift_xAsg h
      simp only [Tgt.rd] at this
      exact this⟩
theorem ls_asg {tg e : Expr} {f : SE} {t : Tgt} (he : LE X E e f) (ht : LTg X tg t) (hs : swapsWithSole [tg] e pos.line X.env = pure false := by rfl) (hw : swappedStores [tg] e X.env = pure none := by rfl)
    (h1 : (assignEach [tg] X.env).map (·.2) = [assign tg X.env] := by rfl) : LS X E (.Assign [tg] e pos) (xAsg t f) := ⟨psMono (ps_asg he.pe ht.pg hs hw h1) fun D σ H h => lift_xAsg h⟩
/-- a, b = x, y by plain local names -/
def xPar (i j : Nat) (f : SL) : SS := fun ρ st => (f ρ st).thn fun ds st => match ds with
  | [d, d'] => .nx ((ρ.set i (some d)).set j (some d')) st
  | _ => .stuck
theorem ls_par (i j : Nat) {x y : Str} {a b : Expr} {f : SL} {px py pt : Pos} {kt k2 : Nat} {pt2 : Pos} (hc : X.calm = true) (hN : X.N.Nodup) (ha : LL X E [a, b] f) (hi : X.N[i]? = some x := by rfl) (hj : X.N[j]? = some y := by rfl) (hij : i ≠ j := by decide)
    (hx : X.env.scope.names.lookup x = some .local := by rfl) (hy : X.env.scope.names.lookup y = some .local := by rfl)
    (hw : swappedStores [.Tuple [.Name x px, .Name y py] kt pt] (.Tuple [a, b] k2 pt2) X.env = pure (some [x, y]) := by rfl)
    (hs : swapsWithSole [.Tuple [.Name x px, .Name y py] kt pt] (.Tuple [a, b] k2 pt2) pos.line X.env = pure false := by rfl) :
    LS X E (.Assign [.Tuple [.Name x px, .Name y py] kt pt] (.Tuple [a, b] k2 pt2) pos) (xPar i j f) := ⟨psMono (ps_par hc hN hi hj hij hx hy ha.pa hw hs) fun D σ H ⟨ρ, st, μ, re, rs, p⟩ =>
  ⟨ρ, st, μ, re, rs, (PostL.thn p).mono fun vs H1 ⟨ds, st1, μ1, x1, r1, s1, p1⟩ => by
    dsimp only at p1
    split at p1
    · obtain ⟨v, w', rfl, r2, r3⟩ := reps2 r1
      exact ⟨v, w', rfl, p1 _ H1 μ1 (.refl _ _) (((re.ext x1).set r2).set r3) s1⟩
    · exact p1.elim⟩⟩
def xPar3 (i j l : Nat) (f : SL) : SS := fun ρ st => (f ρ st).thn fun ds st => match ds with
  | [d, d', d2] => .nx (((ρ.set i (some d)).set j (some d')).set l (some d2)) st
  | _ => .stuck
/-- name op= e -/
def xAug (i : Nat) (F : F2) (f : SE) : SS := fun ρ st => match ρ[i]? with
  | some (some d) => (f ρ st).thn fun d' st => (F d d' st).thn fun z st => .nx (ρ.set i (some z)) st
  | _ => .stuck
def IpL (X : Cx) (E : XK) (op : Operator) (F : F2) : Prop := PIp X op (lift2 X.K E F)
theorem ls_aug (i : Nat) {x : Str} {e : Expr} {f : SE} {op : Operator} {F : F2} {pos' : Pos} (hN : X.N.Nodup) (he : LE X E e f) (ho : IpL X E op F) (hi : X.N[i]? = some x := by rfl) (hx : Loc X.env.scope x := by first | exact .inl rfl | exact .inr rfl) (hf : X.fn x = true ∨ X.env.scope.names.lookup x = some .local := by first | exact .inl rfl | exact .inr rfl) :
    LS X E (.AugAssign (.Name x pos') op e pos) (xAug i F f) := ⟨psMono (ps_aug hN hi hx he.pe ho hf) fun D σ H ⟨ρ, st, μ, re, rs, p⟩ => by
      unfold xAug at p
      split at p
      · rename_i d q
        obtain ⟨v, e1, r⟩ := re.2 i d q
        refine ⟨v, e1, ρ, st, μ, re, rs, (Post.thn p).mono fun w H1 ⟨d', st1, μ1, x1, r1, s1, p1⟩ => ?_⟩
        refine ⟨d, d', st1, μ1, r.ext x1, r1, s1, (Post.thn p1).mono fun z H2 ⟨dz, st2, μ2, x2, r2, s2, p2⟩ => ?_⟩
        exact p2 _ H2 μ2 (.refl _ _) (((re.ext x1).ext x2).set r2) s2
      · exact p.elim⟩
def vAddI : F2 := fun x y st => match x, y with
  | .int i, .int j => .ok (.int (i + j)) st
  | _, _ => .stuck
theorem ip_vAdd : IpL X E .Add vAddI := by
  intro pins s σ H x y v u Q I rx ry ⟨d, d', st, μ, h1, h2, h3, p⟩
  cases d <;> cases d' <;> first | exact (show False from p).elim | skip
  cases h1; cases h2
  exact ip_add pins s σ H _ _ v u Q I rx ry ⟨_, _, rfl, rfl, p _ H μ (.refl _ _) (.int _) h3⟩
theorem ip_vSub : IpL X E .Sub vSub := by
  intro pins s σ H x y v u Q I rx ry ⟨d, d', st, μ, h1, h2, h3, p⟩
  cases d <;> cases d' <;> first | exact (show False from p).elim | skip
  cases h1; cases h2
  exact ip_sub pins s σ H _ _ v u Q I rx ry ⟨_, _, rfl, rfl, p _ H μ (.refl _ _) (.int _) h3⟩
/-- o[i] = value -/
def xSetL (fv fo fi : SE) : SS := fun ρ st => (fv ρ st).thn fun v st => (fo ρ st).thn fun o st => (fi ρ st).thn fun i st => match o, i with
  | .ref n, .int k => match st[n]? with
    | some (.lst xs) => match ixN xs.length k with
      | some j => .nx ρ (st.set n (.lst (xs.set j v)))
      | none => .stuck
    | _ => .stuck
  | _, _ => .stuck
theorem ls_setL {o i e : Expr} {fv fo fi : SE} {tpos : Pos} (hv : LE X E e fv) (ho : LE X E o fo) (hi : LE X E i fi)
    (ha : ∀ v, assign (.Subscript o i tpos) X.env v = (do
      let ov ← holding [v] (eval o X.env)
      let iv ← holding [v, ov] (eval i X.env)
      standAt tpos
      holding [v, ov, iv] (setItem ov iv v)
      release [v, ov, iv] []) := by intro _; rfl)
    (hs : swapsWithSole [.Subscript o i tpos] e pos.line X.env = pure false := by rfl) (hw : swappedStores [.Subscript o i tpos] e X.env = pure none := by rfl)
    (h1 : (assignEach [.Subscript o i tpos] X.env).map (·.2) = [assign (.Subscript o i tpos) X.env] := by rfl) : LS X E (.Assign [.Subscript o i tpos] e pos) (xSetL fv fo fi) :=
  ⟨psMono (ps_asg hv.pe (pg_sub ho.pe hi.pe set_list ha) hs hw h1) fun D σ H ⟨ρ, st, μ, re, rs, p⟩ =>
    ⟨ρ, st, μ, re, rs, (Post.thn p).mono fun v H1 ⟨dv, st1, μ1, x1, r1, s1, p1⟩ => ⟨ρ, st1, μ1, re.ext x1, s1, (Post.thn p1).mono fun ov H2 ⟨do_, st2, μ2, x2, r2, s2, p2⟩ =>
      ⟨ρ, st2, μ2, (re.ext x1).ext x2, s2, (Post.thn p2).mono fun iv H3 ⟨di, st3, μ3, x3, r3, s3, p3⟩ => by
        dsimp only at p3
        split at p3
        · rename_i n k
          split at p3
          · rename_i xs q1
            split at p3
            · rename_i j ej
              obtain ⟨a', f1, ws, g1, rr⟩ := s3.at q1
              cases r3
              have r2' := r2.ext x3
              cases r2' with
              | ref e2 =>
                rw [e2] at f1; cases f1
                have rv := (r1.ext x2).ext x3
                have x : Ext H3 μ3 (upd H3 _ (.lst (ws.set j v))) μ3 := .write (List.mem_of_getElem? e2)
                refine ⟨_, _, _, j, rfl, rfl, g1, by rw [← rr.length]; exact ej, p3 σ _ μ3 x ((((re.ext x1).ext x2).ext x3).ext x) (s3.write e2 ⟨_, upd_same, (rr.set rv j).ext x⟩)⟩
            · exact p3.elim
          · exact p3.elim
        · exact p3.elim⟩⟩⟩⟩
open Classical in
/-- the store swept behind a statement -/
noncomputable def xSwp (f : SS) : SS := fun ρ st => match f ρ st with
  | .nx ρ' st' => if st.length ≤ st'.length ∧ (∀ d, some d ∈ ρ' → d.low st.length = true) ∧ ∀ (i : Nat) (o : SO), i < st.length → st'[i]? = some o → st[i]? = some o ∨ o.low st.length = true then .nx ρ' (st'.take st.length) else .nx ρ' st'
  | r => r
theorem ls_swp {s : Stmt} {f : SS} (h : LS X E s f) : LS X E s (xSwp f) := ⟨psMono h.ps fun D σ H ⟨ρ, st, μ, re, rs, p⟩ => by
  refine ⟨ρ, st, μ, re, rs, ?_⟩
  unfold xSwp at p
  cases e : f ρ st with
  | nx ρ' st' =>
    rw [e] at p
    dsimp only at p
    split at p
    · rename_i hc
      obtain ⟨hl, hd, hq⟩ := hc
      intro σ' H' μ' x a b
      obtain ⟨x2, s2⟩ := rs.sweep x b hq hl
      refine p σ' H' μ x2 ⟨a.1, fun i d q => ?_⟩ s2
      obtain ⟨v, e1, r⟩ := a.2 i d q
      obtain ⟨m, em, f⟩ := x.pre
      rw [em] at r
      exact ⟨v, e1, r.cut (by rw [rs.len]; exact hd d (List.mem_of_getElem? q))⟩
    · exact p
  | rt d st' => rw [e] at p; exact p
  | bk ρ' st' => rw [e] at p; exact p
  | ct ρ' st' => rw [e] at p; exact p
  | exc y st' => rw [e] at p; exact p
  | stuck => rw [e] at p; exact p⟩
end
end L3

namespace L3
open PySem PySem.Spec PyProof.Rows L2

/-! ### what is walked -/
inductive Src where
  | its (ds : List D)
  | lst (n : Nat) (ds : List D)
def Src.all : Src → List D
  | .its ds => ds
  | .lst _ ds => ds
def Src.ok (src : Src) (st : Store) : Prop := match src with
  | .its _ => True
  | .lst n ds => st[n]? = some (.lst ds)
abbrev SI := Envr → Store → Res Src
def SrcOk (K : PySem.W.Frag) (src : Src) (J : It) (H0 : Hp) (μ0 : List Addr) : Prop :=
  ∀ (H : Hp) (μ : List Addr) (st : Store), Ext H0 μ0 H μ → RepS K H μ st → src.ok st → ∀ i : Nat,
    (i < src.all.length → J.go i H ∧ ∀ x H', J.yld i H x H' → ∃ d, src.all[i]? = some d ∧ Ext H μ H' μ ∧ RepS K H' μ st ∧ Rep K H' μ d x) ∧ (i = src.all.length → J.stop i H)
def PostI (K : PySem.W.Frag) (H : Hp) (μ : List Addr) (r : Res Src) (R : It → Hp → Prop) (E : XK) : Prop :=
  match r with
  | .ok src st => ∀ J H' μ', Ext H μ H' μ' → RepS K H' μ' st → SrcOk K src J H' μ' → R J H'
  | .exc x st => ∀ c od H' μ', Ext H μ H' μ' → RepX K H' μ' x c od → RepS K H' μ' st → E c od H'
  | .stuck => False
def liftI (K : PySem.W.Frag) (E : XK) (f : SI) : TI := fun σ H R => ∃ ρ st μ, RepE K H μ ρ σ ∧ RepS K H μ st ∧ PostI K H μ (f ρ st) R E
structure LI (X : Cx) (E : XK) (tg iter : Expr) (f : SI) : Prop where
  pi : PI X tg iter (liftI X.K E f)
section
variable {X : Cx} {E : XK} {pos : Pos} {tg : Expr}
theorem piMono {iter : Expr} {t t' : TI} (h : PI X tg iter t) (m : ∀ σ H Q, t' σ H Q → t σ H Q) : PI X tg iter t' := ⟨fun pins s σ H Q I q => h.run pins s σ H Q I (m σ H Q q)⟩
theorem PostI.ext {K : PySem.W.Frag} {H H1 : Hp} {μ μ1 : List Addr} {r : Res Src} {Q : It → Hp → Prop} (x : Ext H μ H1 μ1) (p : PostI K H μ r Q E) : PostI K H1 μ1 r Q E := by
  cases r with
  | ok d st => exact fun J H' μ' e a => p J H' μ' (x.trans e) a
  | exc y st => exact fun c od H' μ' e a b => p c od H' μ' (x.trans e) a b
  | stuck => exact p
theorem Post.bindI {K : PySem.W.Frag} {H : Hp} {μ : List Addr} {r : Res D} {f : D → Store → Res Src} {Q : It → Hp → Prop} (p : PostI K H μ (r.bind f) Q E) : Post K H μ r (Then K H μ fun d st1 H1 μ1 => PostI K H1 μ1 (f d st1) Q E) E := by
  cases r with
  | ok d st => exact fun v H' μ' e a b => ⟨d, st, μ', e, a, b, p.ext e⟩
  | exc y st => exact p
  | stuck => exact p
theorem PostL.bindI {K : PySem.W.Frag} {H : Hp} {μ : List Addr} {r : Res (List D)} {f : List D → Store → Res Src} {Q : It → Hp → Prop} (p : PostI K H μ (r.bind f) Q E) : PostL K H μ r (ThenL K H μ fun d st1 H1 μ1 => PostI K H1 μ1 (f d st1) Q E) E := by
  cases r with
  | ok d st => exact fun v H' μ' e a b => ⟨d, st, μ', e, a, b, p.ext e⟩
  | exc y st => exact p
  | stuck => exact p
/-- a list, a tuple, a text -/
def iAny (K : PySem.W.Frag) (tl : TE) : TI := fun σ H R => tl σ H fun x H1 => (∃ a, x = .ref a ∧ (∃ xs, SqL K H1 a xs) ∧ R (Itl K a) H1) ∨ (∃ a, x = .ref a ∧ (∃ xs, SqT K H1 a xs) ∧ R (Itt K a) H1) ∨ (∃ z, x = .str z ∧ R (Its z) H1)
theorem pi_any {l : Expr} {tl : TE} (hl : PE X l tl) : PI X tg l (iAny X.K tl) := by
  refine ⟨fun pins s σ H R I h => ?_⟩
  refine thn (hl.run pins s σ H _ I h) fun v s1 ⟨x, H1, I1, r1, q1⟩ => ?_
  rcases q1 with ⟨a, e, ⟨xs, hq⟩, q⟩ | ⟨a, e, ⟨xs, hq⟩, q⟩ | ⟨z, e, q⟩
  · subst e
    cases r1
    obtain ⟨its, rv, p, hz⟩ := I1.list hq
    refine wpAny_pyIter_list p.isList ?_
    refine ⟨s1.heap.objs.size, [s1.heap.objs.size], _, _, H1, rfl, I1.kept (t' := s1.toks) fun b o e => Heap.get?_push_of_some _ e, turn_list a _, ⟨_, Heap.get?_push_size _ rfl, rfl, rfl⟩, fun b hb => ?_, q⟩
    have e : b = s1.heap.objs.size := by simpa using hb
    subst e
    exact I1.fpOk (Nat.le_refl _) (I1.hok.fresh (Nat.le_refl _))
  · subst e
    cases r1
    obtain ⟨its, rv, p, hz⟩ := I1.tuple hq
    refine wpAny_pyIter_tuple (show s1.heap.IsTuple a its.toArray from p) ?_
    refine ⟨s1.heap.objs.size, [s1.heap.objs.size], _, _, H1, rfl, I1.kept (t' := s1.toks) fun b o e => Heap.get?_push_of_some _ e, turn_tuple a _, ⟨_, Heap.get?_push_size _ rfl, rfl, rfl⟩, fun b hb => ?_, q⟩
    have e : b = s1.heap.objs.size := by simpa using hb
    subst e
    exact I1.fpOk (Nat.le_refl _) (I1.hok.fresh (Nat.le_refl _))
  · subst e
    obtain ⟨t, rfl⟩ := r1
    cases ha : z.cps.all (· < 128)
    · exact wpAny_pyIter_wide ha (pi_one (tk := s1.toks) I1 _ (turn_str _ z t "str_iterator" (.inr rfl)) ⟨_, Heap.get?_push_size _ rfl, rfl, rfl⟩ q)
    · exact wpAny_pyIter_ascii ha (pi_one (tk := s1.toks) I1 _ (turn_str _ z t "str_ascii_iterator" (.inl rfl)) ⟨_, Heap.get?_push_size _ rfl, rfl, rfl⟩ q)
def chars (z : Str) : List D := z.cps.toList.map fun c => .str ⟨#[c]⟩
def srcOf (d : D) (st : Store) : Option Src := match d with
  | .tup xs => some (.its xs)
  | .rl xs => some (.its xs)
  | .str z => some (.its (chars z))
  | .ref n => match st[n]? with
    | some (.lst xs) => some (.lst n xs)
    | _ => none
  | _ => none
def iSeq (f : SE) : SI := fun ρ st => (f ρ st).bind fun d st => match srcOf d st with
  | some src => .ok src st
  | none => .stuck
theorem src_tup {K : PySem.W.Frag} {H : Hp} {μ : List Addr} {a : Addr} {xs : List D} {vs : List V} (t : TupAt K H μ a vs) (r : Reps K H μ xs vs) : SrcOk K (.its xs) (Itt K a) H μ := fun H1 μ1 st1 x1 s1 _ i =>
  ⟨fun hi => by
    have hv : i < vs.length := by rw [← r.length]; exact hi
    refine ⟨⟨vs, vs[i], (t.ext x1).sq, by simp [hv]⟩, fun y H' ⟨e1, e2⟩ => ?_⟩
    subst e1
    obtain ⟨d, e3, r3⟩ := (r.ext x1).getV (e2 vs (t.ext x1).sq)
    exact ⟨d, e3, .refl _ _, s1, r3⟩, fun hi => ⟨vs, (t.ext x1).sq, by rw [hi, ← r.length]; exact Nat.le_refl _⟩⟩
theorem src_rl {K : PySem.W.Frag} {H : Hp} {μ : List Addr} {a : Addr} {xs : List D} {vs : List V} (t : RlAt K H μ a vs) (r : Reps K H μ xs vs) : SrcOk K (.its xs) (Itl K a) H μ := fun H1 μ1 st1 x1 s1 _ i =>
  ⟨fun hi => by
    have hv : i < vs.length := by rw [← r.length]; exact hi
    refine ⟨⟨vs, vs[i], (t.ext x1).sq, by simp [hv]⟩, fun y H' ⟨e1, e2⟩ => ?_⟩
    subst e1
    obtain ⟨d, e3, r3⟩ := (r.ext x1).getV (e2 vs (t.ext x1).sq)
    exact ⟨d, e3, .refl _ _, s1, r3⟩, fun hi => ⟨vs, (t.ext x1).sq, by rw [hi, ← r.length]; exact Nat.le_refl _⟩⟩
theorem src_lst {K : PySem.W.Frag} {H : Hp} {μ : List Addr} {n : Nat} {a : Addr} {xs : List D} (e : μ[n]? = some a) : SrcOk K (.lst n xs) (Itl K a) H μ := fun H1 μ1 st1 x1 s1 ok i => by
  obtain ⟨a', f1, vs, g1, r⟩ := s1.at (show st1[n]? = some (.lst xs) from ok)
  rw [x1.get e] at f1; cases f1
  refine ⟨fun hi => ?_, fun hi => ⟨vs, .of g1, by rw [hi, ← r.length]; exact Nat.le_refl _⟩⟩
  have hv : i < vs.length := by rw [← r.length]; exact hi
  refine ⟨⟨vs, vs[i], .of g1, by simp [hv]⟩, fun y H' ⟨e1, e2⟩ => ?_⟩
  subst e1
  obtain ⟨d, e3, r3⟩ := r.getV (e2 vs (.of g1))
  exact ⟨d, e3, .refl _ _, s1, r3⟩
theorem src_str {K : PySem.W.Frag} {H : Hp} {μ : List Addr} (z : Str) : SrcOk K (.its (chars z)) (Its z) H μ := fun H1 μ1 st1 x1 s1 _ i => by
  have hl : (chars z).length = z.cps.size := by simp [chars]
  refine ⟨fun hi => ?_, fun hi => ?_⟩
  · have hi' : i < z.cps.size := by rw [← hl]; exact hi
    refine ⟨hi', fun y H' ⟨e1, c, e2, e3⟩ => ?_⟩
    subst e1 e3
    refine ⟨.str ⟨#[c]⟩, ?_, .refl _ _, s1, .str _⟩
    show (chars z)[i]? = _
    unfold chars
    rw [List.getElem?_map, Array.getElem?_toList, e2]
    rfl
  · have : i = (chars z).length := hi
    show z.cps.size ≤ i
    omega
theorem li_seq {l : Expr} {f : SE} (h : LE X E l f) : LI X E tg l (iSeq f) := ⟨piMono (pi_any h.pe) fun σ H R ⟨ρ, st, μ, re, rs, p⟩ => by
  refine ⟨ρ, st, μ, re, rs, (Post.bindI p).mono fun v H1 ⟨d, st1, μ1, x1, r1, s1, p1⟩ => ?_⟩
  dsimp only at p1
  split at p1
  · rename_i src q
    cases d with
    | tup xs =>
      cases q
      cases r1 with
      | tup t r => exact .inr (.inl ⟨_, rfl, ⟨_, t.sq⟩, p1 _ H1 μ1 (.refl _ _) s1 (src_tup t r)⟩)
    | rl xs =>
      cases q
      cases r1 with
      | rl t r => exact .inl ⟨_, rfl, ⟨_, t.sq⟩, p1 _ H1 μ1 (.refl _ _) s1 (src_rl t r)⟩
    | str z =>
      cases q
      cases r1
      exact .inr (.inr ⟨z, rfl, p1 _ H1 μ1 (.refl _ _) s1 (src_str z)⟩)
    | ref n =>
      cases r1 with
      | ref e1 =>
        simp only [srcOf] at q
        split at q
        · rename_i xs q1
          cases q
          obtain ⟨a, f1, ws, g1, r⟩ := s1.at q1
          rw [e1] at f1; cases f1
          exact .inl ⟨_, rfl, ⟨_, .of g1⟩, p1 _ H1 μ1 (.refl _ _) s1 (src_lst e1)⟩
        · cases q
    | _ => cases q
  · exact p1.elim⟩
/-- range -/
def rangeD (lo : Int) (n : Nat) : List D := (List.range n).map fun k => .int (lo + (k : Nat))
theorem src_rng {K : PySem.W.Frag} {H : Hp} {μ : List Addr} (lo : Int) (n : Nat) : SrcOk K (.its (rangeD lo n)) (Itr lo n) H μ := fun H1 μ1 st1 x1 s1 _ i => by
  have hl : (rangeD lo n).length = n := by simp [rangeD]
  refine ⟨fun hi => ?_, fun hi => ?_⟩
  · have hi' : i < n := by rw [← hl]; exact hi
    refine ⟨hi', fun y H' ⟨e1, e2⟩ => ?_⟩
    subst e1 e2
    refine ⟨.int (lo + i), ?_, .refl _ _, s1, .int _⟩
    show (rangeD lo n)[i]? = _
    unfold rangeD
    rw [List.getElem?_map, List.getElem?_range hi']
    rfl
  · have : i = (rangeD lo n).length := hi
    show n ≤ i
    omega
def iRange1 (f : SL) : SI := fun ρ st => (f ρ st).bind fun ds st => match ds with
  | [.int j] => if -(2 ^ 62) ≤ j ∧ j < 2 ^ 62 then .ok (.its (rangeD 0 j.toNat)) st else .stuck
  | _ => .stuck
theorem li_range1 {a : Expr} {f : SL} {p : Pos} (hg : Gl X "range") (hm : X.mg "range" = none) (ha : LL X E [a] f) (hs : starEach [a] X.env = [(false, eval a X.env)] := by rfl) : LI X E tg (.Call (.Name "range" p) [a] [] pos) (iRange1 f) :=
  ⟨piMono (pi_range1 hg hm ha.pa hs) fun σ H R ⟨ρ, st, μ, re, rs, p⟩ => by
    refine ⟨ρ, st, μ, re, rs, (PostL.bindI p).mono fun vs H1 ⟨ds, st1, μ1, x1, r1, s1, p1⟩ => ?_⟩
    dsimp only at p1
    split at p1
    · split at p1
      · rename_i hz
        obtain ⟨v, rfl, r⟩ := reps1 r1
        cases r
        exact ⟨_, rfl, hz.1, hz.2, p1 _ H1 μ1 (.refl _ _) s1 (src_rng 0 _)⟩
      · exact p1.elim
    · exact p1.elim⟩
def iRange2 (f : SL) : SI := fun ρ st => (f ρ st).bind fun ds st => match ds with
  | [.int i, .int j] => if -(2 ^ 62) ≤ i ∧ i < 2 ^ 62 ∧ -(2 ^ 62) ≤ j ∧ j < 2 ^ 62 then .ok (.its (rangeD i (j - i).toNat)) st else .stuck
  | _ => .stuck
theorem li_range2 {a b : Expr} {f : SL} {p : Pos} (hg : Gl X "range") (hm : X.mg "range" = none) (ha : LL X E [a, b] f) (hs : starEach [a, b] X.env = [(false, eval a X.env), (false, eval b X.env)] := by rfl) (hs2 : starEach [b] X.env = [(false, eval b X.env)] := by rfl) : LI X E tg (.Call (.Name "range" p) [a, b] [] pos) (iRange2 f) :=
  ⟨piMono (pi_range2 hg hm ha.pa hs hs2) fun σ H R ⟨ρ, st, μ, re, rs, p⟩ => by
    refine ⟨ρ, st, μ, re, rs, (PostL.bindI p).mono fun vs H1 ⟨ds, st1, μ1, x1, r1, s1, p1⟩ => ?_⟩
    dsimp only at p1
    split at p1
    · split at p1
      · rename_i hz
        obtain ⟨v, w', rfl, r, r'⟩ := reps2 r1
        cases r; cases r'
        exact ⟨_, _, rfl, hz, p1 _ H1 μ1 (.refl _ _) s1 (src_rng _ _)⟩
      · exact p1.elim
    · exact p1.elim⟩

/-! ### for -/
open Classical in
noncomputable def forL (src : Src) (t : Tgt) (body : SS) : List D → Envr → Store → SRes
  | [], ρ, st => if src.ok st then .nx ρ st else .stuck
  | d :: ds, ρ, st => if src.ok st then match t.ev d ρ with
    | some ρ1 => match body ρ1 st with
      | .nx ρ2 st2 => forL src t body ds ρ2 st2
      | .ct ρ2 st2 => forL src t body ds ρ2 st2
      | .bk ρ2 st2 => .nx ρ2 st2
      | r => r
    | none => .stuck
    else .stuck
noncomputable def xFor (f : SI) (t : Tgt) (body : SS) : SS := fun ρ st => (f ρ st).thn fun src st => forL src t body src.all ρ st
theorem PostI.thn {K : PySem.W.Frag} {H : Hp} {μ : List Addr} {r : Res Src} {f : Src → Store → SRes} {De : Ends} (p : PostS K H μ (r.thn f) De E) :
    PostI K H μ r (fun J H1 => ∃ src st1 μ1, Ext H μ H1 μ1 ∧ RepS K H1 μ1 st1 ∧ SrcOk K src J H1 μ1 ∧ PostS K H1 μ1 (f src st1) De E) E := by
  cases r with
  | ok d st => exact fun J H' μ' e b so => ⟨d, st, μ', e, b, so, PostS.ext e p⟩
  | exc y st => exact p
  | stuck => exact p
theorem PostI.mono {K : PySem.W.Frag} {H : Hp} {μ : List Addr} {r : Res Src} {Q Q' : It → Hp → Prop} (p : PostI K H μ r Q E) (h : ∀ v H', Q v H' → Q' v H') : PostI K H μ r Q' E := by
  cases r with
  | ok d st => exact fun J H' μ' e b so => h J H' (p J H' μ' e b so)
  | exc y st => exact p
  | stuck => exact p
theorem ls_for {iter : Expr} {body : List Stmt} {f : SI} {t : Tgt} {g : SS} (hp : PassesOwn (model X.prog X.w) X.A X.env X.xe) (hc : X.calm = true) (hi : LI X E tg iter f) (ht : LTg X tg t) (hb : LSs X E body g)
    (hs : ∀ x, foldedSetIterable iter X.env x = pure x := by intro _; rfl) : LS X E (.For tg iter body [] pos) (xFor f t g) :=
  ⟨psMono (ps_for hp hc hi.pi ht.pg hb.pss hs) fun De σ H ⟨ρ, st, μ, re, rs, p⟩ => by
    refine ⟨ρ, st, μ, re, rs, (PostI.thn p).mono fun J H1 ⟨src, st1, μ1, x1, s1, so, p1⟩ => ?_⟩
    refine ⟨fun i m σ' H' => ∃ ρ' st' μ', Ext H1 μ1 H' μ' ∧ RepE X.K H' μ' ρ' σ' ∧ RepS X.K H' μ' st' ∧ m = src.all.length - i ∧ i ≤ src.all.length ∧ PostS X.K H' μ' (forL src t g (src.all.drop i) ρ' st') De E,
      ⟨_, ρ, st1, μ1, .refl _ _, re.ext x1, s1, rfl, Nat.zero_le _, by rw [List.drop_zero]; exact p1⟩, ?_⟩
    rintro i m σ2 H2 ⟨ρ2, st2, μ2, x2, re2, s2, rfl, hi, p2⟩
    by_cases hlt : i < src.all.length
    · rw [List.drop_eq_getElem_cons hlt] at p2
      simp only [forL] at p2
      split at p2
      · rename_i ok
        obtain ⟨h1, h2⟩ := (so H2 μ2 st2 x2 s2 ok i).1 hlt
        refine .inr ⟨h1, fun σ' H' => ∃ ρ' st' μ', Ext H1 μ1 H' μ' ∧ RepE X.K H' μ' ρ' σ' ∧ RepS X.K H' μ' st' ∧ PostS X.K H' μ' (forL src t g (src.all.drop (i + 1)) ρ' st') De E,
          fun σ' H' ⟨ρ', st', μ', a, b, c, d⟩ => ⟨src.all.length - (i + 1), by omega, ρ', st', μ', a, b, c, rfl, hlt, d⟩, fun x H3 hy => ?_⟩
        obtain ⟨d, ed, x3, s3, r3⟩ := h2 x H3 hy
        have ed' : src.all[i] = d := by rw [List.getElem?_eq_getElem hlt] at ed; exact Option.some.inj ed
        rw [ed'] at p2
        split at p2
        · rename_i ρ3 e3
          refine Tgt.ok t r3 (re2.ext x3) e3 fun σ4 re4 _ => ⟨ρ3, st2, μ2, re4, s3, ?_⟩
          have p3 := PostS.ext x3 p2
          cases e : g ρ3 st2 with
          | nx ρ5 st5 => rw [e] at p3; exact fun σ' H' μ' a b c => ⟨ρ5, st5, μ', (x2.trans x3).trans a, b, c, PostS.ext a p3⟩
          | ct ρ5 st5 => rw [e] at p3; exact fun σ' H' μ' a b c => ⟨ρ5, st5, μ', (x2.trans x3).trans a, b, c, PostS.ext a p3⟩
          | bk ρ5 st5 => rw [e] at p3; exact p3
          | rt d st5 => rw [e] at p3; exact p3
          | exc y st5 => rw [e] at p3; exact p3
          | stuck => rw [e] at p3; exact p3
        · exact p2.elim
      · exact p2.elim
    · have e : i = src.all.length := by omega
      subst e
      rw [List.drop_length] at p2
      simp only [forL] at p2
      split at p2
      · rename_i ok
        exact .inl ⟨(so H2 μ2 st2 x2 s2 ok _).2 rfl, p2 σ2 H2 μ2 (.refl _ _) re2 s2⟩
      · exact p2.elim⟩

/-! ### while, of so many turns at most -/
def whileL (t : SB) (body : SS) : Nat → SS
  | 0 => fun _ _ => .stuck
  | n + 1 => fun ρ st => (t ρ st).thn fun b st => if b = true then match body ρ st with
      | .nx ρ2 st2 => whileL t body n ρ2 st2
      | .ct ρ2 st2 => whileL t body n ρ2 st2
      | .bk ρ2 st2 => .nx ρ2 st2
      | r => r
    else .nx ρ st
theorem ls_while {c : Expr} {body : List Stmt} {t : SB} {g : SS} (n : Nat) (hp : PassesOwn (model X.prog X.w) X.A X.env X.xe) (hc : LB X E c t) (hb : LSs X E body g) : LS X E (.While c body [] pos) (whileL t g n) :=
  ⟨psMono (ps_while hp hc.pt hb.pss) fun De σ H ⟨ρ, st, μ, re, rs, p⟩ => by
    refine ⟨fun m σ' H' => ∃ ρ' st' μ', RepE X.K H' μ' ρ' σ' ∧ RepS X.K H' μ' st' ∧ PostS X.K H' μ' (whileL t g m ρ' st') De E, ⟨n, ρ, st, μ, re, rs, p⟩, ?_⟩
    rintro m σ1 H1 ⟨ρ1, st1, μ1, re1, s1, p1⟩
    cases m with
    | zero => exact p1.elim
    | succ m =>
      refine ⟨ρ1, st1, μ1, re1, s1, (PostB.thn p1).mono fun b H2 ⟨st2, μ2, x2, s2, p2⟩ => ?_⟩
      cases b with
      | false => rw [if_neg Bool.false_ne_true] at p2 ⊢; exact p2 σ1 H2 μ2 (.refl _ _) (re1.ext x2) s2
      | true =>
        rw [if_pos rfl] at p2 ⊢
        refine ⟨fun σ' H' => ∃ ρ' st' μ', RepE X.K H' μ' ρ' σ' ∧ RepS X.K H' μ' st' ∧ PostS X.K H' μ' (whileL t g m ρ' st') De E, fun σ' H' h => ⟨m, Nat.lt_succ_self m, h⟩, ρ1, st2, μ2, re1.ext x2, s2, ?_⟩
        cases e : g ρ1 st2 with
        | nx ρ5 st5 => rw [e] at p2; exact fun σ' H' μ' a b c => ⟨ρ5, st5, μ', b, c, PostS.ext a p2⟩
        | ct ρ5 st5 => rw [e] at p2; exact fun σ' H' μ' a b c => ⟨ρ5, st5, μ', b, c, PostS.ext a p2⟩
        | bk ρ5 st5 => rw [e] at p2; exact p2
        | rt d st5 => rw [e] at p2; exact p2
        | exc y st5 => rw [e] at p2; exact p2
        | stuck => rw [e] at p2; exact p2⟩

/-! ### comprehensions -/
def Res.calm {α : Type} (r : Res α) : Res α := match r with
  | .exc _ _ => .stuck
  | r => r
theorem calm_ok {α : Type} {a : α} {st : Store} : (Res.ok a st).calm = .ok a st := rfl
theorem Post.calm {K : PySem.W.Frag} {H : Hp} {μ : List Addr} {r : Res D} {Q : VK} (p : Post K H μ r.calm Q E) : Post K H μ r Q E0 := by
  cases r with
  | ok d st => exact p
  | exc y st => exact p.elim
  | stuck => exact p
theorem PostB.calm {K : PySem.W.Frag} {H : Hp} {μ : List Addr} {r : Res Bool} {Q : Bool → Hp → Prop} (p : PostB K H μ r.calm Q E) : PostB K H μ r Q E0 := by
  cases r with
  | ok d st => exact p
  | exc y st => exact p.elim
  | stuck => exact p
open Classical in
noncomputable def lcL (src : Src) (t : Tgt) (test : SB) (elt : SE) (ρ : Envr) : List D → List D → Store → Res (List D)
  | [], acc, st => if src.ok st then .ok acc st else .stuck
  | d :: ds, acc, st => if src.ok st then match t.ev d ρ with
    | some ρ1 => (test ρ1 st).calm.bind fun b st => if b = true then (elt ρ1 st).calm.bind fun y st => if acc.length < sizeLine then lcL src t test elt ρ ds (acc ++ [y]) st else .stuck else lcL src t test elt ρ ds acc st
    | none => .stuck
    else .stuck
def wipeE (ρ : Envr) : List Nat → Envr
  | [] => ρ
  | v :: vs => (wipeE ρ vs).set v none
theorem RepE.wipe {K : PySem.W.Frag} {H : Hp} {μ : List Addr} {ρ : Envr} {σ : L2.St} (h : RepE K H μ ρ σ) : ∀ vs, RepE K H μ (wipeE ρ vs) (L2.wipe σ vs)
  | [] => h
  | v :: vs => by
    obtain ⟨h1, h2⟩ := h.wipe vs
    refine ⟨by simp [wipeE, L2.wipe, h1], fun i d e => ?_⟩
    simp only [wipeE, L2.wipe] at e ⊢
    by_cases hv : v = i
    · subst hv
      by_cases hl : v < (wipeE ρ vs).length
      · rw [List.getElem?_set_self hl] at e; cases e
      · rw [List.getElem?_eq_none (by simpa using hl)] at e; cases e
    · rw [List.getElem?_set_ne hv] at e
      rw [List.getElem?_set_ne hv]
      exact h2 i d e
def sYes : SB := fun _ st => .ok true st
noncomputable def sLc (f : SI) (t : Tgt) (test : SB) (elt : SE) (vs : List Nat) : SE := fun ρ st => (f ρ st).bind fun src st => (lcL src t test elt (wipeE ρ vs) src.all [] st).bind fun ds st => .ok (.ref st.length) (st ++ [.lst ds])
structure LTs (X : Cx) (E : XK) (ifs : List Expr) (f : SB) : Prop where
  pts : PTs X ifs (liftB X.K E f)
theorem lts_yes : LTs X E [] sYes := ⟨⟨fun pins s σ H Q I ⟨ρ, st, μ, re, rs, p⟩ => pts_nil.run pins s σ H Q I (p H μ (.refl _ _) rs)⟩⟩
theorem lts_one {c : Expr} {t : SB} (h : LB X E c t) : LTs X E [c] t := ⟨pts_one h.pt⟩
theorem PostI.bind {K : PySem.W.Frag} {H : Hp} {μ : List Addr} {r : Res Src} {f : Src → Store → Res D} {Q : VK} (p : Post K H μ (r.bind f) Q E) :
    PostI K H μ r (fun J H1 => ∃ src st1 μ1, Ext H μ H1 μ1 ∧ RepS K H1 μ1 st1 ∧ SrcOk K src J H1 μ1 ∧ Post K H1 μ1 (f src st1) Q E) E := by
  cases r with
  | ok d st => exact fun J H' μ' e b so => ⟨d, st, μ', e, b, so, p.ext e⟩
  | exc y st => exact p
  | stuck => exact p
theorem wipe_wipe (σ : L2.St) (vs : List Nat) : L2.wipe (L2.wipe σ vs) vs = L2.wipe σ vs := by
  have pt : ∀ (ws : List Nat) (τ : L2.St) (i : Nat), (L2.wipe τ ws)[i]? = if i ∈ ws ∧ i < τ.length then some none else τ[i]? := by
    intro ws
    induction ws with
    | nil => intro τ i; simp [L2.wipe]
    | cons w ws ih =>
      intro τ i
      simp only [L2.wipe]
      by_cases hw : w = i
      · subst hw
        by_cases hl : w < τ.length
        · rw [List.getElem?_set_self (by rw [L2.wipe_length]; exact hl), if_pos ⟨by simp, hl⟩]
        · rw [List.getElem?_eq_none (by rw [List.length_set, L2.wipe_length]; omega), if_neg (fun h => hl h.2), List.getElem?_eq_none (by omega)]
      · rw [List.getElem?_set_ne hw, ih]
        have : (i ∈ w :: ws) ↔ i ∈ ws := by simp [Ne.symm hw]
        simp only [this]
  apply List.ext_getElem?
  intro i
  rw [pt vs (L2.wipe σ vs) i, L2.wipe_length, pt vs σ i]
  split <;> rfl
theorem lift_lc {K : PySem.W.Frag} {f : SI} {t : Tgt} {test : SB} {elt : SE} {vs : List Nat} {σ : L2.St} {H : Hp} {Q : VK} (ht : ∀ i ∈ t.slots, i ∈ vs) (h : lift K E (sLc f t test elt vs) σ H Q) :
    tLc (liftI K E f) (Tgt.rd K t) (liftB K E0 test) (lift K E0 elt) vs σ H Q := by
  obtain ⟨ρ, st, μ, re, rs, p⟩ := h
  refine ⟨ρ, st, μ, re, rs, (PostI.bind p).mono fun J H1 ⟨src, st1, μ1, x1, s1, so, p1⟩ => fun L hL => ?_⟩
  have hLμ : L ∉ μ1 := s1.free hL
  refine ⟨fun i m H' => ∃ st' μ' acc vacc, RepS K H' μ' st' ∧ H' L = some (.lst vacc) ∧ Reps K H' μ' acc vacc ∧ L ∉ μ' ∧ Ext H1 μ1 H' μ' ∧ m = src.all.length - i ∧ i ≤ src.all.length ∧
      Post K H1 μ1 ((lcL src t test elt (wipeE ρ vs) (src.all.drop i) acc st').bind fun ds st => .ok (.ref st.length) (st ++ [.lst ds])) Q E, ?_, ?_⟩
  · refine ⟨_, st1, μ1, [], [], s1.new hL, upd_same, .nil, hLμ, .new hL, rfl, Nat.zero_le _, ?_⟩
    rw [List.drop_zero]
    exact p1
  · rintro i m H2 ⟨st2, μ2, acc, vacc, s2, hl2, ra, hn2, x2, rfl, hi, p2⟩
    by_cases hlt : i < src.all.length
    · rw [List.drop_eq_getElem_cons hlt] at p2
      simp only [lcL] at p2
      by_cases ok : src.ok st2
      · rw [if_pos ok] at p2
        obtain ⟨h1, h2⟩ := (so H2 μ2 st2 x2 s2 ok i).1 hlt
        refine .inr ⟨h1, fun H' => ∃ st' μ' acc vacc, RepS K H' μ' st' ∧ H' L = some (.lst vacc) ∧ Reps K H' μ' acc vacc ∧ L ∉ μ' ∧ Ext H1 μ1 H' μ' ∧
            Post K H1 μ1 ((lcL src t test elt (wipeE ρ vs) (src.all.drop (i + 1)) acc st').bind fun ds st => .ok (.ref st.length) (st ++ [.lst ds])) Q E,
          fun H' ⟨st', μ', acc, vacc, b, c, d, e, g, k⟩ => ⟨src.all.length - (i + 1), by omega, st', μ', acc, vacc, b, c, d, e, g, rfl, hlt, k⟩, fun x H3 hy => ?_⟩
        obtain ⟨d, ed, x3, s3, r3⟩ := h2 x H3 hy
        have ed' : src.all[i] = d := by rw [List.getElem?_eq_getElem hlt] at ed; exact Option.some.inj ed
        rw [ed'] at p2
        have hl3 : H3 L = some (.lst vacc) := x3.keep _ _ hl2 hn2
        have ra3 := ra.ext x3
        cases e3 : t.ev d (wipeE ρ vs) with
        | none => rw [e3] at p2; exact p2.elim
        | some ρ3 =>
          rw [e3] at p2
          dsimp only at p2
          refine Tgt.ok t r3 (((re.ext x1).ext x2).ext x3 |>.wipe vs) e3 fun σ4 re4 w4 => ⟨(w4 vs ht).trans (wipe_wipe σ vs), ?_⟩
          refine ⟨ρ3, st2, μ2, re4, s3, ?_⟩
          cases et : test ρ3 st2 with
          | exc y st5 => rw [et] at p2; exact p2.elim
          | stuck => rw [et] at p2; exact p2.elim
          | ok b st5 =>
            rw [et, calm_ok, bind_ok] at p2
            intro H5 μ5 x5 s5
            have hl5 : H5 L = some (.lst vacc) := x5.keep _ _ hl3 hn2
            have hn5 : L ∉ μ5 := x5.not_mem hl3 hn2
            cases b with
            | false =>
              rw [if_neg Bool.false_ne_true] at p2 ⊢
              exact ⟨st5, μ5, acc, vacc, s5, hl5, ra3.ext x5, hn5, (x2.trans x3).trans x5, p2⟩
            | true =>
              rw [if_pos rfl] at p2 ⊢
              refine ⟨ρ3, st5, μ5, re4.ext x5, s5, ?_⟩
              cases ee : elt ρ3 st5 with
              | exc y st6 => rw [ee] at p2; exact p2.elim
              | stuck => rw [ee] at p2; exact p2.elim
              | ok dy st6 =>
                rw [ee, calm_ok, bind_ok] at p2
                intro y H6 μ6 x6 r6 s6
                have hl6 : H6 L = some (.lst vacc) := x6.keep _ _ hl5 hn5
                have hn6 : L ∉ μ6 := x6.not_mem hl5 hn5
                have ra6 := (ra3.ext x5).ext x6
                by_cases hz : acc.length < sizeLine
                · rw [if_pos hz] at p2
                  refine ⟨vacc, hl6, by rw [← ra6.length]; exact hz, ?_⟩
                  have x16 := ((x2.trans x3).trans x5).trans x6
                  refine ⟨st6, μ6, acc ++ [dy], vacc ++ [y], s6.chg hl6 hn6, upd_same, (ra6.append (.cons r6 .nil)).chg hl6, hn6, ⟨x16.pre, fun b o hb hnb => ?_, fun b hb => ?_⟩, p2⟩
                  · rw [upd_ne (ne_of_none hb hL)]
                    exact x16.keep b o hb hnb
                  · by_cases q : b = L
                    · rw [q]; exact hL
                    · rw [upd_ne q] at hb; exact x16.live b hb
                · rw [if_neg hz] at p2; exact p2.elim
      · rw [if_neg ok] at p2; exact p2.elim
    · have e : i = src.all.length := by omega
      subst e
      rw [List.drop_length] at p2
      simp only [lcL] at p2
      by_cases ok : src.ok st2
      · rw [if_pos ok, bind_ok] at p2
        refine .inl ⟨(so H2 μ2 st2 x2 s2 ok _).2 rfl, ?_⟩
        -- the new list enters the store
        refine p2 (.ref L) H2 (μ2 ++ [L]) ⟨?_, x2.keep, x2.live⟩ (.ref (by rw [← s2.len, List.getElem?_append_right (Nat.le_refl _)]; simp)) ?_
        · obtain ⟨m, em, f⟩ := x2.pre
          exact ⟨m ++ [L], by rw [em, List.append_assoc], fun a ha => by
            rcases List.mem_append.mp ha with h | h
            · exact f a h
            · have : a = L := by simpa using h
              rw [this]; exact hL⟩
        · have xe : Ext H2 μ2 H2 (μ2 ++ [L]) → True := fun _ => trivial
          refine ⟨by simp [s2.len], ?_, fun i b u e f => ?_⟩
          · rw [List.nodup_append]
            refine ⟨s2.nd, by simp, fun x hx y hy => ?_⟩
            have : y = L := by simpa using hy
            subst this
            rintro rfl
            exact hn2 hx
          · by_cases hi : i < μ2.length
            · rw [List.getElem?_append_left hi] at e
              rw [List.getElem?_append_left (by rw [← s2.len]; exact hi)] at f
              exact (s2.obj i b u e f).more hl2
            · have hj : i < (μ2 ++ [L]).length := (List.getElem?_eq_some_iff.mp e).1
              have : i = μ2.length := by simp at hj; omega
              subst this
              rw [List.getElem?_append_right (Nat.le_refl _)] at e
              rw [s2.len, List.getElem?_append_right (Nat.le_refl _)] at f
              simp at e f
              subst e f
              exact ⟨vacc, hl2, ra.more hl2⟩
      · rw [if_neg ok] at p2; exact p2.elim
theorem le_lc {elt iter : Expr} {ifs : List Expr} {scope : Scope} {own : List (Str × Nat)} {vs : List Nat} {f : SI} {t : Tgt} {test : SB} {g : SE} (hc : X.calm = true) (hN : X.N.Nodup) (hi : LI X E tg iter f) (ok : BlkOk X.N X.env.scope scope own) (hs : ∀ i ∈ t.slots, i ∈ vs)
    (hg : ∀ (s : Shared) (H : Hp) (C : Addr) (cl : List (Str × Addr)) (fp : List Addr), LTg (X.blk s H scope (compEnvC scope cl C X.env) fp) tg t)
    (ht : ∀ (s : Shared) (H : Hp) (C : Addr) (cl : List (Str × Addr)) (fp : List Addr), LTs (X.blk s H scope (compEnvC scope cl C X.env) fp) E0 ifs test)
    (he : ∀ (s : Shared) (H : Hp) (C : Addr) (cl : List (Str × Addr)) (fp : List Addr), LE (X.blk s H scope (compEnvC scope cl C X.env) fp) E0 elt g) (hs2 : ∀ x, foldedSetIterable iter X.env x = pure x := by intro _; rfl) (hv : own.map (·.2) = vs := by rfl) :
    LE X E (.ListComp elt [⟨tg, iter, ifs, 0⟩] scope pos) (sLc f t test g vs) :=
  ⟨peMono (pe_lc hc hN hi.pi ok (fun s H C cl fp => (hg s H C cl fp).pg) (fun s H C cl fp => (ht s H C cl fp).pts) (fun s H C cl fp => (he s H C cl fp).pe) hs2) fun σ H Q h => by rw [hv]; exact lift_lc hs h⟩
theorem ls_setLc (i : Nat) {y : Str} {py spos : Pos} {elt iter : Expr} {ifs : List Expr} {scope : Scope} {own : List (Str × Nat)} {vs : List Nat} {f : SI} {t : Tgt} {test : SB} {g : SE} (hc : X.calm = true) (hN : X.N.Nodup) (hi : LI X E tg iter f) (ok : BlkOk X.N X.env.scope scope own) (hs : ∀ i ∈ t.slots, i ∈ vs)
    (hg : ∀ (s : Shared) (H : Hp) (C : Addr) (cl : List (Str × Addr)) (fp : List Addr), LTg (X.blk s H scope (compEnvC scope cl C X.env) fp) tg t)
    (ht : ∀ (s : Shared) (H : Hp) (C : Addr) (cl : List (Str × Addr)) (fp : List Addr), LTs (X.blk s H scope (compEnvC scope cl C X.env) fp) E0 ifs test)
    (he : ∀ (s : Shared) (H : Hp) (C : Addr) (cl : List (Str × Addr)) (fp : List Addr), LE (X.blk s H scope (compEnvC scope cl C X.env) fp) E0 elt g) (hy : X.N[i]? = some y := by rfl) (hyl : X.env.scope.names.lookup y = some .local := by rfl)
    (hsw : swapsWith (.ListComp elt [⟨tg, iter, ifs, 0⟩] scope pos) (some (.Name y py)) spos.line X.env = pure true := by exact sw_true rfl rfl rfl (by decide +kernel)) (hs2 : ∀ x, foldedSetIterable iter X.env x = pure x := by intro _; rfl) (hv : own.map (·.2) = vs := by rfl) :
    LS X E (.Assign [.Name y py] (.ListComp elt [⟨tg, iter, ifs, 0⟩] scope pos) spos) (xAsg (.nm i) (sLc f t test g vs)) :=
  ⟨psMono (ps_setLc hc hN hy hyl hsw hi.pi ok (fun s H C cl fp => (hg s H C cl fp).pg) (fun s H C cl fp => (ht s H C cl fp).pts) (fun s H C cl fp => (he s H C cl fp).pe) hs2) fun De σ H h => by
    obtain ⟨ρ, st, μ, re, rs, p⟩ := lift_xAsg h
    have h2 := lift_lc hs ⟨ρ, st, μ, re, rs, p⟩
    simp only [Tgt.rd] at h2
    rw [hv]
    exact h2⟩

/-! ### a def -/
noncomputable def fnBody (n : Nat) (body : SS) : FL := fun ds st => swept st (match body (ds.map some ++ List.replicate (n - ds.length) none) st with
  | .rt d st' => .ok d st'
  | .nx _ st' => .ok .non st'
  | .exc x st' => .exc x st'
  | _ => .stuck)
theorem repE_start {K : PySem.W.Frag} {H : Hp} {μ : List Addr} {ds : List D} {vs : List V} {N : List Str} (r : Reps K H μ ds vs) : RepE K H μ (ds.map some ++ List.replicate (N.length - ds.length) none) (L2.start N vs) := by
  unfold L2.start
  refine ⟨by simp [r.length], fun i d e => ?_⟩
  by_cases hi : i < ds.length
  · rw [List.getElem?_append_left (by simpa using hi), List.getElem?_map] at e
    cases q : ds[i]? with
    | none => rw [q] at e; cases e
    | some d' =>
      rw [q] at e
      have e' : d' = d := by simpa using e
      subst e'
      obtain ⟨v, e1, r1⟩ := r.get q
      exact ⟨v, by rw [List.getElem?_append_left (by rw [List.length_map, ← r.length]; exact hi), List.getElem?_map, e1]; rfl, r1⟩
  · rw [List.getElem?_append_right (by simpa using hi), List.getElem?_replicate] at e
    split at e <;> cases e
theorem fn_ok {P : Program} {w : World} {K : PySem.W.Frag} {mg : Str → Option Value} {base : Heap} {x qual : Str} {st : Stmt} {f : Addr} {fd : FuncData} {N ps : List Str} {k : Nat} {body : SS} (F : Fun K x qual st f fd) (S : FnScope N ps (defScope st))
    (hb : ∀ (cdv : Value) (A : Around) (outer : List Env) (s : Shared) (H : Hp) (E : XK), Room k (A.deeper (envOfC qual (defScope st) s.heap.objs.size f cdv)) → LSs (cxOf CX0 P w K mg base N qual (defScope st) f cdv A outer s H E).nox E0 (defBody st) body) :
    FnOk P w K mg base CX0 (k + 1) f fd ps (spOf K ps.length (fnBody N.length body)) :=
  F.ok S (spOf_len rfl) fun cdv A outer s H vs Q E hr ⟨hl, ds, st1, μ, r, rs, p⟩ => ⟨_, (hb cdv A outer s H E hr).pss, _, st1, μ, repE_start r, rs, by
    have p1 := post_swept rs p
    revert p1
    cases body (ds.map some ++ List.replicate (N.length - ds.length) none) st1 with
    | nx ρ st' => exact fun p1 σ' H' μ' a b c => p1 .non H' μ' a .non c
    | rt d st' => exact fun p1 => p1
    | bk ρ st' => exact fun p1 => p1.elim
    | ct ρ st' => exact fun p1 => p1.elim
    | exc y st' => exact fun p1 => p1
    | stuck => exact fun p1 => p1⟩
end
end L3

namespace L3
open PySem PySem.Spec PyProof.Rows L2

section
variable {X : Cx} {E : XK} {pos : Pos}
/-! ### a test, the store swept behind it -/
open Classical in
noncomputable def sweptB (st : Store) (r : Res Bool) : Res Bool := match r with
  | .ok d st' => if st.length ≤ st'.length ∧ ∀ (i : Nat) (o : SO), i < st.length → st'[i]? = some o → st[i]? = some o ∨ o.low st.length = true then .ok d (st'.take st.length) else .ok d st'
  | r => r
noncomputable def sSwpB (f : SB) : SB := fun ρ st => sweptB st (f ρ st)
theorem lb_swp {e : Expr} {f : SB} (h : LB X E e f) : LB X E e (sSwpB f) := ⟨ptMono h.pt fun σ H Q ⟨ρ, st, μ, re, rs, p⟩ => ⟨ρ, st, μ, re, rs, by
  unfold sSwpB at p
  cases e : f ρ st with
  | ok d st' =>
    rw [e] at p
    unfold sweptB at p
    simp only at p
    split at p
    · rename_i hc
      intro H' μ' x s'
      obtain ⟨x2, s2⟩ := rs.sweep x s' hc.2 hc.1
      exact p H' μ x2 s2
    · exact p
  | exc y st' => rw [e] at p; exact p
  | stuck => rw [e] at p; exact p⟩⟩

/-! ### defs by their names -/
def HasFn (P : Program) (w : World) (K : PySem.W.Frag) (mg : Str → Option Value) (base : Heap) (x : Str) (lvl : Nat) (ps : List Str) (G : FL) : Prop :=
  ∃ f fd, FnOk P w K mg base CX0 lvl f fd ps (spOf K ps.length G) ∧ mg x = some (.ref f) ∧ PySem.W.keepIn K (.ref f) = true ∧ Binds K fd ps []
theorem le_fn {x : Str} {p : Pos} {e : Expr} {es : List Expr} {k : Nat} {ps : List Str} {G : FL} {g : SL} (F : HasFn X.prog X.w X.K X.mg X.base x k ps G) (hr : Room k X.A) (hg : Gl X x)
    (ha : LL X E0 (e :: es) g) (hl : LenIs g ps.length) (hdb : (x == ("__debug__" : Str)) = false := by decide) (he : starEach (e :: es) X.env = (false, eval e X.env) :: starEach es X.env := by rfl) (hpl : (backTo pos (starEach es X.env)).any (·.1) = false := by rfl) :
    LE X E0 (.Call (.Name x p) (e :: es) [] pos) (sCB G g) := by
  obtain ⟨f, fd, F, hm, hk, hb⟩ := F
  exact le_call F hr hg hm hk hb pass0 ha hl hdb he hpl
theorem le_fn0 {x : Str} {p : Pos} {k : Nat} {G : FL} (F : HasFn X.prog X.w X.K X.mg X.base x k [] G) (hr : Room k X.A) (hg : Gl X x) (hdb : (x == ("__debug__" : Str)) = false := by decide) :
    LE X E0 (.Call (.Name x p) [] [] pos) (sCB G sNil) := by
  obtain ⟨f, fd, F, hm, hk, hb⟩ := F
  exact ⟨peMono (pe_call0 F hr hg hm hk hb .nil pass0 hdb) fun σ H Q ⟨ρ, st, μ, re, rs, p⟩ => ⟨rfl, [], st, μ, .nil, rs, p⟩⟩
/-- keywords: the values in the call's order, taken in the parameters' order -/
def permL {α : Type} (pm : List Nat) (xs : List α) : List α := pm.filterMap fun i => xs[i]?
def permC {α : Type} (na nb : Nat) (pm : List Nat) (us ws : List α) : List α := if us.length = na ∧ ws.length = nb then permL pm (us ++ ws) else []
def sCBk (G : FL) (pm : List Nat) (f g : SL) : SE := fun ρ st => (f ρ st).bind fun ds st => (g ρ st).bind fun es st => G (permL pm (ds ++ es)) st
theorem permL_rel {α β : Type} {R : α → β → Prop} : ∀ (pm : List Nat) {xs : List α} {ys : List β}, (∀ i : Nat, (xs[i]? = none ∧ ys[i]? = none) ∨ ∃ a b, xs[i]? = some a ∧ ys[i]? = some b ∧ R a b) → Paired R (permL pm xs) (permL pm ys)
  | [], _, _, _ => .nil
  | i :: pm, xs, ys, h => by
    unfold permL
    rcases h i with ⟨h1, h2⟩ | ⟨a, b, h1, h2, r⟩
    · rw [List.filterMap_cons_none h1, List.filterMap_cons_none h2]; exact permL_rel pm h
    · rw [List.filterMap_cons_some h1, List.filterMap_cons_some h2]; exact .cons r (permL_rel pm h)
theorem Reps.paired {K : PySem.W.Frag} {H : Hp} {μ : List Addr} : ∀ {ds : List D} {vs : List V}, Paired (Rep K H μ) ds vs → Reps K H μ ds vs
  | _, _, .nil => .nil
  | _, _, .cons r t => .cons r (Reps.paired t)
theorem Reps.perm {K : PySem.W.Frag} {H : Hp} {μ : List Addr} {ds : List D} {vs : List V} (r : Reps K H μ ds vs) (pm : List Nat) : Reps K H μ (permL pm ds) (permL pm vs) :=
  Reps.paired (permL_rel pm fun i => by
    by_cases hi : i < ds.length
    · obtain ⟨v, e, q⟩ := r.get (List.getElem?_eq_getElem hi)
      exact .inr ⟨_, v, List.getElem?_eq_getElem hi, e, q⟩
    · exact .inl ⟨List.getElem?_eq_none (by omega), List.getElem?_eq_none (by rw [← r.length]; omega)⟩)
def HasFnK (P : Program) (w : World) (K : PySem.W.Frag) (mg : Str → Option Value) (base : Heap) (x : Str) (lvl : Nat) (ps : List Str) (G : FL) (na : Nat) (ks : List Str) (pm : List Nat) : Prop :=
  ∃ f fd, FnOk P w K mg base CX0 lvl f fd ps (spOf K ps.length G) ∧ mg x = some (.ref f) ∧ PySem.W.keepIn K (.ref f) = true ∧ KBinds K fd ps ks (permC na ks.length pm) (permC na ks.length pm)
theorem permC_vals {na nb : Nat} {pm : List Nat} {vs zs : List V} {us ws : List Value} (r1 : Vals vs us) (r2 : Vals zs ws) : Vals (permC na nb pm vs zs) (permC na nb pm us ws) := by
  unfold permC
  rw [r1.length, r2.length]
  split
  · have r := r1.append r2
    exact permL_rel pm fun i => by
      by_cases hi : i < (vs ++ zs).length
      · obtain ⟨v, e, q⟩ := r.get (List.getElem?_eq_getElem hi)
        exact .inr ⟨_, v, List.getElem?_eq_getElem hi, e, q⟩
      · exact .inl ⟨List.getElem?_eq_none (by omega), List.getElem?_eq_none (by rw [← r.length]; omega)⟩
  · exact .nil
theorem fun_kbinds {K : PySem.W.Frag} {x qual : Str} {st : Stmt} {f : Addr} {fd : FuncData} {ps ks : List Str} {na : Nat} {pm : List Nat} (F : Fun K x qual st f fd) (hp : ps ≠ [])
    (h : ∀ (kV doc pmv : Value) (an : Option Addr) (cdv ct : Value) (us ws : List Value), us.length = na → ws.length = ks.length → bindArgs (PySem.W.fnOf x qual (defArgs st) (defBody st) (defScope st) .none kV doc pmv an cdv ct) ⟨us, ks.zip ws⟩ = pure (ps.zip (permL pm (us ++ ws)))) :
    KBinds K fd ps ks (permC na ks.length pm) (permC na ks.length pm) := by
  obtain ⟨oc, od, kV, doc, pmv, an, cdv, ct, osl, rfl, lk, hcd⟩ := F.ex
  refine ⟨fun s us ws _ hl => ?_, fun r1 r2 => permC_vals r1 r2⟩
  unfold permC at hl ⊢
  split at hl
  · rename_i hc
    rw [if_pos hc]
    exact .of_eq (h kV doc pmv an cdv ct us ws hc.1 hc.2)
  · exact (hp (List.eq_nil_of_length_eq_zero hl.symm)).elim
theorem lift_cbk {K : PySem.W.Frag} {G : FL} {na nb n : Nat} {pm : List Nat} {f g : SL} {σ : L2.St} {H : Hp} {Q : VK} {E' : XK} (hl : LenIs f na) (hl2 : LenIs g nb) (hn : ∀ xs : List V, xs.length = na + nb → (permL pm xs).length = n) (h : lift K E0 (sCBk G pm f g) σ H Q) :
    tCallK (spOf K n G) (permC na nb pm) E' (liftL K E0 f) (liftL K E0 g) σ H Q := by
  obtain ⟨ρ, st, μ, re, rs, p⟩ := h
  refine ⟨ρ, st, μ, re, rs, ((PostL.bind p).len fun ds st' e => hl _ _ _ _ e).mono fun vs H1 ⟨en, ds, st1, μ1, x1, r1, s1, p1⟩ => ?_⟩
  refine ⟨ρ, st1, μ1, re.ext x1, s1, ((PostL.bind p1).len fun ds st' e => hl2 _ _ _ _ e).mono fun zs H2 ⟨en2, es, st2, μ2, x2, r2, s2, p2⟩ => ?_⟩
  have e : permC na nb pm vs zs = permL pm (vs ++ zs) := by unfold permC; rw [if_pos ⟨en, en2⟩]
  rw [e]
  exact ⟨hn _ (by rw [List.length_append, en, en2]), _, st2, μ2, ((r1.ext x2).append r2).perm pm, s2, p2⟩
theorem le_fnk {x : Str} {p : Pos} {e : Expr} {es : List Expr} {kws : List Keyword} {k na : Nat} {ps ks : List Str} {pm : List Nat} {G : FL} {f g : SL} (F : HasFnK X.prog X.w X.K X.mg X.base x k ps G na ks pm) (hr : Room k X.A) (hg : Gl X x)
    (ha : LL X E0 (e :: es) f) (hkw : LK X E0 kws g) (hl : LenIs f na) (hl2 : LenIs g ks.length) (hn : ∀ xs : List V, xs.length = na + ks.length → (permL pm xs).length = ps.length)
    (hall : (backToKw pos (keywordEach kws X.env)).all (·.1.isSome) = true := by rfl) (hks : (backToKw pos (keywordEach kws X.env)).filterMap (·.1) = ks := by rfl)
    (hdb : (x == ("__debug__" : Str)) = false := by decide) (he : starEach (e :: es) X.env = (false, eval e X.env) :: starEach es X.env := by rfl)
    (hpl : ((backTo pos (starEach (e :: es) X.env)).any (·.1) || (backToKw pos (keywordEach kws X.env)).any (·.1.isNone)) = false := by rfl) :
    LE X E0 (.Call (.Name x p) (e :: es) kws pos) (sCBk G pm f g) := by
  obtain ⟨fa, fd, F, hm, hk, hb⟩ := F
  exact ⟨peMono (pe_callK F hr hg hm hk hb pass0 ha.pa hkw.pk hall hks hdb he hpl) fun σ H Q h => lift_cbk hl hl2 hn h⟩
theorem pe_callK0 {x : Str} {p : Pos} {kws : List Keyword} {CX : CXT} {k : Nat} {f : Addr} {fd : FuncData} {ps ks : List Str} {sp : Sp} {tk : TA} {g : List Value → List Value → List Value} {gV : List V → List V → List V} (F : FnOk X.prog X.w X.K X.mg X.base CX k f fd ps sp) (hr : Room k X.A) (hg : Gl X x) (hm : X.mg x = some (.ref f)) (hk : PySem.W.keepIn X.K (.ref f) = true) (hb : KBinds X.K fd ps ks g gV) (hx : Passes CX X E)
    (hkw : PK X kws tk) (hall : (backToKw pos (keywordEach kws X.env)).all (·.1.isSome) = true) (hks : (backToKw pos (keywordEach kws X.env)).filterMap (·.1) = ks)
    (hdb : (x == ("__debug__" : Str)) = false) (hpl : ((backTo pos (starEach [] X.env)).any (·.1) || (backToKw pos (keywordEach kws X.env)).any (·.1.isNone)) = false) :
    PE X (.Call (.Name x p) [] kws pos) (tCallK sp gV E tNil tk) := by
  refine ⟨fun pins s σ H Q I h => ?_⟩
  refine wpAny_Call_Name_kw (ld_glob I hg hm ?_ hdb)
  refine PySem.W.callWith_KW0 (h₀ := X.base) I.ok.mod.kin hk hall (thn (hkw.run pos pins s σ H _ I h) fun ws s2 ⟨zs, H2, I2, rz, q2⟩ => ⟨I2.kIn, ?_⟩) hpl
  rw [hks]
  exact run_fnk (us := []) F hr hb hx I2 .nil rz q2
theorem le_fnk0 {x : Str} {p : Pos} {kws : List Keyword} {k : Nat} {ps ks : List Str} {pm : List Nat} {G : FL} {g : SL} (F : HasFnK X.prog X.w X.K X.mg X.base x k ps G 0 ks pm) (hr : Room k X.A) (hg : Gl X x)
    (hkw : LK X E0 kws g) (hl2 : LenIs g ks.length) (hn : ∀ xs : List V, xs.length = 0 + ks.length → (permL pm xs).length = ps.length)
    (hall : (backToKw pos (keywordEach kws X.env)).all (·.1.isSome) = true := by rfl) (hks : (backToKw pos (keywordEach kws X.env)).filterMap (·.1) = ks := by rfl)
    (hdb : (x == ("__debug__" : Str)) = false := by decide) (hpl : ((backTo pos (starEach [] X.env)).any (·.1) || (backToKw pos (keywordEach kws X.env)).any (·.1.isNone)) = false := by rfl) :
    LE X E0 (.Call (.Name x p) [] kws pos) (sCBk G pm sNil g) := by
  obtain ⟨fa, fd, F, hm, hk, hb⟩ := F
  exact ⟨peMono (pe_callK0 F hr hg hm hk hb pass0 hkw.pk hall hks hdb hpl) fun σ H Q h => by
    have h1 := lift_cbk (E' := E0) lenIs_nil hl2 hn h
    obtain ⟨ρ, st, μ, re, rs, p⟩ := h1
    exact p [] H μ (.refl _ _) .nil rs⟩

/-! ### built-ins' values -/
theorem bt_abs : bootBuiltins "abs" = some (.builtin "abs") := by decide +kernel
theorem bt_len : bootBuiltins "len" = some (.builtin "len") := by decide +kernel
theorem bt_max : bootBuiltins "max" = some (.builtin "max") := by decide +kernel
theorem bt_min : bootBuiltins "min" = some (.builtin "min") := by decide +kernel
theorem bt_sum : bootBuiltins "sum" = some (.builtin "sum") := by decide +kernel
theorem bt_sorted : bootBuiltins "sorted" = some (.builtin "sorted") := by decide +kernel
theorem bt_int : bootBuiltins "int" = some (.type "int") := by decide +kernel
theorem bt_str : bootBuiltins "str" = some (.type "str") := by decide +kernel
theorem bt_tuple : bootBuiltins "tuple" = some (.type "tuple") := by decide +kernel
theorem bt_list : bootBuiltins "list" = some (.type "list") := by decide +kernel

/-! ### three at once -/
theorem reps3 {K : PySem.W.Frag} {H : Hp} {μ : List Addr} {d d' d2 : D} {vs : List V} (r : Reps K H μ [d, d', d2] vs) : ∃ v w z, vs = [v, w, z] ∧ Rep K H μ d v ∧ Rep K H μ d' w ∧ Rep K H μ d2 z := by
  cases r with
  | cons r t =>
    obtain ⟨w, z, e, r2, r3⟩ := reps2 t
    subst e
    exact ⟨_, _, _, rfl, r, r2, r3⟩
theorem ls_par3 (i j l : Nat) {x y z : Str} {a b c : Expr} {f : SL} {px py pz pt : Pos} {kt k2 : Nat} {pt2 : Pos} (hc : X.calm = true) (hN : X.N.Nodup) (ha : LL X E [a, b, c] f) (hi : X.N[i]? = some x := by rfl) (hj : X.N[j]? = some y := by rfl) (hl : X.N[l]? = some z := by rfl) (hij : i ≠ j := by decide) (hil : i ≠ l := by decide) (hjl : j ≠ l := by decide)
    (hx : X.env.scope.names.lookup x = some .local := by rfl) (hy : X.env.scope.names.lookup y = some .local := by rfl) (hz : X.env.scope.names.lookup z = some .local := by rfl)
    (hw : swappedStores [.Tuple [.Name x px, .Name y py, .Name z pz] kt pt] (.Tuple [a, b, c] k2 pt2) X.env = pure (some [x, y, z]) := by rfl)
    (hs : swapsWithSole [.Tuple [.Name x px, .Name y py, .Name z pz] kt pt] (.Tuple [a, b, c] k2 pt2) pos.line X.env = pure false := by rfl) :
    LS X E (.Assign [.Tuple [.Name x px, .Name y py, .Name z pz] kt pt] (.Tuple [a, b, c] k2 pt2) pos) (xPar3 i j l f) := ⟨psMono (ps_par3 hc hN hi hj hl hij hil hjl hx hy hz ha.pa hw hs) fun D σ H ⟨ρ, st, μ, re, rs, p⟩ =>
  ⟨ρ, st, μ, re, rs, (PostL.thn p).mono fun vs H1 ⟨ds, st1, μ1, x1, r1, s1, p1⟩ => by
    dsimp only at p1
    split at p1
    · obtain ⟨v, w', z', rfl, r2, r3, r4⟩ := reps3 r1
      exact ⟨v, w', z', rfl, p1 _ H1 μ1 (.refl _ _) ((((re.ext x1).set r2).set r3).set r4) s1⟩
    · exact p1.elim⟩⟩

/-! ### o[i] op= e, o a list -/
theorem pg_list : PGet X (rIxL X.K) := by
  intro pins s σ H x y v u Q I rx ry h
  obtain ⟨p, xs, i, z, rfl, rfl, hq, he, q⟩ := h
  cases rx
  obtain ⟨t, rfl⟩ := ry
  obtain ⟨its, r, pl, hz⟩ := I.list hq
  obtain ⟨j, h1, h2, h3, h4, h5⟩ := atI_get he
  obtain ⟨w', ew, rw'⟩ := r.get h2
  have hl := r.length
  have hn := line63
  have fin : EP X pins σ Q w' s := ⟨z, H, I, rw', q⟩
  by_cases h0 : 0 ≤ i
  · have hj : i.toNat = j := by
      rw [seqIndex_of h0 h5] at h1
      exact Option.some.inj h1
    exact wpAny_getItem_list pl.isList h0 (by omega) (by rw [hj]; simpa using ew) fin
  · have hj : (i + (its.toArray.size : Int)).toNat = j := by
      rw [seqIndex_neg (by omega) h4] at h1
      rw [List.size_toArray, ← hl]
      exact Option.some.inj h1
    exact wpAny_getItem_list_neg pl.isList (by omega) (by rw [List.size_toArray] <;> omega) (by omega) (by rw [hj]; simpa using ew) fin
def xAugL (F : F2) (fo fi fe : SE) : SS := fun ρ st => (fo ρ st).thn fun o st => (fi ρ st).thn fun i st => match o, i with
  | .ref n, .int k => match st[n]? with
    | some (.lst xs) => match L2.atI xs k with
      | some x => (fe ρ st).thn fun y st => (F x y st).thn fun z st => match st[n]? with
        | some (.lst ys) => match ixN ys.length k with
          | some j => .nx ρ (st.set n (.lst (ys.set j z)))
          | none => .stuck
        | _ => .stuck
      | none => .stuck
    | _ => .stuck
  | _, _ => .stuck
theorem ls_augL {o i e : Expr} {fo fi fe : SE} {F : F2} {op : Operator} {tpos : Pos} (hp : IpL X E op F) (ho : LE X E o fo) (hi : LE X E i fi) (he : LE X E e fe)
    (ha : ∀ ov iv new, augStore i ov iv new = (do holding [new, ov, iv] (setItem ov iv new); release [new, ov, iv] []; pure .next) := by intros; rfl) : LS X E (.AugAssign (.Subscript o i tpos) op e pos) (xAugL F fo fi fe) :=
  ⟨psMono (ps_augS ho.pe hi.pe pg_list he.pe hp set_list ha) fun De σ H ⟨ρ, st, μ, re, rs, p⟩ =>
    ⟨ρ, st, μ, re, rs, (Post.thn p).mono fun ov H1 ⟨do_, st1, μ1, x1, r1, s1, p1⟩ => ⟨ρ, st1, μ1, re.ext x1, s1, (Post.thn p1).mono fun iv H2 ⟨di, st2, μ2, x2, r2, s2, p2⟩ => by
      cases do_ with
      | ref n => cases di with
       | int k =>
        dsimp only at p2
        split at p2
        · rename_i xs q1
          split at p2
          · rename_i x ex
            cases r2
            have r1' := r1.ext x2
            cases r1' with
            | @ref _ a e2 =>
              obtain ⟨a', f1, ws, g1, rr⟩ := s2.at q1
              rw [e2] at f1; cases f1
              obtain ⟨z, ez, rz⟩ := rr.atI ex
              refine ⟨_, ws, k, z, rfl, rfl, .of g1, ez, ρ, st2, μ2, (re.ext x1).ext x2, s2, (Post.thn p2).mono fun y H4 ⟨dy, st4, μ4, x4, r4, s4, p4⟩ => ?_⟩
              refine ⟨x, dy, st4, μ4, rz.ext x4, r4, s4, (Post.thn p4).mono fun w5 H5 ⟨dz, st5, μ5, x5, r5, s5, p5⟩ => ?_⟩
              dsimp only at p5
              split at p5
              · rename_i ys q5
                split at p5
                · rename_i j ej
                  obtain ⟨a', f1, ws5, g5, rr5⟩ := s5.at q5
                  rw [x5.get (x4.get e2)] at f1; cases f1
                  have e5 := x5.get (x4.get e2)
                  have xw : Ext H5 μ5 (upd H5 a (.lst (ws5.set j w5))) μ5 := .write (List.mem_of_getElem? e5)
                  exact ⟨_, _, _, j, rfl, rfl, g5, by rw [← rr5.length]; exact ej, p5 σ _ μ5 xw (((((re.ext x1).ext x2).ext x4).ext x5).ext xw) (s5.write e5 ⟨_, upd_same, (rr5.set r5 j).ext xw⟩)⟩
                · exact p5.elim
              · exact p5.elim
          · exact p2.elim
        · exact p2.elim
       | _ => exact (show False from p2).elim
      | _ => (cases di <;> exact (show False from p2).elim)⟩⟩⟩
/-! ### xs[::-1] of a list -/
def vRev : F1 := fun d st => match d with
  | .ref n => match st[n]? with
    | some (.lst xs) => .ok (.ref st.length) (st ++ [.lst xs.reverse])
    | _ => .stuck
  | _ => .stuck
theorem le_rev {e : Expr} {f : SE} {k : Nat} {p1 p2 p3 : Pos} (he : LE X E e f) : LE X E (.Subscript e (.Slice none none (some (.UnaryOp .USub (.Constant (.int 1) k p1) p2)) p3) pos) (s1 vRev f) :=
  ⟨peMono (pe_revL he.pe) fun σ H Q h => by
    obtain ⟨ρ, st, μ, re, rs, p⟩ := lift_s1 h
    refine ⟨ρ, st, μ, re, rs, p.mono fun v H1 ⟨d, st1, μ1, r1, s1, p1⟩ => ?_⟩
    cases d with
    | ref n =>
      simp only [vRev] at p1
      split at p1
      · rename_i xs q1
        obtain ⟨a, f1, ws, g1, r⟩ := s1.at q1
        cases r1 with
        | ref e1 =>
          rw [e1] at f1; cases f1
          exact ⟨_, ws, rfl, .of g1, fun b hb => post_lst p1 r.reverse s1 hb⟩
      · exact p1.elim
    | _ => exact (show False from p1).elim⟩
end
end L3
namespace L3
open PySem PySem.Spec PyProof.Rows L2
theorem permL_len {α β : Type} (pm : List Nat) {xs : List α} {ys : List β} (h : xs.length = ys.length) : (permL pm xs).length = (permL pm ys).length := by
  induction pm with
  | nil => rfl
  | cons i pm ih =>
    unfold permL at ih ⊢
    by_cases hi : i < xs.length
    · rw [List.filterMap_cons_some (List.getElem?_eq_getElem hi), List.filterMap_cons_some (List.getElem?_eq_getElem (h ▸ hi)), List.length_cons, List.length_cons, ih]
    · rw [List.filterMap_cons_none (List.getElem?_eq_none (by omega)), List.filterMap_cons_none (List.getElem?_eq_none (by omega)), ih]
theorem lenOk (na nb : Nat) (pm : List Nat) {n : Nat} (h : (permL pm (List.range (na + nb))).length = n) : ∀ xs : List V, xs.length = na + nb → (permL pm xs).length = n := fun xs e => by
  rw [permL_len pm (ys := List.range (na + nb)) (by rw [e, List.length_range])]; exact h
/-- a def as the top has left it -/
def FnAt (K : PySem.W.Frag) (x : Str) (st : Stmt) : Prop := ∃ f fd, Fun K x x st f fd ∧ PySem.W.nsIn K mainGlobals x = some (some (.ref f))
theorem FnAt.mk {K : PySem.W.Frag} {x : Str} {st : Stmt} {f : Addr} {oc : Value} {od an : Option Addr} {osl : Array (Option Value)} {kV doc pm cdv ct : Value} (a : PySem.W.nsIn K mainGlobals x = some (some (.ref f)))
    (l : K.lookup f = some ⟨oc, od, .func (PySem.W.fnOf x x (defArgs st) (defBody st) (defScope st) .none kV doc pm an cdv ct), osl⟩)
    (c : PySem.W.codeIn K cdv x = true) (k : PySem.W.keepIn K (.ref f) = true) : FnAt K x st := ⟨f, _, fun_mk l c k, a⟩
theorem FnAt.get {K : PySem.W.Frag} {x : Str} {st : Stmt} {h : Heap} {mg : Str → Option Value} (F : FnAt K x st) (X : K.In h) (G : h.Ns mainGlobals mg) : ∃ f fd, Fun K x x st f fd ∧ mg x = some (.ref f) := by
  obtain ⟨f, fd, F, a⟩ := F
  exact ⟨f, fd, F, PySem.W.mg_of X G a⟩
theorem law_sp {K : PySem.W.Frag} {F : FL} (ht : ∀ ns : List Int, ns.length ≤ 63 → ∃ st, F [.rl (ns.map D.int)] [] = .ok (.bl true) st) {vs : List V} {H : Hp} {Q : VK} {E : XK}
    (h : ∃ (a : Addr) (ns : List Int), vs = [.ref a] ∧ SqL K H a (ns.map V.int) ∧ ns.length ≤ 63 ∧ Only H ∧ ∀ H1, Q (.bl true) H1) : spOf K 1 F vs H Q E := by
  obtain ⟨a, ns, rfl, hS, hl, hO, q⟩ := h
  obtain ⟨st, e⟩ := ht ns hl
  refine ⟨rfl, _, [], [], .cons (.rl ?_ (reps_ints ns)) .nil, ⟨rfl, .nil, fun i a o h => by simp at h⟩, ?_⟩
  · rcases hS with (h | h) | h
    · rcases hO a with h2 | ⟨o, xs, h2⟩
      · rw [h2] at h; cases h
      · rw [h2] at h; cases h
    · exact .inl ⟨h, by simp⟩
    · exact .inr h
  · rw [e]
    intro v H' μ' x r s
    cases r
    exact q H'
end L3

/-! L4: reckoning with the layer's functions. -/
namespace L3
open PySem L2
/-! ### low -/
mutual
theorem D.low_mono {m n : Nat} (h : m ≤ n) : ∀ d : D, d.low m = true → d.low n = true
  | .non, _ => rfl
  | .bl _, _ => rfl
  | .int _, _ => rfl
  | .str _, _ => rfl
  | .tup xs, q => D.lows_mono h xs q
  | .rl xs, q => D.lows_mono h xs q
  | .ref k, q => decide_eq_true (Nat.lt_of_lt_of_le (of_decide_eq_true q) h)
theorem D.lows_mono {m n : Nat} (h : m ≤ n) : ∀ ds : List D, D.lows m ds = true → D.lows n ds = true
  | [], _ => rfl
  | d :: ds, q => Bool.and_eq_true_iff.mpr ⟨D.low_mono h d (Bool.and_eq_true_iff.mp q).1, D.lows_mono h ds (Bool.and_eq_true_iff.mp q).2⟩
end
theorem lows_iff {n : Nat} : ∀ {ds : List D}, D.lows n ds = true ↔ ∀ d ∈ ds, d.low n = true
  | [] => by simp [D.lows]
  | d :: ds => by simp [D.lows, lows_iff (ds := ds)]
@[simp] theorem low_non {n : Nat} : D.low n .non = true := by first | rw [D.low] | rw [D.lows]
@[simp] theorem low_bl {n : Nat} {b : Bool} : D.low n (.bl b) = true := by first | rw [D.low] | rw [D.lows]
@[simp] theorem low_int {n : Nat} {b : Int} : D.low n (.int b) = true := by first | rw [D.low] | rw [D.lows]
@[simp] theorem low_str {n : Nat} {b : Str} : D.low n (.str b) = true := by first | rw [D.low] | rw [D.lows]
@[simp] theorem low_tup {n : Nat} {b : List D} : D.low n (.tup b) = D.lows n b := by first | rw [D.low] | rw [D.lows]
@[simp] theorem low_rl {n : Nat} {b : List D} : D.low n (.rl b) = D.lows n b := by first | rw [D.low] | rw [D.lows]
@[simp] theorem low_ref {n k : Nat} : D.low n (.ref k) = decide (k < n) := by first | rw [D.low] | rw [D.lows]
@[simp] theorem lows_nil {n : Nat} : D.lows n [] = true := by first | rw [D.low] | rw [D.lows]
@[simp] theorem lows_cons {n : Nat} {d : D} {ds : List D} : D.lows n (d :: ds) = (D.low n d && D.lows n ds) := by first | rw [D.low] | rw [D.lows]
@[simp] theorem lows_append {n : Nat} {d ds : List D} : D.lows n (d ++ ds) = (D.lows n d && D.lows n ds) := by
  induction d with
  | nil => simp
  | cons x xs ih => simp [ih, Bool.and_assoc]
@[simp] theorem lows_map {α : Type} {n : Nat} {f : α → D} (h : ∀ a, (f a).low n = true) (xs : List α) : D.lows n (xs.map f) = true := lows_iff.mpr fun d hd => by
  obtain ⟨a, _, rfl⟩ := List.mem_map.mp hd
  exact h a
@[simp] theorem lows_ints {n : Nat} (xs : List Int) : D.lows n (xs.map D.int) = true := lows_map (fun _ => rfl) xs

/-! ### swept -/
@[simp] theorem swept_stuck {st : Store} : swept st .stuck = .stuck := (rfl)
theorem swept_len {st st' : Store} {d : D} (h : st'.length = st.length) : swept st (.ok d st') = .ok d st' := by
  unfold swept
  simp only
  split
  · rw [← h, List.take_length]
  · rfl
@[simp] theorem swept_same {st : Store} {d : D} : swept st (.ok d st) = .ok d st := swept_len rfl
theorem swept_more {st st1 more : Store} {d : D} (hl : st1.length = st.length) (hd : d.low 0 = true) (ho : ∀ (i : Nat) (o : SO), st1[i]? = some o → st[i]? = some o ∨ o.low st.length = true) : swept st (.ok d (st1 ++ more)) = .ok d st1 := by
  unfold swept
  simp only
  rw [if_pos]
  · rw [← hl]; simp
  · refine ⟨by simp [hl], D.low_mono (Nat.zero_le _) d hd, fun i o hi e => ?_⟩
    rw [List.getElem?_append_left (by omega)] at e
    exact ho i o e
@[simp] theorem swept_push {st more : Store} {d : D} (hd : d.low 0 = true) : swept st (.ok d (st ++ more)) = .ok d st := swept_more rfl hd fun i o e => .inl e
/-! ### plain steps -/
@[simp] theorem sVar_ev {i : Nat} {ρ : Envr} {st : Store} : sVar i ρ st = match ρ[i]? with
  | some (some d) => .ok d st
  | _ => .stuck := (rfl)
@[simp] theorem sC_ev {d : D} {ρ : Envr} {st : Store} : sC d ρ st = .ok d st := (rfl)
@[simp] theorem sNil_ev {ρ : Envr} {st : Store} : sNil ρ st = .ok [] st := (rfl)
@[simp] theorem sCons_ev {f : SE} {g : SL} {ρ : Envr} {st : Store} : sCons f g ρ st = (f ρ st).bind fun d st => (g ρ st).bind fun ds st => .ok (d :: ds) st := (rfl)
@[simp] theorem sTup_ev {f : SL} {ρ : Envr} {st : Store} : sTup f ρ st = (f ρ st).bind fun ds st => .ok (.tup ds) st := (rfl)
@[simp] theorem sLst_ev {f : SL} {ρ : Envr} {st : Store} : sLst f ρ st = (f ρ st).bind fun ds st => .ok (.ref st.length) (st ++ [.lst ds]) := (rfl)
@[simp] theorem s2_ev {F : F2} {f g : SE} {ρ : Envr} {st : Store} : s2 F f g ρ st = (f ρ st).bind fun x st => (g ρ st).bind fun y st => F x y st := (rfl)
@[simp] theorem s1_ev {F : F1} {f : SE} {ρ : Envr} {st : Store} : s1 F f ρ st = (f ρ st).bind fun x st => F x st := (rfl)
@[simp] theorem sCB_ev {F : FL} {g : SL} {ρ : Envr} {st : Store} : sCB F g ρ st = (g ρ st).bind F := (rfl)
@[simp] theorem sCBk_ev {F : FL} {pm : List Nat} {f g : SL} {ρ : Envr} {st : Store} : sCBk F pm f g ρ st = (f ρ st).bind fun ds st => (g ρ st).bind fun es st => F (permL pm (ds ++ es)) st := (rfl)
@[simp] theorem sBool_bl {f : SE} {ρ : Envr} {st st' : Store} {b : Bool} (h : f ρ st = .ok (.bl b) st') : sBool f ρ st = .ok b st' := by unfold sBool; rw [h]; rfl
@[simp] theorem sBool_ev {f : SE} {ρ : Envr} {st : Store} : sBool f ρ st = (f ρ st).bind fun x st => match x with
  | .bl b => .ok b st
  | _ => .stuck := (rfl)
@[simp] theorem sTruth_ev {f : SE} {ρ : Envr} {st : Store} : sTruth f ρ st = (f ρ st).bind fun x st => match truth x st with
  | some b => .ok b st
  | none => .stuck := (rfl)
@[simp] theorem sNot_ev {t : SB} {ρ : Envr} {st : Store} : sNot t ρ st = (t ρ st).bind fun b st => .ok (!b) st := (rfl)
@[simp] theorem sNotV_ev {t : SB} {ρ : Envr} {st : Store} : sNotV t ρ st = (t ρ st).bind fun b st => .ok (.bl (!b)) st := (rfl)
@[simp] theorem sAnd_ev {t u : SB} {ρ : Envr} {st : Store} : sAnd t u ρ st = (t ρ st).bind fun b st => if b = true then u ρ st else .ok false st := (rfl)
@[simp] theorem sOr_ev {t u : SB} {ρ : Envr} {st : Store} : sOr t u ρ st = (t ρ st).bind fun b st => if b = true then .ok true st else u ρ st := (rfl)
@[simp] theorem sIte_ev {t : SB} {f g : SE} {ρ : Envr} {st : Store} : sIte t f g ρ st = (t ρ st).bind fun b st => if b = true then f ρ st else g ρ st := (rfl)
@[simp] theorem sAndV_ev {f g : SE} {ρ : Envr} {st : Store} : sAndV f g ρ st = (f ρ st).bind fun x st => match truth x st with
  | some true => g ρ st
  | some false => .ok x st
  | none => .stuck := (rfl)
@[simp] theorem sOrV_ev {f g : SE} {ρ : Envr} {st : Store} : sOrV f g ρ st = (f ρ st).bind fun x st => match truth x st with
  | some true => .ok x st
  | some false => g ρ st
  | none => .stuck := (rfl)
@[simp] theorem sChain_ev {F G : F2} {f g h : SE} {ρ : Envr} {st : Store} : sChain F G f g h ρ st = (f ρ st).bind fun x st => (g ρ st).bind fun y st => (F x y st).bind fun z st => match z with
  | .bl true => (h ρ st).bind fun w st => G y w st
  | .bl false => .ok (.bl false) st
  | _ => .stuck := (rfl)
@[simp] theorem sSwp_ev {f : SE} {ρ : Envr} {st : Store} : sSwp f ρ st = swept st (f ρ st) := (rfl)
@[simp] theorem sSwpB_ev {f : SB} {ρ : Envr} {st : Store} : sSwpB f ρ st = sweptB st (f ρ st) := (rfl)
@[simp] theorem sweptB_same {st : Store} {d : Bool} : sweptB st (.ok d st) = .ok d st := by
  unfold sweptB; simp only; split
  · rw [List.take_length]
  · rfl
@[simp] theorem sweptB_push {st more : Store} {d : Bool} : sweptB st (.ok d (st ++ more)) = .ok d st := by
  unfold sweptB; simp only; rw [if_pos]
  · simp
  · refine ⟨by simp, fun i o hi e => ?_⟩
    rw [List.getElem?_append_left hi] at e
    exact .inl e
@[simp] theorem sSlice_ev {F : FS} {f : SE} {g h : SO'} {ρ : Envr} {st : Store} : sSlice F f g h ρ st = (f ρ st).bind fun d st => (g ρ st).bind fun lo st => (h ρ st).bind fun hi st => F d lo hi st := (rfl)
@[simp] theorem sNoPart_ev {ρ : Envr} {st : Store} : sNoPart ρ st = .ok none st := (rfl)
@[simp] theorem sPart_ev {f : SE} {ρ : Envr} {st : Store} : sPart f ρ st = (f ρ st).bind fun d st => match d with
  | .int i => .ok (some i) st
  | _ => .stuck := (rfl)
@[simp] theorem sIsi_ev {T : String} {f : SE} {ρ : Envr} {st : Store} : sIsi T f ρ st = (f ρ st).bind fun d st => match tyName d st with
  | some n => match kitB n T with
    | some b => .ok (.bl b) st
    | none => .stuck
  | none => .stuck := (rfl)
@[simp] theorem sML_ev {F : FM} {f : SE} {g : SL} {ρ : Envr} {st : Store} : sML F f g ρ st = (f ρ st).bind fun d st => match d with
  | .ref n => if isLst st n = true then (g ρ st).bind fun ds st => F n ds st else .stuck
  | _ => .stuck := (rfl)
@[simp] theorem sMT_ev {F : FT} {f : SE} {g : SL} {ρ : Envr} {st : Store} : sMT F f g ρ st = (f ρ st).bind fun d st => match d with
  | .str z => (g ρ st).bind fun ds st => F z ds st
  | _ => .stuck := (rfl)
@[simp] theorem sYes_ev {ρ : Envr} {st : Store} : sYes ρ st = .ok true st := (rfl)
@[simp] theorem bind_ok' {α β : Type} {a : α} {st : Store} {f : α → Store → Res β} : (Res.ok a st).bind f = f a st := (rfl)
@[simp] theorem bind_stuck' {α β : Type} {f : α → Store → Res β} : (Res.stuck : Res α).bind f = .stuck := (rfl)
@[simp] theorem thn_ok' {α : Type} {a : α} {st : Store} {f : α → Store → SRes} : (Res.ok a st).thn f = f a st := (rfl)
@[simp] theorem thn_stuck' {α : Type} {f : α → Store → SRes} : (Res.stuck : Res α).thn f = .stuck := (rfl)
@[simp] theorem calm_ok' {α : Type} {a : α} {st : Store} : (Res.ok a st).calm = .ok a st := (rfl)
@[simp] theorem bind_ite {α β : Type} {c : Prop} [Decidable c] {a b : Res α} {f : α → Store → Res β} : (if c then a else b).bind f = if c then a.bind f else b.bind f := by split <;> rfl
@[simp] theorem thn_ite {α : Type} {c : Prop} [Decidable c] {a b : Res α} {f : α → Store → SRes} : (if c then a else b).thn f = if c then a.thn f else b.thn f := by split <;> rfl
/-! statements -/
@[simp] theorem xNil_ev {ρ : Envr} {st : Store} : xNil ρ st = .nx ρ st := (rfl)
@[simp] theorem xSeq_ev {f g : SS} {ρ : Envr} {st : Store} : xSeq f g ρ st = (f ρ st).thn g := (rfl)
@[simp] theorem nx_thn {g : SS} {ρ : Envr} {st : Store} : (SRes.nx ρ st).thn g = g ρ st := (rfl)
@[simp] theorem rt_thn {g : SS} {d : D} {st : Store} : (SRes.rt d st).thn g = .rt d st := (rfl)
@[simp] theorem bk_thn {g : SS} {ρ : Envr} {st : Store} : (SRes.bk ρ st).thn g = .bk ρ st := (rfl)
@[simp] theorem ct_thn {g : SS} {ρ : Envr} {st : Store} : (SRes.ct ρ st).thn g = .ct ρ st := (rfl)
@[simp] theorem stuck_thn {g : SS} : SRes.stuck.thn g = .stuck := (rfl)
@[simp] theorem sthn_ite {c : Prop} [Decidable c] {a b : SRes} {g : SS} : (if c then a else b).thn g = if c then a.thn g else b.thn g := by split <;> rfl
@[simp] theorem xRet_ev {f : SE} {ρ : Envr} {st : Store} : xRet f ρ st = (f ρ st).thn fun d st => .rt d st := (rfl)
@[simp] theorem xRetN_ev {ρ : Envr} {st : Store} : xRetN ρ st = .rt .non st := (rfl)
@[simp] theorem xBreak_ev {ρ : Envr} {st : Store} : xBreak ρ st = .bk ρ st := (rfl)
@[simp] theorem xCont_ev {ρ : Envr} {st : Store} : xCont ρ st = .ct ρ st := (rfl)
@[simp] theorem xExpr_ev {f : SE} {ρ : Envr} {st : Store} : xExpr f ρ st = (f ρ st).thn fun _ st => .nx ρ st := (rfl)
@[simp] theorem xIf_ev {t : SB} {f g : SS} {ρ : Envr} {st : Store} : xIf t f g ρ st = (t ρ st).thn fun b st => if b = true then f ρ st else g ρ st := (rfl)
@[simp] theorem xAsg_ev {t : Tgt} {f : SE} {ρ : Envr} {st : Store} : xAsg t f ρ st = (f ρ st).thn fun d st => match t.ev d ρ with
  | some ρ' => .nx ρ' st
  | none => .stuck := (rfl)
@[simp] theorem ev_nm {i : Nat} {d : D} {ρ : Envr} : (Tgt.nm i).ev d ρ = some (ρ.set i (some d)) := by simp only [Tgt.ev]
@[simp] theorem ev_tp {ts : List Tgt} {ds : List D} {ρ : Envr} : (Tgt.tp ts).ev (.tup ds) ρ = Tgt.evs ts ds ρ := by simp only [Tgt.ev]
@[simp] theorem evs_nil {ρ : Envr} : Tgt.evs [] [] ρ = some ρ := by simp only [Tgt.evs]
@[simp] theorem evs_cons {t : Tgt} {ts : List Tgt} {d : D} {ds : List D} {ρ : Envr} : Tgt.evs (t :: ts) (d :: ds) ρ = match Tgt.ev t d ρ with
    | some ρ1 => Tgt.evs ts ds ρ1
    | none => none := by first | (rw [Tgt.evs]; done) | (rw [Tgt.evs]; cases t.ev d ρ <;> rfl)
@[simp] theorem xPar_ev {i j : Nat} {f : SL} {ρ : Envr} {st : Store} : xPar i j f ρ st = (f ρ st).thn fun ds st => match ds with
  | [d, d'] => .nx ((ρ.set i (some d)).set j (some d')) st
  | _ => .stuck := (rfl)
@[simp] theorem xPar3_ev {i j l : Nat} {f : SL} {ρ : Envr} {st : Store} : xPar3 i j l f ρ st = (f ρ st).thn fun ds st => match ds with
  | [d, d', d2] => .nx (((ρ.set i (some d)).set j (some d')).set l (some d2)) st
  | _ => .stuck := (rfl)
@[simp] theorem xAug_ev {i : Nat} {F : F2} {f : SE} {ρ : Envr} {st : Store} : xAug i F f ρ st = match ρ[i]? with
  | some (some d) => (f ρ st).thn fun d' st => (F d d' st).thn fun z st => .nx (ρ.set i (some z)) st
  | _ => .stuck := (rfl)
@[simp] theorem xSetL_ev {fv fo fi : SE} {ρ : Envr} {st : Store} : xSetL fv fo fi ρ st = (fv ρ st).thn fun v st => (fo ρ st).thn fun o st => (fi ρ st).thn fun i st => match o, i with
  | .ref n, .int k => match st[n]? with
    | some (.lst xs) => match ixN xs.length k with
      | some j => .nx ρ (st.set n (.lst (xs.set j v)))
      | none => .stuck
    | _ => .stuck
  | _, _ => .stuck := (rfl)
@[simp] theorem xFor_ev {f : SI} {t : Tgt} {body : SS} {ρ : Envr} {st : Store} : xFor f t body ρ st = (f ρ st).thn fun src st => forL src t body src.all ρ st := (rfl)
@[simp] theorem iSeq_ev {f : SE} {ρ : Envr} {st : Store} : iSeq f ρ st = (f ρ st).bind fun d st => match srcOf d st with
  | some src => .ok src st
  | none => .stuck := (rfl)
@[simp] theorem srcOf_tup {xs : List D} {st : Store} : srcOf (.tup xs) st = some (.its xs) := (rfl)
@[simp] theorem srcOf_rl {xs : List D} {st : Store} : srcOf (.rl xs) st = some (.its xs) := (rfl)
@[simp] theorem srcOf_str {z : Str} {st : Store} : srcOf (.str z) st = some (.its (chars z)) := (rfl)
@[simp] theorem src_its_ok {xs : List D} {st : Store} : (Src.its xs).ok st = True := (rfl)
@[simp] theorem src_lst_ok {n : Nat} {xs : List D} {st : Store} : (Src.lst n xs).ok st = (st[n]? = some (.lst xs)) := (rfl)
@[simp] theorem src_its_all {xs : List D} : (Src.its xs).all = xs := (rfl)
@[simp] theorem src_lst_all {n : Nat} {xs : List D} : (Src.lst n xs).all = xs := (rfl)
/-! values -/
@[simp] theorem vAdd_int {i j : Int} {st : Store} : vAdd (.int i) (.int j) st = .ok (.int (i + j)) st := (rfl)
@[simp] theorem vAddI_int {i j : Int} {st : Store} : vAddI (.int i) (.int j) st = .ok (.int (i + j)) st := (rfl)
@[simp] theorem vSub_int {i j : Int} {st : Store} : vSub (.int i) (.int j) st = .ok (.int (i - j)) st := (rfl)
@[simp] theorem vMul_int {i j : Int} {st : Store} : vMul (.int i) (.int j) st = if wid i + wid j < 1000000 then .ok (.int (i * j)) st else .stuck := (rfl)
@[simp] theorem vFdiv_int {i j : Int} {st : Store} : vFdiv (.int i) (.int j) st = if 0 < j ∧ wid j < 9000 then .ok (.int (i / j)) st else .stuck := (rfl)
@[simp] theorem vMod_int {i j : Int} {st : Store} : vMod (.int i) (.int j) st = if 0 < j then .ok (.int (i % j)) st else .stuck := (rfl)
@[simp] theorem vNeg_int {i : Int} {st : Store} : vNeg (.int i) st = .ok (.int (-i)) st := (rfl)
@[simp] theorem vCmpI_int {p : Int → Int → Bool} {i j : Int} {st : Store} : vCmpI p (.int i) (.int j) st = .ok (.bl (p i j)) st := (rfl)
@[simp] theorem vEq_int {i j : Int} {st : Store} : vEq (.int i) (.int j) st = .ok (.bl (decide (i = j))) st := (rfl)
@[simp] theorem vEq_str {i j : Str} {st : Store} : vEq (.str i) (.str j) st = .ok (.bl (decide (i = j))) st := (rfl)
@[simp] theorem vNe_int {i j : Int} {st : Store} : vNe (.int i) (.int j) st = .ok (.bl (!decide (i = j))) st := (rfl)
@[simp] theorem vNe_str {i j : Str} {st : Store} : vNe (.str i) (.str j) st = .ok (.bl (!decide (i = j))) st := (rfl)
@[simp] theorem vIx_tup {xs : List D} {i : Int} {st : Store} : vIx (.tup xs) (.int i) st = match L2.atI xs i with
    | some d => .ok d st
    | none => .stuck := (rfl)
@[simp] theorem vIx_rl {xs : List D} {i : Int} {st : Store} : vIx (.rl xs) (.int i) st = match L2.atI xs i with
    | some d => .ok d st
    | none => .stuck := (rfl)
@[simp] theorem vIx_ref {n : Nat} {i : Int} {st : Store} : vIx (.ref n) (.int i) st = match st[n]? with
    | some (.lst xs) => match L2.atI xs i with
      | some d => .ok d st
      | none => .stuck
    | _ => .stuck := (rfl)
theorem atI_ofNat {α : Type} {xs : List α} {j : Nat} : L2.atI xs (j : Int) = xs[j]? := by
  cases h : xs[j]? with
  | some v => exact atI_nat h
  | none =>
    have := List.getElem?_eq_none_iff.mp h
    unfold L2.atI ixN
    rw [if_pos (by omega), if_neg (by omega)]
    rfl
@[simp] theorem atI_zero {α : Type} {xs : List α} : L2.atI xs 0 = xs[0]? := atI_ofNat (j := 0)
end L3
namespace L3
open PySem L2
@[simp] theorem atI_one {α : Type} {xs : List α} : L2.atI xs 1 = xs[1]? := atI_ofNat (j := 1)
@[simp] theorem atI_two {α : Type} {xs : List α} : L2.atI xs 2 = xs[2]? := atI_ofNat (j := 2)
@[simp] theorem atI_three {α : Type} {xs : List α} : L2.atI xs 3 = xs[3]? := atI_ofNat (j := 3)
@[simp] theorem atI_nat' {α : Type} {xs : List α} {j : Nat} : L2.atI xs (j : Int) = xs[j]? := atI_ofNat
theorem atI_of {α : Type} {xs : List α} {i : Int} (h : 0 ≤ i) : L2.atI xs i = xs[i.toNat]? := by
  obtain ⟨j, rfl⟩ := Int.eq_ofNat_of_zero_le h
  exact atI_ofNat
/-! ### comprehensions -/
theorem lcL_map {α : Type} {src : Src} {t : Tgt} {test : SB} {elt : SE} {ρ : Envr} {st : Store} {enc : α → D} {p : α → Bool} {g : α → D} (hs : src.ok st) :
    ∀ (xs : List α) (acc : List D), (∀ x ∈ xs, ∃ ρ1, t.ev (enc x) ρ = some ρ1 ∧ test ρ1 st = .ok (p x) st ∧ (p x = true → elt ρ1 st = .ok (g x) st)) → acc.length + xs.length ≤ sizeLine →
      lcL src t test elt ρ (xs.map enc) acc st = .ok (acc ++ (xs.filter p).map g) st
  | [], acc, _, _ => by simp [lcL, hs]
  | x :: xs, acc, h, hl => by
    obtain ⟨ρ1, h1, h2, h3⟩ := h x (by simp)
    have ih := fun acc' hl' => lcL_map (enc := enc) (p := p) (g := g) hs xs acc' (fun y hy => h y (by simp [hy])) hl'
    simp only [List.map_cons, lcL, if_pos hs, h1, h2, calm_ok', bind_ok']
    cases hp : p x with
    | true =>
      rw [if_pos rfl, h3 hp]
      simp only [calm_ok', bind_ok']
      rw [if_pos (by simp at hl; omega), ih _ (by simp at hl ⊢; omega), List.filter_cons_of_pos hp]
      simp
    | false =>
      rw [if_neg (by simp), ih _ (by simp at hl; omega), List.filter_cons_of_neg (by simp [hp])]
theorem sLc_map {α : Type} {f : SI} {t : Tgt} {test : SB} {elt : SE} {vs : List Nat} {ρ : Envr} {st st1 : Store} {src : Src} (enc : α → D) (p : α → Bool) (g : α → D) (xs : List α) (hf : f ρ st = .ok src st1) (ha : src.all = xs.map enc) (hs : src.ok st1)
    (h : ∀ x ∈ xs, ∃ ρ1, t.ev (enc x) (wipeE ρ vs) = some ρ1 ∧ test ρ1 st1 = .ok (p x) st1 ∧ (p x = true → elt ρ1 st1 = .ok (g x) st1)) (hl : xs.length ≤ sizeLine) :
    sLc f t test elt vs ρ st = .ok (.ref st1.length) (st1 ++ [.lst ((xs.filter p).map g)]) := by
  unfold sLc
  rw [hf, bind_ok', ha, lcL_map (enc := enc) (p := p) (g := g) hs xs [] h (by simpa using hl)]
  rfl
/-- .. without a test -/
theorem sLc_all {α : Type} {f : SI} {t : Tgt} {elt : SE} {vs : List Nat} {ρ : Envr} {st st1 : Store} {src : Src} (enc : α → D) (g : α → D) (xs : List α) (hf : f ρ st = .ok src st1) (ha : src.all = xs.map enc) (hs : src.ok st1)
    (h : ∀ x ∈ xs, ∃ ρ1, t.ev (enc x) (wipeE ρ vs) = some ρ1 ∧ elt ρ1 st1 = .ok (g x) st1) (hl : xs.length ≤ sizeLine) :
    sLc f t sYes elt vs ρ st = .ok (.ref st1.length) (st1 ++ [.lst (xs.map g)]) := by
  rw [sLc_map (test := sYes) enc (fun _ => true) g xs hf ha hs (fun x hx => let ⟨ρ1, h1, h2⟩ := h x hx; ⟨ρ1, h1, rfl, fun _ => h2⟩) hl]
  rw [List.filter_eq_self.mpr (fun _ _ => rfl)]
theorem sLc_its {α : Type} {f : SI} {t : Tgt} {test : SB} {elt : SE} {vs : List Nat} {ρ : Envr} {st : Store} (enc : α → D) (p : α → Bool) (g : α → D) (xs : List α) (hf : f ρ st = .ok (.its (xs.map enc)) st) (hl : xs.length ≤ sizeLine)
    (h : ∀ x ∈ xs, ∃ ρ1, t.ev (enc x) (wipeE ρ vs) = some ρ1 ∧ test ρ1 st = .ok (p x) st ∧ (p x = true → elt ρ1 st = .ok (g x) st)) :
    sLc f t test elt vs ρ st = .ok (.ref st.length) (st ++ [.lst ((xs.filter p).map g)]) := sLc_map enc p g xs hf rfl trivial h hl
theorem sLc_itsA {α : Type} {f : SI} {t : Tgt} {elt : SE} {vs : List Nat} {ρ : Envr} {st : Store} (enc : α → D) (g : α → D) (xs : List α) (hf : f ρ st = .ok (.its (xs.map enc)) st) (hl : xs.length ≤ sizeLine)
    (h : ∀ x ∈ xs, ∃ ρ1, t.ev (enc x) (wipeE ρ vs) = some ρ1 ∧ elt ρ1 st = .ok (g x) st) :
    sLc f t sYes elt vs ρ st = .ok (.ref st.length) (st ++ [.lst (xs.map g)]) := sLc_all enc g xs hf rfl trivial h hl
@[simp] theorem get_last {st : Store} {o : SO} : (st ++ [o])[st.length]? = some o := by simp
@[simp] theorem wipeE_nil {ρ : Envr} : wipeE ρ [] = ρ := (rfl)
@[simp] theorem wipeE_cons {ρ : Envr} {v : Nat} {vs : List Nat} : wipeE ρ (v :: vs) = (wipeE ρ vs).set v none := (rfl)
@[simp] theorem bLen_push {st : Store} {xs : List D} : bLen [.ref st.length] (st ++ [.lst xs]) = .ok (.int xs.length) (st ++ [.lst xs]) := by simp [bLen]
@[simp] theorem bLen_tup {st : Store} {xs : List D} : bLen [.tup xs] st = .ok (.int xs.length) st := (rfl)
@[simp] theorem bLen_rl {st : Store} {xs : List D} : bLen [.rl xs] st = .ok (.int xs.length) st := (rfl)
@[simp] theorem bTuple_push {st : Store} {xs : List D} : bTuple [.ref st.length] (st ++ [.lst xs]) = .ok (.tup xs) (st ++ [.lst xs]) := by simp [bTuple, seqOf]
@[simp] theorem bTuple_tup {st : Store} {xs : List D} : bTuple [.tup xs] st = .ok (.tup xs) st := (rfl)
@[simp] theorem bSum_push {st : Store} {xs : List Int} : bSum [.ref st.length] (st ++ [.lst (xs.map D.int)]) = .ok (.int xs.sum) (st ++ [.lst (xs.map D.int)]) := by
  simp only [bSum, seqOf, get_last, Option.bind_some, intsOf_map]
@[simp] theorem bSum_tup {st : Store} {xs : List Int} : bSum [.tup (xs.map D.int)] st = .ok (.int xs.sum) st := by
  simp only [bSum, seqOf, Option.bind_some, intsOf_map]
@[simp] theorem bAbs_int {st : Store} {i : Int} : bAbs [.int i] st = .ok (.int i.natAbs) st := (rfl)
@[simp] theorem bInt_int {st : Store} {i : Int} : bInt [.int i] st = .ok (.int i) st := (rfl)
@[simp] theorem bInt_bl {st : Store} {i : Bool} : bInt [.bl i] st = .ok (.int (if i then 1 else 0)) st := (rfl)
@[simp] theorem bMax_int {st : Store} {i j : Int} : bMax [.int i, .int j] st = .ok (.int (max i j)) st := (rfl)
@[simp] theorem bMin_int {st : Store} {i j : Int} : bMin [.int i, .int j] st = .ok (.int (min i j)) st := (rfl)
/-! a def's end -/
theorem fnBody_ev {n : Nat} {body : SS} {ds : List D} {st : Store} : fnBody n body ds st = swept st (match body (ds.map some ++ List.replicate (n - ds.length) none) st with
  | .rt d st' => .ok d st'
  | .nx _ st' => .ok .non st'
  | .exc x st' => .exc x st'
  | _ => .stuck) := (rfl)
theorem fn_rt {n : Nat} {body : SS} {ds : List D} {st st' : Store} {d : D} (h : body (ds.map some ++ List.replicate (n - ds.length) none) st = .rt d st') : fnBody n body ds st = swept st (.ok d st') := by
  rw [fnBody_ev, h]
theorem fn_nx {n : Nat} {body : SS} {ds : List D} {st st' : Store} {ρ : Envr} (h : body (ds.map some ++ List.replicate (n - ds.length) none) st = .nx ρ st') : fnBody n body ds st = swept st (.ok .non st') := by
  rw [fnBody_ev, h]
/-! ### loops -/
/-- a loop that goes through: the frame and the store behind each turn are known -/
theorem forL_fold {α σ : Type} {src : Src} {t : Tgt} {body : SS} {enc : α → D} (R : σ → Envr) (S : σ → Store) (f : σ → α → σ) (hs : ∀ s, src.ok (S s)) :
    ∀ (xs : List α) (s : σ), (∀ x ∈ xs, ∀ s, ∃ ρ1, t.ev (enc x) (R s) = some ρ1 ∧ (body ρ1 (S s) = .nx (R (f s x)) (S (f s x)) ∨ body ρ1 (S s) = .ct (R (f s x)) (S (f s x)))) →
      forL src t body (xs.map enc) (R s) (S s) = .nx (R (xs.foldl f s)) (S (xs.foldl f s))
  | [], s, _ => by simp [forL, hs]
  | x :: xs, s, h => by
    obtain ⟨ρ1, h1, h2⟩ := h x (by simp) s
    simp only [List.map_cons, forL, if_pos (hs s), h1, List.foldl_cons]
    rcases h2 with h2 | h2 <;> (rw [h2]; exact forL_fold R S f hs xs _ fun y hy => h y (by simp [hy]))
/-- .. with a word about each state -/
theorem forL_inv {α : Type} {src : Src} {t : Tgt} {body : SS} {enc : α → D} (I : List α → Envr → Store → Prop) (hs : ∀ p ρ st, I p ρ st → src.ok st) :
    ∀ (xs p : List α) (ρ : Envr) (st : Store), I p ρ st → (∀ p x q ρ st, p ++ x :: q = p ++ x :: q → x ∈ xs → I p ρ st → ∃ ρ1, t.ev (enc x) ρ = some ρ1 ∧ ∃ ρ2 st2, (body ρ1 st = .nx ρ2 st2 ∨ body ρ1 st = .ct ρ2 st2) ∧ I (p ++ [x]) ρ2 st2) →
      ∃ ρ2 st2, forL src t body (xs.map enc) ρ st = .nx ρ2 st2 ∧ I (p ++ xs) ρ2 st2
  | [], p, ρ, st, h0, _ => ⟨ρ, st, by simp [forL, hs p ρ st h0], by simpa using h0⟩
  | x :: xs, p, ρ, st, h0, h => by
    obtain ⟨ρ1, h1, ρ2, st2, h2, h3⟩ := h p x [] ρ st rfl (by simp) h0
    obtain ⟨ρ3, st3, h4, h5⟩ := forL_inv I hs xs (p ++ [x]) ρ2 st2 h3 fun p y q ρ st e hy => h p y q ρ st e (by simp [hy])
    refine ⟨ρ3, st3, ?_, by simpa using h5⟩
    simp only [List.map_cons, forL, if_pos (hs p ρ st h0), h1]
    rcases h2 with h2 | h2 <;> (rw [h2]; exact h4)
end L3
namespace L3
open PySem L2
/-! ### sizes of ints -/
theorem wid_lt {i : Int} (h : i.natAbs ≤ 10 ^ 30) : wid i < 1000 := by
  unfold wid
  have h2 : i.natAbs < 2 ^ 1000 := Nat.lt_of_le_of_lt h (by decide)
  by_cases h0 : i.natAbs = 0
  · rw [h0]; decide
  · exact (Nat.log2_lt h0).mpr h2
theorem mul_ok {a b : Int} (h1 : a.natAbs ≤ 10 ^ 30) (h2 : b.natAbs ≤ 10 ^ 30) : wid a + wid b < 1000000 := by
  have := wid_lt h1
  have := wid_lt h2
  omega
theorem div_ok {b : Int} (h0 : 0 < b) (h2 : b.natAbs ≤ 10 ^ 30) : 0 < b ∧ wid b < 9000 := by
  have := wid_lt h2
  omega
theorem mul_ev {a b : Int} {st : Store} (h1 : a.natAbs ≤ 10 ^ 30) (h2 : b.natAbs ≤ 10 ^ 30) : vMul (.int a) (.int b) st = .ok (.int (a * b)) st := by
  rw [vMul_int, if_pos (mul_ok h1 h2)]
theorem fdiv_ev {a b : Int} {st : Store} (h0 : 0 < b) (h2 : b.natAbs ≤ 10 ^ 30) : vFdiv (.int a) (.int b) st = .ok (.int (a / b)) st := by
  rw [vFdiv_int, if_pos (div_ok h0 h2)]
theorem mod_ev {a b : Int} {st : Store} (h0 : 0 < b) : vMod (.int a) (.int b) st = .ok (.int (a % b)) st := by
  rw [vMod_int, if_pos h0]
@[simp] theorem vPow_int {i j : Int} {st : Store} : vPow (.int i) (.int j) st = if 0 ≤ j ∧ j ≤ 1000000 ∧ i.natAbs < 2 ^ 64 then .ok (.int (i ^ j.toNat)) st else .stuck := (rfl)
@[simp] theorem vShl_int {i j : Int} {st : Store} : vShl (.int i) (.int j) st = if 0 ≤ j ∧ j ≤ 1000000 ∧ i.natAbs < 2 ^ 64 then .ok (.int (i * 2 ^ j.toNat)) st else .stuck := (rfl)
@[simp] theorem vShr_int {i j : Int} {st : Store} : vShr (.int i) (.int j) st = if 0 ≤ j then .ok (.int (i / 2 ^ j.toNat)) st else .stuck := (rfl)
@[simp] theorem truth_bl {b : Bool} {st : Store} : truth (.bl b) st = some b := (rfl)
@[simp] theorem truth_non {st : Store} : truth .non st = some false := (rfl)
@[simp] theorem truth_int {i : Int} {st : Store} : truth (.int i) st = some (i != 0) := (rfl)
@[simp] theorem truth_tup {xs : List D} {st : Store} : truth (.tup xs) st = some (!xs.isEmpty) := (rfl)
@[simp] theorem tyName_int {i : Int} {st : Store} : tyName (.int i) st = some "int" := (rfl)
@[simp] theorem tyName_bl {i : Bool} {st : Store} : tyName (.bl i) st = some "bool" := (rfl)
@[simp] theorem tyName_str {i : Str} {st : Store} : tyName (.str i) st = some "str" := (rfl)
@[simp] theorem tyName_tup {i : List D} {st : Store} : tyName (.tup i) st = some "tuple" := (rfl)
@[simp] theorem tyName_non {st : Store} : tyName .non st = some "NoneType" := (rfl)
theorem kit_1 : kitB "int" "int" = some true := by decide +kernel
theorem kit_2 : kitB "bool" "int" = some true := by decide +kernel
theorem kit_3 : kitB "str" "int" = some false := by decide +kernel
theorem kit_4 : kitB "tuple" "int" = some false := by decide +kernel
theorem kit_5 : kitB "NoneType" "int" = some false := by decide +kernel
theorem kit_6 : kitB "int" "bool" = some false := by decide +kernel
theorem kit_7 : kitB "bool" "bool" = some true := by decide +kernel
theorem kit_8 : kitB "str" "bool" = some false := by decide +kernel
theorem kit_9 : kitB "tuple" "bool" = some false := by decide +kernel
theorem kit_10 : kitB "NoneType" "bool" = some false := by decide +kernel
theorem kit_11 : kitB "int" "str" = some false := by decide +kernel
theorem kit_12 : kitB "bool" "str" = some false := by decide +kernel
theorem kit_13 : kitB "str" "str" = some true := by decide +kernel
theorem kit_14 : kitB "tuple" "str" = some false := by decide +kernel
theorem kit_15 : kitB "NoneType" "str" = some false := by decide +kernel
theorem kit_16 : kitB "int" "tuple" = some false := by decide +kernel
theorem kit_17 : kitB "bool" "tuple" = some false := by decide +kernel
theorem kit_18 : kitB "str" "tuple" = some false := by decide +kernel
theorem kit_19 : kitB "tuple" "tuple" = some true := by decide +kernel
theorem kit_20 : kitB "NoneType" "tuple" = some false := by decide +kernel
/-! ### what changes but two lists of the store -/
structure Upd (n m : Nat) (st st' : Store) : Prop where
  len : st'.length = st.length
  at_ : ∀ i : Nat, i ≠ n → i ≠ m → st'[i]? = st[i]?
theorem Upd.refl {n m : Nat} {st : Store} : Upd n m st st := ⟨rfl, fun _ _ _ => rfl⟩
theorem Upd.trans {n m : Nat} {a b c : Store} (h : Upd n m a b) (h' : Upd n m b c) : Upd n m a c := ⟨h'.len.trans h.len, fun i h1 h2 => (h'.at_ i h1 h2).trans (h.at_ i h1 h2)⟩
theorem Upd.set1 {n m : Nat} {st : Store} {o : SO} : Upd n m st (st.set n o) := ⟨by simp, fun i h1 h2 => by rw [List.getElem?_set_ne (Ne.symm h1)]⟩
theorem Upd.set2 {n m : Nat} {st : Store} {o : SO} : Upd n m st (st.set m o) := ⟨by simp, fun i h1 h2 => by rw [List.getElem?_set_ne (Ne.symm h2)]⟩
end L3

/-! L5: what holds when a piece of code goes through. -/
namespace L3
open PySem L2
def wpD {α : Type} (r : Res α) (Q : α → Store → Prop) : Prop := match r with
  | .ok a st => Q a st
  | _ => False
def wpsD (r : SRes) (N C B : Envr → Store → Prop) (R : D → Store → Prop) : Prop := match r with
  | .nx ρ st => N ρ st
  | .ct ρ st => C ρ st
  | .bk ρ st => B ρ st
  | .rt d st => R d st
  | _ => False
/-- a piece goes through, and this holds of what it gives (a structure: nothing unfolds it unasked) -/
structure wp {α : Type} (r : Res α) (Q : α → Store → Prop) : Prop where
  run : wpD r Q
structure wps (r : SRes) (N C B : Envr → Store → Prop) (R : D → Store → Prop) : Prop where
  run : wpsD r N C B R
/-- what is left to be done, unread -/
def Kn (f : SS) (N C B : Envr → Store → Prop) (R : D → Store → Prop) : Envr → Store → Prop := fun ρ st => wps (f ρ st) N C B R
theorem wp_iff {α : Type} {r : Res α} {Q : α → Store → Prop} : wp r Q = wpD r Q := propext ⟨fun h => h.run, fun h => ⟨h⟩⟩
theorem wps_iff {r : SRes} {N C B : Envr → Store → Prop} {R : D → Store → Prop} : wps r N C B R = wpsD r N C B R := propext ⟨fun h => h.run, fun h => ⟨h⟩⟩
section
variable {α β : Type} {N C B : Envr → Store → Prop} {R : D → Store → Prop} {st : Store} {ρ : Envr}
@[simp] theorem wp_ok {a : α} {Q : α → Store → Prop} : wp (.ok a st) Q = Q a st := by rw [wp_iff]; rfl
@[simp] theorem wp_stuck {Q : α → Store → Prop} : wp (.stuck : Res α) Q = False := by rw [wp_iff]; rfl
@[simp] theorem wp_exc {x : Exn} {Q : α → Store → Prop} : wp (.exc x st : Res α) Q = False := by rw [wp_iff]; rfl
@[simp] theorem wp_bind {r : Res α} {f : α → Store → Res β} {Q : β → Store → Prop} : wp (r.bind f) Q = wp r (fun a st => wp (f a st) Q) := by rw [wp_iff, wp_iff]; cases r <;> first | exact wp_iff.symm | rfl
@[simp] theorem wp_ite {c : Prop} [Decidable c] {a b : Res α} {Q : α → Store → Prop} : wp (if c then a else b) Q = if c then wp a Q else wp b Q := by split <;> rfl
@[simp] theorem wps_nx : wps (.nx ρ st) N C B R = N ρ st := by rw [wps_iff]; rfl
@[simp] theorem wps_ct : wps (.ct ρ st) N C B R = C ρ st := by rw [wps_iff]; rfl
@[simp] theorem wps_bk : wps (.bk ρ st) N C B R = B ρ st := by rw [wps_iff]; rfl
@[simp] theorem wps_rt {d : D} : wps (.rt d st) N C B R = R d st := by rw [wps_iff]; rfl
@[simp] theorem wps_stuck : wps .stuck N C B R = False := by rw [wps_iff]; rfl
@[simp] theorem wps_exc {x : Exn} : wps (.exc x st) N C B R = False := by rw [wps_iff]; rfl
@[simp] theorem wps_thn {r : Res α} {f : α → Store → SRes} : wps (r.thn f) N C B R = wp r (fun a st => wps (f a st) N C B R) := by rw [wp_iff, wps_iff]; cases r <;> first | exact wps_iff.symm | rfl
@[simp] theorem wps_seq {r : SRes} {f : SS} : wps (r.thn f) N C B R = wps r (Kn f N C B R) C B R := by rw [wps_iff, wps_iff]; cases r <;> first | exact wps_iff.symm | rfl
@[simp] theorem Kn_ev {f : SS} : Kn f N C B R ρ st = wps (f ρ st) N C B R := (rfl)
@[simp] theorem wps_ite {c : Prop} [Decidable c] {a b : SRes} : wps (if c then a else b) N C B R = if c then wps a N C B R else wps b N C B R := by split <;> rfl
@[simp] theorem wp_sw {st : Store} {r : Res α} {f : α → Store → Res D} {Q : D → Store → Prop} : wp (swept st (r.bind f)) Q = wp r (fun d s => wp (swept st (f d s)) Q) := by
  cases r with
  | ok a s => simp
  | exc x s => rw [bind_exc, wp_exc]; exact wp_exc
  | stuck => simp
theorem wp_mono {r : Res α} {Q Q' : α → Store → Prop} (h : wp r Q) (m : ∀ a st, Q a st → Q' a st) : wp r Q' := by
  cases r with
  | ok a st => rw [wp_ok] at h ⊢; exact m a st h
  | exc x st => rw [wp_exc] at h; exact h.elim
  | stuck => rw [wp_stuck] at h; exact h.elim
theorem wps_mono {r : SRes} {N' C' B' : Envr → Store → Prop} {R' : D → Store → Prop} (h : wps r N C B R) (m1 : ∀ a st, N a st → N' a st) (m2 : ∀ a st, C a st → C' a st) (m3 : ∀ a st, B a st → B' a st) (m4 : ∀ a st, R a st → R' a st) : wps r N' C' B' R' := by
  obtain ⟨h⟩ := h
  cases r with
  | nx a st => exact ⟨m1 a st h⟩
  | ct a st => exact ⟨m2 a st h⟩
  | bk a st => exact ⟨m3 a st h⟩
  | rt a st => exact ⟨m4 a st h⟩
  | exc x st => exact ⟨h⟩
  | stuck => exact ⟨h⟩
theorem wp_of_eq {r : Res α} {a : α} {Q : α → Store → Prop} (e : r = .ok a st) (h : Q a st) : wp r Q := by rw [e]; exact ⟨h⟩
theorem eq_of_wp {r : Res α} {a : α} (h : wp r (fun d st' => d = a ∧ st' = st)) : r = .ok a st := by
  obtain ⟨h⟩ := h
  cases r with
  | ok b st' => obtain ⟨rfl, rfl⟩ := h; rfl
  | exc x st => exact h.elim
  | stuck => exact h.elim
/-- a for loop, by what holds ahead of each turn for what is still to come -/
theorem wp_for {src : Src} {t : Tgt} {body : SS} {enc : α → D} (I : List α → Envr → Store → Prop) {xs : List α} (h0 : I xs ρ st) (hend : ∀ ρ st, I [] ρ st → src.ok st ∧ N ρ st)
    (step : ∀ x ys ρ st, x ∈ xs → I (x :: ys) ρ st → src.ok st ∧ ∃ ρ1, t.ev (enc x) ρ = some ρ1 ∧ wps (body ρ1 st) (I ys) (I ys) N R) : wps (forL src t body (xs.map enc) ρ st) N C B R := by
  induction xs generalizing ρ st with
  | nil =>
    have := hend ρ st h0
    simp [forL, this.1, this.2]
  | cons x xs ih =>
    obtain ⟨h1, ρ1, h2, h3⟩ := step x xs ρ st (by simp) h0
    simp only [List.map_cons, forL, if_pos h1, h2]
    have ih' := fun ρ st h => ih (ρ := ρ) (st := st) h fun y ys ρ st hy => step y ys ρ st (by simp [hy])
    cases e : body ρ1 st with
    | nx a st => rw [e] at h3; exact ih' _ _ h3.run
    | ct a st => rw [e] at h3; exact ih' _ _ h3.run
    | bk a st => rw [e] at h3; exact ⟨h3.run⟩
    | rt a st => rw [e] at h3; exact ⟨h3.run⟩
    | exc x st => rw [e] at h3; exact h3.run.elim
    | stuck => rw [e] at h3; exact h3.run.elim
theorem wp_lc {src : Src} {t : Tgt} {test : SB} {elt : SE} {enc : α → D} {Q : List D → Store → Prop} (I : List α → List D → Store → Prop) {xs : List α} {acc : List D} (h0 : I xs acc st) (hend : ∀ acc st, I [] acc st → src.ok st ∧ Q acc st)
    (step : ∀ x ys acc st, x ∈ xs → I (x :: ys) acc st → src.ok st ∧ ∃ ρ1, t.ev (enc x) ρ = some ρ1 ∧ wp (test ρ1 st) (fun b st => if b = true then wp (elt ρ1 st) (fun d st => acc.length < sizeLine ∧ I ys (acc ++ [d]) st) else I ys acc st)) :
    wp (lcL src t test elt ρ (xs.map enc) acc st) Q := by
  induction xs generalizing acc st with
  | nil =>
    have := hend acc st h0
    simp [lcL, this.1, this.2]
  | cons x xs ih =>
    obtain ⟨h1, ρ1, h2, h3⟩ := step x xs acc st (by simp) h0
    simp only [List.map_cons, lcL, if_pos h1, h2]
    have ih' := fun acc st h => ih (acc := acc) (st := st) h fun y ys acc st hy => step y ys acc st (by simp [hy])
    cases e : test ρ1 st with
    | exc x st => rw [e] at h3; exact h3.run.elim
    | stuck => rw [e] at h3; exact h3.run.elim
    | ok b st1 =>
      rw [e] at h3
      simp only [calm_ok', bind_ok']
      simp only [wp_ok] at h3
      by_cases hb : b = true
      · rw [if_pos hb] at h3 ⊢
        cases e2 : elt ρ1 st1 with
        | exc x st => rw [e2] at h3; exact h3.run.elim
        | stuck => rw [e2] at h3; exact h3.run.elim
        | ok d st2 =>
          rw [e2] at h3
          simp only [calm_ok', bind_ok']
          simp only [wp_ok] at h3
          rw [if_pos h3.1]
          exact ih' _ _ h3.2
      · rw [if_neg hb] at h3 ⊢
        exact ih' _ _ h3
theorem wp_fn {n : Nat} {body : SS} {ds : List D} {Q : D → Store → Prop} (h : wps (body (ds.map some ++ List.replicate (n - ds.length) none) st) (fun _ st' => wp (swept st (.ok .non st')) Q) (fun _ _ => False) (fun _ _ => False) (fun d st' => wp (swept st (.ok d st')) Q)) : wp (fnBody n body ds st) Q := by
  rw [fnBody_ev]
  cases e : body (ds.map some ++ List.replicate (n - ds.length) none) st with
  | nx a st => rw [e] at h; exact h.run
  | rt a st => rw [e] at h; exact h.run
  | ct a st => rw [e] at h; exact h.run.elim
  | bk a st => rw [e] at h; exact h.run.elim
  | exc x st => rw [e] at h; exact h.run.elim
  | stuck => rw [e] at h; exact h.run.elim
end
@[simp] theorem iRange1_ev {f : SL} {ρ : Envr} {st : Store} : iRange1 f ρ st = (f ρ st).bind fun ds st => match ds with
  | [.int j] => if -(2 ^ 62) ≤ j ∧ j < 2 ^ 62 then .ok (.its (rangeD 0 j.toNat)) st else .stuck
  | _ => .stuck := (rfl)
@[simp] theorem iRange2_ev {f : SL} {ρ : Envr} {st : Store} : iRange2 f ρ st = (f ρ st).bind fun ds st => match ds with
  | [.int i, .int j] => if -(2 ^ 62) ≤ i ∧ i < 2 ^ 62 ∧ -(2 ^ 62) ≤ j ∧ j < 2 ^ 62 then .ok (.its (rangeD i (j - i).toNat)) st else .stuck
  | _ => .stuck := (rfl)
@[simp] theorem sLc_ev {f : SI} {t : Tgt} {test : SB} {elt : SE} {vs : List Nat} {ρ : Envr} {st : Store} : sLc f t test elt vs ρ st = (f ρ st).bind fun src st => (lcL src t test elt (wipeE ρ vs) src.all [] st).bind fun ds st => .ok (.ref st.length) (st ++ [.lst ds]) := (rfl)
def ofN (k : Nat) : D := .int k
theorem rangeD_zero (n : Nat) : rangeD 0 n = (List.range n).map ofN := by unfold rangeD ofN; simp
/-! ### what may change: two lists, and what lies beyond -/
structure Mor (n m : Nat) (st st' : Store) : Prop where
  len : st.length ≤ st'.length
  at_ : ∀ i : Nat, i < st.length → i ≠ n → i ≠ m → st'[i]? = st[i]?
theorem Upd.mor {n m : Nat} {st st' : Store} (h : Upd n m st st') : Mor n m st st' := ⟨by rw [h.len]; exact Nat.le_refl _, fun i _ => h.at_ i⟩
theorem Mor.refl {n m : Nat} {st : Store} : Mor n m st st := ⟨Nat.le_refl _, fun _ _ _ _ => rfl⟩
theorem Mor.trans {n m : Nat} {a b c : Store} (h : Mor n m a b) (h' : Mor n m b c) : Mor n m a c := ⟨Nat.le_trans h.len h'.len, fun i h0 h1 h2 => (h'.at_ i (Nat.lt_of_lt_of_le h0 h.len) h1 h2).trans (h.at_ i h0 h1 h2)⟩
theorem Mor.push {n m : Nat} {st more : Store} : Mor n m st (st ++ more) := ⟨by simp, fun i h _ _ => List.getElem?_append_left h⟩
theorem Mor.set {n m : Nat} {st st' : Store} (h : Mor n m st st') {i : Nat} (hi : st.length ≤ i) {o : SO} : Mor n m st (st'.set i o) := ⟨by simpa using h.len, fun j h0 h1 h2 => by rw [List.getElem?_set_ne (by omega)]; exact h.at_ j h0 h1 h2⟩
theorem get_push {st more : Store} {i : Nat} {o : SO} (h : st[i]? = some o) : (st ++ more)[i]? = some o := by
  rw [List.getElem?_append_left (List.getElem?_eq_some_iff.mp h).1, h]
theorem lt_of_get {st : Store} {i : Nat} {o : SO} (h : st[i]? = some o) : i < st.length := (List.getElem?_eq_some_iff.mp h).1
theorem wp_swept {n m : Nat} {st st1 : Store} {d : D} {Q : D → Store → Prop} (M : Mor n m st st1) (hd : d.low st.length = true) (hn : ∀ o, st1[n]? = some o → o.low st.length = true) (hm : ∀ o, st1[m]? = some o → o.low st.length = true)
    (h : ∀ st', Upd n m st st' → (n < st.length → st'[n]? = st1[n]?) → (m < st.length → st'[m]? = st1[m]?) → Q d st') : wp (swept st (.ok d st1)) Q := by
  unfold swept
  simp only
  rw [if_pos]
  · refine ⟨h _ ⟨by simp [M.len], fun i h1 h2 => ?_⟩ (fun hl => by simp [List.getElem?_take, hl]) (fun hl => by simp [List.getElem?_take, hl])⟩
    rw [List.getElem?_take]
    split
    · exact M.at_ i (by assumption) h1 h2
    · rw [List.getElem?_eq_none (by omega)]
  · refine ⟨M.len, hd, fun i o hi e => ?_⟩
    by_cases h1 : i = n
    · subst h1; exact .inr (hn o e)
    · by_cases h2 : i = m
      · subst h2; exact .inr (hm o e)
      · rw [M.at_ i hi h1 h2] at e; exact .inl e
end L3
namespace L3
open PySem L2
theorem isLst_of {st : Store} {n : Nat} {xs : List D} (h : st[n]? = some (.lst xs)) : isLst st n = true := by unfold isLst; rw [h]
theorem mAppend_ev {st : Store} {n : Nat} {xs : List D} {y : D} (h : st[n]? = some (.lst xs)) (hl : xs.length < 10 ^ 6) : mAppend n [y] st = .ok .non (st.set n (.lst (xs ++ [y]))) := by
  unfold mAppend
  simp only [h]
  rw [if_pos (by have := sizeLine_eq; omega)]
theorem vAdd_lst {st : Store} {n m : Nat} {xs ys : List D} (h : st[n]? = some (.lst xs)) (h2 : st[m]? = some (.lst ys)) (hl : xs.length + ys.length < 10 ^ 6) : vAdd (.ref n) (.ref m) st = .ok (.ref st.length) (st ++ [.lst (xs ++ ys)]) := by
  unfold vAdd
  simp only [h, h2]
  rw [if_pos (by have := sizeLine_eq; omega)]
theorem vAdd_tup {st : Store} {xs ys : List D} (hl : xs.length + ys.length < 10 ^ 6) : vAdd (.tup xs) (.tup ys) st = .ok (.tup (xs ++ ys)) st := by
  unfold vAdd
  simp only
  rw [if_pos (by have := sizeLine_eq; omega)]
theorem bTuple_ref {st : Store} {n : Nat} {xs : List D} (h : st[n]? = some (.lst xs)) : bTuple [.ref n] st = .ok (.tup xs) st := by simp [bTuple, seqOf, h]
end L3
namespace L3
open PySem L2
/-- a for loop over a range -/
theorem wp_forR {N C B : Envr → Store → Prop} {R : D → Store → Prop} {st : Store} {ρ : Envr} {ds : List D} {t : Tgt} {body : SS} {n : Nat} (I : Nat → Envr → Store → Prop) (h0 : I 0 ρ st) (hend : ∀ ρ st, I n ρ st → N ρ st)
    (step : ∀ i ρ st, i < n → I i ρ st → ∃ ρ1, t.ev (.int i) ρ = some ρ1 ∧ wps (body ρ1 st) (I (i + 1)) (I (i + 1)) N R) : wps (forL (.its ds) t body ((List.range n).map ofN) ρ st) N C B R := by
  refine wp_for (fun ys ρ s => ∃ i, i ≤ n ∧ ys = List.range' i (n - i) ∧ I i ρ s) ⟨0, by omega, by rw [List.range_eq_range']; simp, h0⟩ ?_ ?_
  · rintro ρ s ⟨i, hi, e, h⟩
    have : n - i = 0 := by simpa using e.symm
    have : i = n := by omega
    subst this
    exact ⟨trivial, hend _ _ h⟩
  · rintro x ys ρ s _ ⟨i, hi, e, h⟩
    have hlt : i < n := by
      rcases Nat.lt_or_ge i n with h | h
      · exact h
      · rw [show n - i = 0 by omega] at e; simp at e
    rw [show n - i = (n - (i + 1)) + 1 by omega, List.range'_succ] at e
    obtain ⟨rfl, rfl⟩ := List.cons.inj e
    obtain ⟨ρ1, h1, h2⟩ := step x ρ s hlt h
    exact ⟨trivial, ρ1, h1, wps_mono h2 (fun _ _ q => ⟨x + 1, hlt, rfl, q⟩) (fun _ _ q => ⟨x + 1, hlt, rfl, q⟩) (fun _ _ q => q) (fun _ _ q => q)⟩
end L3
namespace L3
open PySem L2
theorem fn_eq {n : Nat} {body : SS} {ds : List D} {st st2 : Store} {a : D} (h : wps (body (ds.map some ++ List.replicate (n - ds.length) none) st) (fun _ st' => swept st (.ok .non st') = .ok a st2) (fun _ _ => False) (fun _ _ => False) (fun d st' => swept st (.ok d st') = .ok a st2)) : fnBody n body ds st = .ok a st2 := by
  rw [fnBody_ev]
  cases e : body (ds.map some ++ List.replicate (n - ds.length) none) st with
  | nx a st => rw [e] at h; exact h.run
  | rt a st => rw [e] at h; exact h.run
  | ct a st => rw [e] at h; exact h.run.elim
  | bk a st => rw [e] at h; exact h.run.elim
  | exc x st => rw [e] at h; exact h.run.elim
  | stuck => rw [e] at h; exact h.run.elim
end L3
namespace L3
open PySem L2
@[simp] theorem swept_new {st more : Store} : swept st (.ok (.ref st.length) (st ++ more)) = .ok (.ref st.length) (st ++ more) := by
  unfold swept
  simp
theorem ofN_at {n i : Nat} (h : i < n) : ((List.range n).map ofN)[i]? = some (.int i) := by simp [ofN, h]
end L3
namespace L3
open PySem L2
/-- the store has only grown -/
def Grow (st s : Store) : Prop := ∃ more, s = st ++ more
theorem Grow.refl {st : Store} : Grow st st := ⟨[], by simp⟩
theorem Grow.push {st s more : Store} (h : Grow st s) : Grow st (s ++ more) := by
  obtain ⟨m, rfl⟩ := h
  exact ⟨m ++ more, by simp⟩
theorem Grow.swept {st s : Store} {d : D} (h : Grow st s) (hd : d.low 0 = true) : L3.swept st (.ok d s) = .ok d st := by
  obtain ⟨m, rfl⟩ := h
  exact swept_push hd
end L3
namespace L3
open PySem L2
theorem atI_mem {α : Type} {xs : List α} {i : Int} (h : 0 ≤ i ∧ i < xs.length) : ∃ d ∈ xs, L2.atI xs i = some d := by
  obtain ⟨j, rfl⟩ := Int.eq_ofNat_of_zero_le h.1
  have hj : j < xs.length := by omega
  exact ⟨xs[j], by simp, by rw [atI_ofNat]; simp [hj]⟩
theorem atI_all {α : Type} {P : α → Prop} {xs : List α} {i : Int} (h : 0 ≤ i ∧ i < xs.length) (hp : ∀ d ∈ xs, P d) : ∃ d, L2.atI xs i = some d ∧ P d := by
  obtain ⟨d, hd, e⟩ := atI_mem h
  exact ⟨d, e, hp d hd⟩
end L3
namespace L3
open PySem L2
theorem wps_xswp {f : SS} {N C B : Envr → Store → Prop} {R : D → Store → Prop} {st : Store} {ρ : Envr} (h : wps (f ρ st) (fun ρ' s => N ρ' s ∧ N ρ' (s.take st.length)) C B R) : wps (xSwp f ρ st) N C B R := by
  unfold xSwp
  cases e : f ρ st with
  | nx a s =>
    rw [e, wps_nx] at h
    simp only
    split
    · rw [wps_nx]; exact h.2
    · rw [wps_nx]; exact h.1
  | ct a s => rw [e] at h; exact ⟨h.run⟩
  | bk a s => rw [e] at h; exact ⟨h.run⟩
  | rt a s => rw [e] at h; exact ⟨h.run⟩
  | exc x s => rw [e] at h; exact ⟨h.run⟩
  | stuck => rw [e] at h; exact ⟨h.run⟩
theorem wp_swept_any {st s : Store} {d : D} {P : D → Prop} (h : P d) : wp (swept st (.ok d s)) (fun d _ => P d) := by
  unfold swept
  simp only
  split <;> exact ⟨h⟩
theorem wp_swept_up {st s : Store} {d : D} {Q : D → Store → Prop} (hd : d.low st.length = false) (h : Q d s) : wp (swept st (.ok d s)) Q := by
  unfold swept
  simp only
  rw [if_neg (fun q => by rw [hd] at q; exact absurd q.2.1 (by decide)), wp_ok]
  exact h
theorem ok_of_wp {r : Res D} {d : D} (h : wp r (fun a _ => a = d)) : ∃ st, r = .ok d st := by
  cases r with
  | ok a s => rw [wp_ok] at h; exact ⟨s, by rw [h]⟩
  | exc x s => rw [wp_exc] at h; exact h.elim
  | stuck => rw [wp_stuck] at h; exact h.elim
end L3

namespace Ap
open PySem L2 L3
def topS (i : Nat) : Stmt := PySem.Challenge.pw_anyplay_k23_told_rounds_and_drifts.main.body.getD i (.Pass ⟨0, 0, 0, 0⟩)
abbrev s_bounds_of : Stmt := topS 1
abbrev N_bounds_of : List Str := ["code", "name", "bound"]
theorem sc_bounds_of : FnScope N_bounds_of ["code"] (defScope s_bounds_of) := ⟨rfl, rfl, rfl, by decide +kernel, rfl, by decide +kernel, by decide +kernel⟩
noncomputable def b_bounds_of : SS :=
    (xRet (sSwp (sCB bTuple (sCons (sLc (iSeq (s2 vIx (sVar 0) (sC (.int 0)))) (.tp [(.nm 1), (.nm 2)]) sYes (sVar 2) [1, 2]) sNil))))
noncomputable def F_bounds_of : FL := fnBody 3 b_bounds_of
abbrev s_has_to : Stmt := topS 3
abbrev N_has_to : List Str := ["steps", "axis", "step"]
theorem sc_has_to : FnScope N_has_to ["steps", "axis"] (defScope s_has_to) := ⟨rfl, rfl, rfl, by decide +kernel, rfl, by decide +kernel, by decide +kernel⟩
noncomputable def b_has_to : SS :=
    (xRet (sSwp (s2 vGt (sSwp (sCB bLen (sCons (sLc (iSeq (sVar 0)) (.nm 2) (sAnd (sBool (s2 vEq (s2 vIx (sVar 2) (sC (.int 0))) (sC (.str "to")))) (sBool (s2 vEq (s2 vIx (sVar 2) (sC (.int 1))) (sVar 1)))) (sVar 2) [2]) sNil))) (sC (.int 0)))))
noncomputable def F_has_to : FL := fnBody 3 b_has_to
abbrev s_drift_of : Stmt := topS 4
abbrev N_drift_of : List Str := ["code", "segment", "axis", "steps", "step"]
theorem sc_drift_of : FnScope N_drift_of ["code", "segment", "axis"] (defScope s_drift_of) := ⟨rfl, rfl, rfl, by decide +kernel, rfl, by decide +kernel, by decide +kernel⟩
noncomputable def b_drift_of : SS :=
    (xSeq (xAsg (.nm 3) (s2 vIx (s2 vIx (s2 vIx (sVar 0) (sC (.int 1))) (sVar 1)) (sC (.int 1))))
    (xSeq (xIf (sTruth (sCB F_has_to (sCons (sVar 3) (sCons (sVar 2) sNil)))) (xRet (sC (.int 0))) xNil)
    (xRet (sSwp (sCB bSum (sCons (sLc (iSeq (sVar 3)) (.nm 4) (sAnd (sBool (s2 vEq (s2 vIx (sVar 4) (sC (.int 0))) (sC (.str "by")))) (sBool (s2 vEq (s2 vIx (sVar 4) (sC (.int 1))) (sVar 2)))) (s2 vIx (sVar 4) (sC (.int 2))) [4]) sNil))))))
noncomputable def F_drift_of : FL := fnBody 5 b_drift_of
abbrev s_far_of : Stmt := topS 5
abbrev N_far_of : List Str := ["code", "segment", "axis", "place", "at", "step"]
theorem sc_far_of : FnScope N_far_of ["code", "segment", "axis"] (defScope s_far_of) := ⟨rfl, rfl, rfl, by decide +kernel, rfl, by decide +kernel, by decide +kernel⟩
noncomputable def b_far_of : SS :=
    (xSeq (xAsg (.nm 3) (sC (.int 0)))
    (xSeq (xFor (iRange1 (sCons (sCB bLen (sCons (s2 vIx (sVar 0) (sC (.int 1))) sNil)) sNil)) (.nm 4) (xFor (iSeq (s2 vIx (s2 vIx (s2 vIx (sVar 0) (sC (.int 1))) (sVar 4)) (sC (.int 1)))) (.nm 5) (xIf (sAnd (sBool (s2 vEq (s2 vIx (sVar 5) (sC (.int 0))) (sC (.str "to")))) (sBool (s2 vEq (s2 vIx (sVar 5) (sC (.int 1))) (sVar 2)))) (xSeq (xIf (sBool (s2 vGt (sVar 4) (sVar 1))) (xRet (sCB bAbs (sCons (s2 vSub (s2 vIx (sVar 5) (sC (.int 2))) (sVar 3)) sNil))) xNil)
    (xAsg (.nm 3) (s2 vIx (sVar 5) (sC (.int 2))))) (xIf (sAnd (sBool (s2 vEq (s2 vIx (sVar 5) (sC (.int 0))) (sC (.str "by")))) (sBool (s2 vEq (s2 vIx (sVar 5) (sC (.int 1))) (sVar 2)))) (xAug 3 vAddI (s2 vIx (sVar 5) (sC (.int 2)))) xNil))))
    (xRet (sC (.int 0)))))
noncomputable def F_far_of : FL := fnBody 6 b_far_of
abbrev s_told_of : Stmt := topS 6
abbrev N_told_of : List Str := ["code", "segment", "told", "bounds", "axis", "drift"]
theorem sc_told_of : FnScope N_told_of ["code", "segment"] (defScope s_told_of) := ⟨rfl, rfl, rfl, by decide +kernel, rfl, by decide +kernel, by decide +kernel⟩
noncomputable def b_told_of : SS :=
    (xSeq (xAsg (.nm 2) (sC (.int 3)))
    (xSeq (xAsg (.nm 3) (sCB F_bounds_of (sCons (sVar 0) sNil)))
    (xSeq (xFor (iRange1 (sCons (sCB bLen (sCons (sVar 3) sNil)) sNil)) (.nm 4) (xSeq (xAsg (.nm 5) (sCB bAbs (sCons (sCB F_drift_of (sCons (sVar 0) (sCons (sVar 1) (sCons (sVar 4) sNil)))) sNil)))
    (xIf (sBool (s2 vGt (sVar 5) (sC (.int 0)))) (xAsg (.nm 2) (sCB bMax (sCons (sVar 2) (sCons (s2 vAdd (sC (.int 2)) (s2 vFdiv (s2 vSub (s2 vAdd (s2 vAdd (s2 vIx (sVar 3) (sVar 4)) (sCB F_far_of (sCons (sVar 0) (sCons (sVar 1) (sCons (sVar 4) sNil))))) (sVar 5)) (sC (.int 1))) (sVar 5))) sNil)))) xNil)))
    (xRet (sVar 2)))))
noncomputable def F_told_of : FL := fnBody 6 b_told_of
abbrev s_any_segments : Stmt := topS 7
abbrev N_any_segments : List Str := ["code", "at"]
theorem sc_any_segments : FnScope N_any_segments ["code"] (defScope s_any_segments) := ⟨rfl, rfl, rfl, by decide +kernel, rfl, by decide +kernel, by decide +kernel⟩
noncomputable def b_any_segments : SS :=
    (xRet (sLc (iRange1 (sCons (sCB bLen (sCons (s2 vIx (sVar 0) (sC (.int 1))) sNil)) sNil)) (.nm 1) (sBool (s2 vEq (s2 vIx (s2 vIx (s2 vIx (sVar 0) (sC (.int 1))) (sVar 1)) (sC (.int 0))) (sC (.str "any")))) (sVar 1) [1]))
noncomputable def F_any_segments : FL := fnBody 2 b_any_segments
abbrev s_told_rounds : Stmt := topS 8
abbrev N_told_rounds : List Str := ["code", "segment"]
theorem sc_told_rounds : FnScope N_told_rounds ["code"] (defScope s_told_rounds) := ⟨rfl, rfl, rfl, by decide +kernel, rfl, by decide +kernel, by decide +kernel⟩
noncomputable def b_told_rounds : SS :=
    (xRet (sSwp (sCB bTuple (sCons (sLc (iSeq (sCB F_any_segments (sCons (sVar 0) sNil))) (.nm 1) sYes (sCB F_told_of (sCons (sVar 0) (sCons (sVar 1) sNil))) [1]) sNil))))
noncomputable def F_told_rounds : FL := fnBody 2 b_told_rounds
abbrev s_law_auger : Stmt := topS 10
abbrev N_law_auger : List Str := ["script", "auger", "cell", "chip"]
theorem sc_law_auger : FnScope N_law_auger ["script"] (defScope s_law_auger) := ⟨rfl, rfl, rfl, by decide +kernel, rfl, by decide +kernel, by decide +kernel⟩
noncomputable def b_law_auger : SS :=
    (xSeq (xAsg (.nm 1) (sLst (sCons (sLst sNil) (sCons (sC (.int 23017)) (sCons (sC (.int 0)) (sCons (sC (.int 0)) sNil))))))
    (xSeq (xSwp (xFor (iSeq (sSlice vSlice (sVar 0) sNoPart (sPart (sC (.int 42))))) (.nm 2) (xSeq (xAsg (.nm 3) (s2 vMod (sCB bAbs (sCons (sCB bInt (sCons (sVar 2) sNil)) sNil)) (s2 vShl (sC (.int 1)) (sC (.int 1100)))))
    (xSeq (xSetL (s2 vMod (sCB bInt (sCons (s2 vAdd (s2 vAdd (s2 vAdd (s2 vMul (s2 vIx (sVar 1) (sC (.int 1))) (sC (.int 9533))) (s2 vMod (sVar 3) (sC (.int 1001017)))) (s2 vMul (sC (.int 359)) (sCB bInt (sCons (s2 vLt (sVar 2) (sC (.int 0))) sNil)))) (sC (.int 115))) sNil)) (sC (.int 2147481659))) (sVar 1) (sC (.int 1)))
    (xIf (sBool (s2 vGe (sVar 3) (s2 vPow (sC (.int 10)) (sC (.int 18))))) (xExpr (sML mAppend (s2 vIx (sVar 1) (sC (.int 0))) (sCons (sVar 3) sNil))) xNil)))))
    (xSeq (xSetL (s2 vMod (sCB bInt (sCons (s2 vFdiv (s2 vIx (sVar 1) (sC (.int 1))) (sC (.int 277))) sNil)) (sC (.int 9199))) (sVar 1) (sC (.int 3)))
    (xRet (sVar 1)))))
noncomputable def F_law_auger : FL := fnBody 4 b_law_auger
abbrev s_law_bore : Stmt := topS 11
abbrev N_law_bore : List Str := ["auger", "spot", "many", "chip", "habit"]
theorem sc_law_bore : FnScope N_law_bore ["auger", "spot", "many"] (defScope s_law_bore) := ⟨rfl, rfl, rfl, by decide +kernel, rfl, by decide +kernel, by decide +kernel⟩
noncomputable def b_law_bore : SS :=
    (xSeq (xIf (sBool (s2 vLt (sVar 2) (sC (.int 2)))) (xRet (sC (.int 0))) xNil)
    (xSeq (xIf (sBool (s2 vGt (sCB bLen (sCons (s2 vIx (sVar 0) (sC (.int 0))) sNil)) (sC (.int 0)))) (xSeq (xAsg (.nm 3) (sML mPop (s2 vIx (sVar 0) (sC (.int 0))) sNil))
    (xSeq (xIf (sBool (s2 vGe (sVar 3) (sVar 2))) (xExpr (sML mAppend (s2 vIx (sVar 0) (sC (.int 0))) (sCons (s2 vFdiv (sVar 3) (sVar 2)) sNil))) xNil)
    (xRet (s2 vMod (sVar 3) (sVar 2))))) xNil)
    (xSeq (xSetL (s2 vAdd (s2 vIx (sVar 0) (sC (.int 2))) (sC (.int 1))) (sVar 0) (sC (.int 2)))
    (xSeq (xSetL (s2 vMod (sCB bInt (sCons (s2 vAdd (s2 vAdd (s2 vMul (s2 vIx (sVar 0) (sC (.int 1))) (sC (.int 3299))) (s2 vMul (s2 vIx (sVar 0) (sC (.int 2))) (sC (.int 479)))) (s2 vMul (sVar 1) (sC (.int 379)))) sNil)) (sC (.int 2147481659))) (sVar 0) (sC (.int 1)))
    (xSeq (xAsg (.nm 4) (s2 vMod (sCB bInt (sCons (s2 vAdd (s2 vIx (sVar 0) (sC (.int 3))) (s2 vMul (sVar 1) (sC (.int 433)))) sNil)) (sC (.int 47))))
    (xSeq (xIf (sBool (s2 vGt (sVar 4) (sC (.int 41)))) (xRet (s2 vIx (sTup (sCons (sC (.int 0)) (sCons (s2 vSub (sVar 2) (sC (.int 1))) (sCons (s2 vMod (sCB bInt (sCons (s2 vIx (sVar 0) (sC (.int 3))) sNil)) (sVar 2)) (sCons (s2 vSub (sVar 2) (sC (.int 1))) (sCons (sC (.int 0)) sNil)))))) (s2 vSub (sVar 4) (sC (.int 42))))) xNil)
    (xRet (s2 vMod (sCB bInt (sCons (s2 vFdiv (s2 vIx (sVar 0) (sC (.int 1))) (sC (.int 367))) sNil)) (sVar 2)))))))))
noncomputable def F_law_bore : FL := fnBody 5 b_law_bore
abbrev s_law_way : Stmt := topS 12
abbrev N_law_way : List Str := ["auger", "scale", "way"]
theorem sc_law_way : FnScope N_law_way ["auger", "scale"] (defScope s_law_way) := ⟨rfl, rfl, rfl, by decide +kernel, rfl, by decide +kernel, by decide +kernel⟩
noncomputable def b_law_way : SS :=
    (xSeq (xAsg (.nm 2) (s2 vAdd (sC (.int 1)) (sCB F_law_bore (sCons (sVar 0) (sCons (sC (.int 1)) (sCons (sC (.int 9)) sNil))))))
    (xSeq (xAsg (.nm 2) (sIte (sBool (s2 vGt (sVar 1) (sC (.int 1)))) (s2 vAdd (s2 vMul (sVar 2) (sVar 1)) (s2 vIx (sTup (sCons (sC (.int 0)) (sCons (sC (.int 0)) (sCons (sC (.int 1)) (sCons (sVar 1) sNil))))) (sCB F_law_bore (sCons (sVar 0) (sCons (sC (.int 2)) (sCons (sC (.int 4)) sNil)))))) (sVar 2)))
    (xRet (sIte (sBool (s2 vEq (sCB F_law_bore (sCons (sVar 0) (sCons (sC (.int 3)) (sCons (sC (.int 2)) sNil)))) (sC (.int 0)))) (sVar 2) (s2 vSub (sC (.int 0)) (sVar 2))))))
noncomputable def F_law_way : FL := fnBody 3 b_law_way
abbrev s_law_steps : Stmt := topS 13
abbrev N_law_steps : List Str := ["auger", "axes", "scale", "tos", "told", "lap", "axis", "kind", "way"]
theorem sc_law_steps : FnScope N_law_steps ["auger", "axes", "scale", "tos"] (defScope s_law_steps) := ⟨rfl, rfl, rfl, by decide +kernel, rfl, by decide +kernel, by decide +kernel⟩
noncomputable def b_law_steps : SS :=
    (xSeq (xAsg (.nm 4) (sLst sNil))
    (xSeq (xFor (iRange1 (sCons (s2 vAdd (sC (.int 1)) (sCB F_law_bore (sCons (sVar 0) (sCons (sC (.int 4)) (sCons (sC (.int 4)) sNil))))) sNil)) (.nm 5) (xSeq (xPar 6 7 (sCons (sCB F_law_bore (sCons (sVar 0) (sCons (sC (.int 5)) (sCons (sVar 1) sNil)))) (sCons (sCB F_law_bore (sCons (sVar 0) (sCons (sC (.int 6)) (sCons (sC (.int 6)) sNil)))) sNil)))
    (xIf (sBool (s2 vEq (sVar 7) (sC (.int 0)))) (xExpr (sML mAppend (sVar 4) (sCons (sTup (sCons (sC (.str "cut")) (sCons (s2 vIx (sTup (sCons (sC (.str "a")) (sCons (sC (.str "b")) (sCons (sC (.str "hole")) sNil)))) (sCB F_law_bore (sCons (sVar 0) (sCons (sC (.int 7)) (sCons (sC (.int 3)) sNil))))) sNil))) sNil))) (xIf (sAnd (sBool (s2 vEq (sVar 7) (sC (.int 1)))) (sTruth (sVar 3))) (xExpr (sML mAppend (sVar 4) (sCons (sTup (sCons (sC (.str "to")) (sCons (sVar 6) (sCons (s2 vAdd (s2 vMul (s2 vIx (sTup (sCons (sC (.int 0)) (sCons (sC (.int 1)) (sCons (sC (.int 7)) (sCons (s2 vSub (sC (.int 0)) (sC (.int 3))) sNil))))) (sCB F_law_bore (sCons (sVar 0) (sCons (sC (.int 8)) (sCons (sC (.int 4)) sNil))))) (sVar 2)) (sCB F_law_bore (sCons (sVar 0) (sCons (sC (.int 9)) (sCons (sC (.int 4)) sNil))))) sNil)))) sNil))) (xExpr (sML mAppend (sVar 4) (sCons (sTup (sCons (sC (.str "by")) (sCons (sVar 6) (sCons (sCB F_law_way (sCons (sVar 0) (sCons (sVar 2) sNil))) sNil)))) sNil)))))))
    (xSeq (xIf (sBool (s2 vEq (sCB F_law_bore (sCons (sVar 0) (sCons (sC (.int 10)) (sCons (sC (.int 5)) sNil)))) (sC (.int 0)))) (xSeq (xAsg (.nm 8) (sCB F_law_way (sCons (sVar 0) (sCons (sVar 2) sNil))))
    (xAsg (.nm 4) (s2 vAdd (s2 vAdd (sLst (sCons (sTup (sCons (sC (.str "by")) (sCons (sC (.int 0)) (sCons (sVar 8) sNil)))) sNil)) (sVar 4)) (sLst (sCons (sTup (sCons (sC (.str "by")) (sCons (sC (.int 0)) (sCons (s2 vSub (sC (.int 0)) (sVar 8)) sNil)))) sNil))))) xNil)
    (xRet (sCB bTuple (sCons (sVar 4) sNil))))))
noncomputable def F_law_steps : FL := fnBody 9 b_law_steps
abbrev s_law_drift : Stmt := topS 14
abbrev N_law_drift : List Str := ["steps", "axis", "step"]
theorem sc_law_drift : FnScope N_law_drift ["steps", "axis"] (defScope s_law_drift) := ⟨rfl, rfl, rfl, by decide +kernel, rfl, by decide +kernel, by decide +kernel⟩
noncomputable def b_law_drift : SS :=
    (xSeq (xIf (sSwpB (sBool (s2 vGt (sSwp (sCB bLen (sCons (sLc (iSeq (sVar 0)) (.nm 2) (sAnd (sBool (s2 vEq (s2 vIx (sVar 2) (sC (.int 0))) (sC (.str "to")))) (sBool (s2 vEq (s2 vIx (sVar 2) (sC (.int 1))) (sVar 1)))) (sC (.int 1)) [2]) sNil))) (sC (.int 0))))) (xRet (sC (.int 0))) xNil)
    (xRet (sSwp (sCB bSum (sCons (sLc (iSeq (sVar 0)) (.nm 2) (sAnd (sBool (s2 vEq (s2 vIx (sVar 2) (sC (.int 0))) (sC (.str "by")))) (sBool (s2 vEq (s2 vIx (sVar 2) (sC (.int 1))) (sVar 1)))) (s2 vIx (sVar 2) (sC (.int 2))) [2]) sNil)))))
noncomputable def F_law_drift : FL := fnBody 3 b_law_drift
abbrev s_law_barred : Stmt := topS 15
abbrev N_law_barred : List Str := ["segments", "axes", "axis", "seen", "kind", "steps", "step"]
theorem sc_law_barred : FnScope N_law_barred ["segments", "axes"] (defScope s_law_barred) := ⟨rfl, rfl, rfl, by decide +kernel, rfl, by decide +kernel, by decide +kernel⟩
noncomputable def b_law_barred : SS :=
    (xSeq (xFor (iRange1 (sCons (sVar 1) sNil)) (.nm 2) (xSeq (xAsg (.nm 3) (sLst sNil))
    (xFor (iSeq (sVar 0)) (.tp [(.nm 4), (.nm 5)]) (xSeq (xIf (sAnd (sSwpB (sBool (s2 vGt (sSwp (sCB bLen (sCons (sLc (iSeq (sVar 5)) (.nm 6) (sAnd (sBool (s2 vEq (s2 vIx (sVar 6) (sC (.int 0))) (sC (.str "to")))) (sBool (s2 vEq (s2 vIx (sVar 6) (sC (.int 1))) (sVar 2)))) (sC (.int 1)) [6]) sNil))) (sC (.int 0))))) (sAnd (sBool (s2 vGt (sCB bLen (sCons (sVar 3) sNil)) (sC (.int 1)))) (sBool (sChain vLt vLt (sCB bMin (sCons (sVar 3) sNil)) (sC (.int 0)) (sCB bMax (sCons (sVar 3) sNil)))))) (xRet (sC (.bl true))) xNil)
    (xAsg (.nm 3) (s2 vAdd (sVar 3) (sIte (sBool (s2 vEq (sVar 4) (sC (.str "any")))) (sLst (sCons (sCB F_law_drift (sCons (sVar 5) (sCons (sVar 2) sNil))) sNil)) (sLst sNil))))))))
    (xRet (sC (.bl false))))
noncomputable def F_law_barred : FL := fnBody 7 b_law_barred
abbrev s_law_far : Stmt := topS 16
abbrev N_law_far : List Str := ["segments", "number", "axis", "place", "behind", "at", "step"]
theorem sc_law_far : FnScope N_law_far ["segments", "number", "axis"] (defScope s_law_far) := ⟨rfl, rfl, rfl, by decide +kernel, rfl, by decide +kernel, by decide +kernel⟩
noncomputable def b_law_far : SS :=
    (xSeq (xAsg (.tp [(.nm 3), (.nm 4)]) (sTup (sCons (sC (.int 0)) (sCons (sC (.bl false)) sNil))))
    (xSeq (xFor (iRange1 (sCons (sCB bLen (sCons (sVar 0) sNil)) sNil)) (.nm 5) (xFor (iSeq (s2 vIx (s2 vIx (sVar 0) (sVar 5)) (sC (.int 1)))) (.nm 6) (xIf (sAnd (sBool (s2 vEq (s2 vIx (sVar 6) (sC (.int 0))) (sC (.str "by")))) (sBool (s2 vEq (s2 vIx (sVar 6) (sC (.int 1))) (sVar 2)))) (xAsg (.nm 3) (s2 vAdd (sVar 3) (s2 vIx (sVar 6) (sC (.int 2))))) (xIf (sAnd (sBool (s2 vEq (s2 vIx (sVar 6) (sC (.int 0))) (sC (.str "to")))) (sBool (s2 vEq (s2 vIx (sVar 6) (sC (.int 1))) (sVar 2)))) (xSeq (xIf (sBool (s2 vGt (sVar 5) (sVar 1))) (xRet (sCB bAbs (sCons (s2 vSub (sVar 3) (s2 vIx (sVar 6) (sC (.int 2)))) sNil))) xNil)
    (xAsg (.nm 3) (s2 vIx (sVar 6) (sC (.int 2))))) xNil))))
    (xRet (sC (.int 0)))))
noncomputable def F_law_far : FL := fnBody 7 b_law_far
abbrev s_law_rounds : Stmt := topS 17
abbrev N_law_rounds : List Str := ["code", "axes", "segments", "told", "number", "most", "axis", "drift", "reach"]
theorem sc_law_rounds : FnScope N_law_rounds ["code"] (defScope s_law_rounds) := ⟨rfl, rfl, rfl, by decide +kernel, rfl, by decide +kernel, by decide +kernel⟩
noncomputable def b_law_rounds : SS :=
    (xSeq (xAsg (.tp [(.nm 1), (.nm 2)]) (sVar 0))
    (xSeq (xAsg (.nm 3) (sLst sNil))
    (xSeq (xFor (iRange1 (sCons (sCB bLen (sCons (sVar 2) sNil)) sNil)) (.nm 4) (xSeq (xIf (sBool (s2 vNe (s2 vIx (s2 vIx (sVar 2) (sVar 4)) (sC (.int 0))) (sC (.str "any")))) xCont xNil)
    (xSeq (xAsg (.nm 5) (sC (.int 3)))
    (xSeq (xFor (iRange1 (sCons (sCB bLen (sCons (sVar 1) sNil)) sNil)) (.nm 6) (xSeq (xAsg (.nm 7) (sCB bAbs (sCons (sCB F_law_drift (sCons (s2 vIx (s2 vIx (sVar 2) (sVar 4)) (sC (.int 1))) (sCons (sVar 6) sNil))) sNil)))
    (xIf (sBool (s2 vGt (sVar 7) (sC (.int 0)))) (xSeq (xAsg (.nm 8) (s2 vAdd (s2 vIx (s2 vIx (sVar 1) (sVar 6)) (sC (.int 1))) (sCB F_law_far (sCons (sVar 2) (sCons (sVar 4) (sCons (sVar 6) sNil))))))
    (xAsg (.nm 5) (sCB bMax (sCons (sVar 5) (sCons (s2 vAdd (sC (.int 2)) (s2 vFdiv (s2 vSub (s2 vAdd (sVar 8) (sVar 7)) (sC (.int 1))) (sVar 7))) sNil))))) xNil)))
    (xExpr (sML mAppend (sVar 3) (sCons (sVar 5) sNil)))))))
    (xRet (sCB bTuple (sCons (sVar 3) sNil))))))
noncomputable def F_law_rounds : FL := fnBody 9 b_law_rounds
abbrev s_law_code : Stmt := topS 18
abbrev N_law_code : List Str := ["auger", "axes", "scale", "kinds", "segments", "bounds", "axis", "drifts", "drift", "bound", "kind", "steps", "step"]
theorem sc_law_code : FnScope N_law_code ["auger"] (defScope s_law_code) := ⟨rfl, rfl, rfl, by decide +kernel, rfl, by decide +kernel, by decide +kernel⟩
noncomputable def b_law_code : SS :=
    (xSeq (xAsg (.nm 1) (s2 vAdd (sC (.int 1)) (sCB F_law_bore (sCons (sVar 0) (sCons (sC (.int 11)) (sCons (sC (.int 3)) sNil))))))
    (xSeq (xAsg (.nm 2) (s2 vIx (sTup (sCons (sC (.int 1)) (sCons (sC (.int 1)) (sCons (sC (.int 3)) (sCons (sC (.int 1000)) (sCons (s2 vPow (sC (.int 10)) (sC (.int 8))) sNil)))))) (sCB F_law_bore (sCons (sVar 0) (sCons (sC (.int 12)) (sCons (sC (.int 5)) sNil))))))
    (xSeq (xAsg (.nm 3) (sTup (sCons (sTup (sCons (sC (.str "any")) sNil)) (sCons (sTup (sCons (sC (.str "once")) (sCons (sC (.str "any")) sNil))) (sCons (sTup (sCons (sC (.str "any")) (sCons (sC (.str "any")) sNil))) (sCons (sTup (sCons (sC (.str "once")) (sCons (sC (.str "any")) (sCons (sC (.str "once")) sNil)))) (sCons (sTup (sCons (sC (.str "any")) (sCons (sC (.str "once")) (sCons (sC (.str "any")) sNil)))) (sCons (sTup (sCons (sC (.str "once")) sNil)) (sCons (sTup (sCons (sC (.str "any")) (sCons (sC (.str "any")) (sCons (sC (.str "once")) sNil)))) sNil)))))))))
    (xSeq (xAsg (.nm 3) (s2 vIx (s2 vAdd (sVar 3) (sTup (sCons (sTup (sCons (sC (.str "once")) (sCons (sC (.str "any")) (sCons (sC (.str "once")) (sCons (sC (.str "any")) (sCons (sC (.str "once")) sNil)))))) sNil))) (sCB F_law_bore (sCons (sVar 0) (sCons (sC (.int 13)) (sCons (sC (.int 8)) sNil))))))
    (xSeq (xAsg (.nm 4) (sSwp (sCB bTuple (sCons (sLc (iSeq (sVar 3)) (.nm 10) sYes (sTup (sCons (sVar 10) (sCons (sCB F_law_steps (sCons (sVar 0) (sCons (sVar 1) (sCons (sVar 2) (sCons (sC (.bl true)) sNil))))) sNil))) [10]) sNil))))
    (xSeq (xIf (sTruth (sCB F_law_barred (sCons (sVar 4) (sCons (sVar 1) sNil)))) (xAsg (.nm 4) (sSwp (sCB bTuple (sCons (sLc (iSeq (sVar 4)) (.tp [(.nm 10), (.nm 11)]) sYes (sTup (sCons (sVar 10) (sCons (sSwp (sCB bTuple (sCons (sLc (iSeq (sVar 11)) (.nm 12) sYes (sIte (sBool (s2 vEq (s2 vIx (sVar 12) (sC (.int 0))) (sC (.str "to")))) (s2 vAdd (s2 vAdd (sTup (sCons (sC (.str "by")) sNil)) (sSlice vSlice (sVar 12) (sPart (sC (.int 1))) (sPart (sC (.int 2))))) (sTup (sCons (sVar 2) sNil))) (sVar 12)) [12]) sNil))) sNil))) [10, 11]) sNil)))) xNil)
    (xSeq (xAsg (.nm 5) (sLst sNil))
    (xSeq (xFor (iRange1 (sCons (sVar 1) sNil)) (.nm 6) (xSeq (xAsg (.nm 7) (sLc (iSeq (sVar 4)) (.tp [(.nm 10), (.nm 11)]) (sBool (s2 vEq (sVar 10) (sC (.str "any")))) (sCB bAbs (sCons (sCB F_law_drift (sCons (sVar 11) (sCons (sVar 6) sNil))) sNil)) [10, 11]))
    (xSeq (xAsg (.nm 8) (sSwp (sCB bMax (sCons (s2 vAdd (sVar 7) (sLst (sCons (sC (.int 1)) sNil))) sNil))))
    (xSeq (xAsg (.nm 9) (s2 vIx (sTup (sCons (sC (.int 0)) (sCons (s2 vSub (s2 vAdd (s2 vMul (sVar 8) (sCB F_law_bore (sCons (sVar 0) (sCons (sC (.int 14)) (sCons (sC (.int 12)) sNil))))) (sCB F_law_bore (sCons (sVar 0) (sCons (sC (.int 15)) (sCons (sC (.int 3)) sNil))))) (sC (.int 1))) (sCons (s2 vMul (sCB F_law_bore (sCons (sVar 0) (sCons (sC (.int 16)) (sCons (sC (.int 9)) sNil)))) (sVar 2)) (sCons (sCB F_law_bore (sCons (sVar 0) (sCons (sC (.int 17)) (sCons (sC (.int 12)) sNil)))) sNil))))) (sCB F_law_bore (sCons (sVar 0) (sCons (sC (.int 18)) (sCons (sC (.int 4)) sNil))))))
    (xExpr (sML mAppend (sVar 5) (sCons (sTup (sCons (s2 vIx (sTup (sCons (sC (.str "x")) (sCons (sC (.str "yy")) (sCons (sC (.str "zaxisq")) sNil)))) (sVar 6)) (sCons (sCB bMin (sCons (sCB bMax (sCons (sVar 9) (sCons (sC (.int 0)) sNil))) (sCons (s2 vPow (sC (.int 10)) (sC (.int 9))) sNil))) sNil))) sNil)))))))
    (xRet (sTup (sCons (sCB bTuple (sCons (sVar 5) sNil)) (sCons (sVar 4) sNil))))))))))))
noncomputable def F_law_code : FL := fnBody 13 b_law_code
abbrev s_law_same : Stmt := topS 20
abbrev N_law_same : List Str := ["told", "due", "at"]
theorem sc_law_same : FnScope N_law_same ["told", "due"] (defScope s_law_same) := ⟨rfl, rfl, rfl, by decide +kernel, rfl, by decide +kernel, by decide +kernel⟩
noncomputable def b_law_same (G : FL) : SS :=
    (xSeq (xIf (sTruth (sIsi "tuple" (sVar 1))) (xRet (sAndV (sIsi "tuple" (sVar 0)) (sAndV (s2 vEq (sCB bLen (sCons (sVar 0) sNil)) (sCB bLen (sCons (sVar 1) sNil))) (sSwp (s2 vEq (sSwp (sCB bLen (sCons (sLc (iRange1 (sCons (sCB bLen (sCons (sVar 1) sNil)) sNil)) (.nm 2) (sNot (sTruth (sCB G (sCons (s2 vIx (sVar 0) (sVar 2)) (sCons (s2 vIx (sVar 1) (sVar 2)) sNil))))) (sVar 2) [2]) sNil))) (sC (.int 0))))))) xNil)
    (xRet (sAndV (sIsi "int" (sVar 0)) (sAndV (sNotV (sTruth (sIsi "bool" (sVar 0)))) (s2 vEq (sVar 0) (sVar 1))))))
noncomputable def F_law_same : Nat → FL
  | 0 => fun _ _ => .stuck
  | n + 1 => fnBody 3 (b_law_same (F_law_same n))
abbrev s_law_asked : Stmt := topS 19
abbrev N_law_asked : List Str := ["code", "number", "axis"]
theorem sc_law_asked : FnScope N_law_asked ["code"] (defScope s_law_asked) := ⟨rfl, rfl, rfl, by decide +kernel, rfl, by decide +kernel, by decide +kernel⟩
noncomputable def b_law_asked : SS :=
    (xSeq (xIf (sNot (sTruth (sCB (F_law_same 20) (sCons (sCB F_told_rounds (sCons (sVar 0) sNil)) (sCons (sCB F_law_rounds (sCons (sVar 0) sNil)) sNil))))) (xRet (sC (.bl false))) xNil)
    (xSeq (xFor (iRange1 (sCons (sCB bLen (sCons (s2 vIx (sVar 0) (sC (.int 1))) sNil)) sNil)) (.nm 1) (xIf (sBool (s2 vEq (s2 vIx (s2 vIx (s2 vIx (sVar 0) (sC (.int 1))) (sVar 1)) (sC (.int 0))) (sC (.str "any")))) (xFor (iRange1 (sCons (sCB bLen (sCons (s2 vIx (sVar 0) (sC (.int 0))) sNil)) sNil)) (.nm 2) (xIf (sNot (sTruth (sCB (F_law_same 20) (sCons (sCBk F_drift_of [1, 2, 0] sNil (sCons (sVar 2) (sCons (sVar 0) (sCons (sVar 1) sNil)))) (sCons (sCB F_law_drift (sCons (s2 vIx (s2 vIx (s2 vIx (sVar 0) (sC (.int 1))) (sVar 1)) (sC (.int 1))) (sCons (sVar 2) sNil))) sNil))))) (xRet (sC (.bl false))) xNil)) xNil))
    (xRet (sC (.bl true)))))
noncomputable def F_law_asked : FL := fnBody 3 b_law_asked
abbrev s_law_slow : Stmt := topS 21
abbrev N_law_slow : List Str := ["auger", "drift", "bound", "way", "far", "last"]
theorem sc_law_slow : FnScope N_law_slow ["auger"] (defScope s_law_slow) := ⟨rfl, rfl, rfl, by decide +kernel, rfl, by decide +kernel, by decide +kernel⟩
noncomputable def b_law_slow : SS :=
    (xSeq (xPar 1 2 (sCons (s2 vAdd (sC (.int 1)) (sCB F_law_bore (sCons (sVar 0) (sCons (sC (.int 19)) (sCons (sC (.int 3)) sNil))))) (sCons (sCB F_law_bore (sCons (sVar 0) (sCons (sC (.int 20)) (sCons (sC (.int 900)) sNil)))) sNil)))
    (xSeq (xAsg (.nm 3) (sIte (sBool (s2 vEq (sCB F_law_bore (sCons (sVar 0) (sCons (sC (.int 21)) (sCons (sC (.int 2)) sNil)))) (sC (.int 0)))) (sVar 1) (s2 vSub (sC (.int 0)) (sVar 1))))
    (xSeq (xAsg (.nm 4) (sCB F_law_bore (sCons (sVar 0) (sCons (sC (.int 22)) (sCons (sC (.int 20)) sNil)))))
    (xSeq (xAsg (.nm 5) (sTup (sCons (sC (.str "once")) (sCons (sTup (sCons (sTup (sCons (sC (.str "by")) (sCons (sC (.int 0)) (sCons (sC (.int 3)) sNil)))) (sCons (sTup (sCons (sC (.str "to")) (sCons (sC (.int 0)) (sCons (s2 vAdd (s2 vAdd (sVar 3) (sC (.int 3))) (sVar 4)) sNil)))) (sCons (sTup (sCons (sC (.str "cut")) (sCons (sC (.str "a")) sNil))) (sCons (sTup (sCons (sC (.str "to")) (sCons (sC (.int 0)) (sCons (sC (.int 50)) sNil)))) sNil))))) sNil))))
    (xRet (sTup (sCons (sTup (sCons (sTup (sCons (sC (.str "x")) (sCons (sVar 2) sNil))) sNil)) (sCons (sTup (sCons (sTup (sCons (sC (.str "once")) (sCons (sTup (sCons (sTup (sCons (sC (.str "cut")) (sCons (sC (.str "a")) sNil))) sNil)) sNil))) (sCons (sTup (sCons (sC (.str "any")) (sCons (sTup (sCons (sTup (sCons (sC (.str "by")) (sCons (sC (.int 0)) (sCons (s2 vAdd (sVar 3) (sC (.int 4))) sNil)))) (sCons (sTup (sCons (sC (.str "cut")) (sCons (sC (.str "b")) sNil))) (sCons (sTup (sCons (sC (.str "by")) (sCons (sC (.int 0)) (sCons (s2 vSub (sC (.int 0)) (sC (.int 4))) sNil)))) sNil)))) sNil))) (sCons (sVar 5) sNil)))) sNil))))))))
noncomputable def F_law_slow : FL := fnBody 6 b_law_slow
abbrev s_law : Stmt := topS 22
abbrev N_law : List Str := ["script", "auger", "lap"]
theorem sc_law : FnScope N_law ["script"] (defScope s_law) := ⟨rfl, rfl, rfl, by decide +kernel, rfl, by decide +kernel, by decide +kernel⟩
noncomputable def b_law : SS :=
    (xSeq (xAsg (.nm 1) (sCB F_law_auger (sCons (sVar 0) sNil)))
    (xSeq (xFor (iRange1 (sCons (sC (.int 4)) sNil)) (.nm 2) (xIf (sNot (sTruth (sCB F_law_asked (sCons (sCB F_law_code (sCons (sVar 1) sNil)) sNil)))) (xRet (sC (.bl false))) xNil))
    (xRet (sCB F_law_asked (sCons (sCB F_law_slow (sCons (sVar 1) sNil)) sNil)))))
noncomputable def F_law : FL := fnBody 3 b_law
structure Txt (K : PySem.W.Frag) (mg : Str → Option Value) : Prop where
  n_abs : mg "abs" = none
  n_bool : mg "bool" = none
  n_int : mg "int" = none
  n_isinstance : mg "isinstance" = none
  n_len : mg "len" = none
  n_max : mg "max" = none
  n_min : mg "min" = none
  n_range : mg "range" = none
  n_sum : mg "sum" = none
  n_tuple : mg "tuple" = none
section
variable {P : Program} {w : World} {K : PySem.W.Frag} {mg : Str → Option Value} {base : Heap}
theorem ok_bounds_of (T : Txt K mg) {f : Addr} {fd : FuncData} (F : Fun K "bounds_of" "bounds_of" s_bounds_of f fd)   : FnOk P w K mg base CX0 1 f fd ["code"] (spOf K 1 F_bounds_of) :=
  fn_ok (k := 0) F sc_bounds_of fun cdv A outer s H E hr => (lss_one (ls_ret (le_swp (le_callTy cl_tuple rfl T.n_tuple bt_tuple (ll_cons (le_lc rfl sc_bounds_of.nd (li_seq (le_ix ix_vIx (le_var 0) le_int)) (blkOk_by (N := N_bounds_of) (sc := defScope s_bounds_of) (own := [("name", 1), ("bound", 2)]) (by decide +kernel)) (by decide) (fun _ _ _ _ _ => (lt_tp rfl (lts_cons (lt_nm 1 sc_bounds_of.nd) (lts_cons (lt_nm 2 sc_bounds_of.nd) lts_nil)))) (fun _ _ _ _ _ => lts_yes) (fun _ _ _ _ _ => (le_var 2))) ll_nil)))))
theorem ok_has_to (T : Txt K mg) {f : Addr} {fd : FuncData} (F : Fun K "has_to" "has_to" s_has_to f fd)   : FnOk P w K mg base CX0 1 f fd ["steps", "axis"] (spOf K 2 F_has_to) :=
  fn_ok (k := 0) F sc_has_to fun cdv A outer s H E hr => (lss_one (ls_ret (le_swp (le_cmp op_vGt (le_swp (le_callB cl_len rfl T.n_len bt_len (ll_cons (le_lc rfl sc_has_to.nd (li_seq (le_var 0)) (blkOk_by (N := N_has_to) (sc := defScope s_has_to) (own := [("step", 2)]) (by decide +kernel)) (by decide) (fun _ _ _ _ _ => (lt_nm 2 sc_has_to.nd)) (fun _ _ _ _ _ => (lts_one (LW.b (lw_and (lb_cmp (op_vEq hr.units) (le_ix ix_vIx (le_var 2) le_int) le_str (nomark _)) (lw_and1 (lb_cmp (op_vEq hr.units) (le_ix ix_vIx (le_var 2) le_int) (le_var 1) (nomark _))))))) (fun _ _ _ _ _ => (le_var 2))) ll_nil))) le_int (nomark _)))))
theorem ok_drift_of (T : Txt K mg) {f : Addr} {fd : FuncData} (F : Fun K "drift_of" "drift_of" s_drift_of f fd) (H_has_to : HasFn P w K mg base "has_to" 1 ["steps", "axis"] F_has_to)  : FnOk P w K mg base CX0 2 f fd ["code", "segment", "axis"] (spOf K 3 F_drift_of) :=
  fn_ok (k := 1) F sc_drift_of fun cdv A outer s H E hr => (lss_cons (ls_set 3 sc_drift_of.nd (le_ix ix_vIx (le_ix ix_vIx (le_ix ix_vIx (le_var 0) le_int) (le_var 1)) le_int))
    (lss_cons (ls_if (lb_truth (le_fn H_has_to (hr.mono (by decide)) rfl (ll_cons (le_var 3) (ll_cons (le_var 2) ll_nil)) (lenIs_cons (lenIs_cons lenIs_nil)))) (lss_one (ls_ret le_int)) lss_nil)
    (lss_one (ls_ret (le_swp (le_callB (cl_sum rfl) rfl T.n_sum bt_sum (ll_cons (le_lc rfl sc_drift_of.nd (li_seq (le_var 3)) (blkOk_by (N := N_drift_of) (sc := defScope s_drift_of) (own := [("step", 4)]) (by decide +kernel)) (by decide) (fun _ _ _ _ _ => (lt_nm 4 sc_drift_of.nd)) (fun _ _ _ _ _ => (lts_one (LW.b (lw_and (lb_cmp (op_vEq hr.units) (le_ix ix_vIx (le_var 4) le_int) le_str (nomark _)) (lw_and1 (lb_cmp (op_vEq hr.units) (le_ix ix_vIx (le_var 4) le_int) (le_var 2) (nomark _))))))) (fun _ _ _ _ _ => (le_ix ix_vIx (le_var 4) le_int))) ll_nil)))))))
theorem ok_far_of (T : Txt K mg) {f : Addr} {fd : FuncData} (F : Fun K "far_of" "far_of" s_far_of f fd)   : FnOk P w K mg base CX0 1 f fd ["code", "segment", "axis"] (spOf K 3 F_far_of) :=
  fn_ok (k := 0) F sc_far_of fun cdv A outer s H E hr => (lss_cons (ls_set 3 sc_far_of.nd le_int)
    (lss_cons (ls_for PassesOwn.never rfl (li_range1 rfl T.n_range (ll_cons (le_callB cl_len rfl T.n_len bt_len (ll_cons (le_ix ix_vIx (le_var 0) le_int) ll_nil)) ll_nil)) (lt_nm 4 sc_far_of.nd) (lss_one (ls_for PassesOwn.never rfl (li_seq (le_ix ix_vIx (le_ix ix_vIx (le_ix ix_vIx (le_var 0) le_int) (le_var 4)) le_int)) (lt_nm 5 sc_far_of.nd) (lss_one (ls_if (LW.b (lw_and (lb_cmp (op_vEq hr.units) (le_ix ix_vIx (le_var 5) le_int) le_str (nomark _)) (lw_and1 (lb_cmp (op_vEq hr.units) (le_ix ix_vIx (le_var 5) le_int) (le_var 2) (nomark _))))) (lss_cons (ls_if (lb_cmp op_vGt (le_var 4) (le_var 1) (nomark _)) (lss_one (ls_ret (le_callB cl_abs rfl T.n_abs bt_abs (ll_cons (le_op op_vSub (le_ix ix_vIx (le_var 5) le_int) (le_var 3)) ll_nil)))) lss_nil)
    (lss_one (ls_set 3 sc_far_of.nd (le_ix ix_vIx (le_var 5) le_int)))) (lss_one (ls_if (LW.b (lw_and (lb_cmp (op_vEq hr.units) (le_ix ix_vIx (le_var 5) le_int) le_str (nomark _)) (lw_and1 (lb_cmp (op_vEq hr.units) (le_ix ix_vIx (le_var 5) le_int) (le_var 2) (nomark _))))) (lss_one (ls_aug 3 sc_far_of.nd (le_ix ix_vIx (le_var 5) le_int) ip_vAdd)) lss_nil)))))))
    (lss_one (ls_ret le_int))))
theorem ok_told_of (T : Txt K mg) {f : Addr} {fd : FuncData} (F : Fun K "told_of" "told_of" s_told_of f fd) (H_bounds_of : HasFn P w K mg base "bounds_of" 1 ["code"] F_bounds_of) (H_drift_of : HasFn P w K mg base "drift_of" 2 ["code", "segment", "axis"] F_drift_of) (H_far_of : HasFn P w K mg base "far_of" 1 ["code", "segment", "axis"] F_far_of)  : FnOk P w K mg base CX0 3 f fd ["code", "segment"] (spOf K 2 F_told_of) :=
  fn_ok (k := 2) F sc_told_of fun cdv A outer s H E hr => (lss_cons (ls_set 2 sc_told_of.nd le_int)
    (lss_cons (ls_set 3 sc_told_of.nd (le_fn H_bounds_of (hr.mono (by decide)) rfl (ll_cons (le_var 0) ll_nil) (lenIs_cons lenIs_nil)))
    (lss_cons (ls_for PassesOwn.never rfl (li_range1 rfl T.n_range (ll_cons (le_callB cl_len rfl T.n_len bt_len (ll_cons (le_var 3) ll_nil)) ll_nil)) (lt_nm 4 sc_told_of.nd) (lss_cons (ls_set 5 sc_told_of.nd (le_callB cl_abs rfl T.n_abs bt_abs (ll_cons (le_fn H_drift_of (hr.mono (by decide)) rfl (ll_cons (le_var 0) (ll_cons (le_var 1) (ll_cons (le_var 4) ll_nil))) (lenIs_cons (lenIs_cons (lenIs_cons lenIs_nil)))) ll_nil)))
    (lss_one (ls_if (lb_cmp op_vGt (le_var 5) le_int (nomark _)) (lss_one (ls_set 2 sc_told_of.nd (le_callB (cl_max rfl) rfl T.n_max bt_max (ll_cons (le_var 2) (ll_cons (le_op op_vAdd le_int (le_op op_vFdiv (le_op op_vSub (le_op op_vAdd (le_op op_vAdd (le_ix ix_vIx (le_var 3) (le_var 4)) (le_fn H_far_of (hr.mono (by decide)) rfl (ll_cons (le_var 0) (ll_cons (le_var 1) (ll_cons (le_var 4) ll_nil))) (lenIs_cons (lenIs_cons (lenIs_cons lenIs_nil))))) (le_var 5)) le_int) (le_var 5))) ll_nil))))) lss_nil))))
    (lss_one (ls_ret (le_var 2))))))
theorem ok_any_segments (T : Txt K mg) {f : Addr} {fd : FuncData} (F : Fun K "any_segments" "any_segments" s_any_segments f fd)   : FnOk P w K mg base CX0 1 f fd ["code"] (spOf K 1 F_any_segments) :=
  fn_ok (k := 0) F sc_any_segments fun cdv A outer s H E hr => (lss_one (ls_ret (le_lc rfl sc_any_segments.nd (li_range1 rfl T.n_range (ll_cons (le_callB cl_len rfl T.n_len bt_len (ll_cons (le_ix ix_vIx (le_var 0) le_int) ll_nil)) ll_nil)) (blkOk_by (N := N_any_segments) (sc := defScope s_any_segments) (own := [("at", 1)]) (by decide +kernel)) (by decide) (fun _ _ _ _ _ => (lt_nm 1 sc_any_segments.nd)) (fun _ _ _ _ _ => (lts_one (lb_cmp (op_vEq hr.units) (le_ix ix_vIx (le_ix ix_vIx (le_ix ix_vIx (le_var 0) le_int) (le_var 1)) le_int) le_str (nomark _)))) (fun _ _ _ _ _ => (le_var 1)))))
theorem ok_told_rounds (T : Txt K mg) {f : Addr} {fd : FuncData} (F : Fun K "told_rounds" "told_rounds" s_told_rounds f fd) (H_any_segments : HasFn P w K mg base "any_segments" 1 ["code"] F_any_segments) (H_told_of : HasFn P w K mg base "told_of" 3 ["code", "segment"] F_told_of)  : FnOk P w K mg base CX0 4 f fd ["code"] (spOf K 1 F_told_rounds) :=
  fn_ok (k := 3) F sc_told_rounds fun cdv A outer s H E hr => (lss_one (ls_ret (le_swp (le_callTy cl_tuple rfl T.n_tuple bt_tuple (ll_cons (le_lc rfl sc_told_rounds.nd (li_seq (le_fn H_any_segments (hr.mono (by decide)) rfl (ll_cons (le_var 0) ll_nil) (lenIs_cons lenIs_nil))) (blkOk_by (N := N_told_rounds) (sc := defScope s_told_rounds) (own := [("segment", 1)]) (by decide +kernel)) (by decide) (fun _ _ _ _ _ => (lt_nm 1 sc_told_rounds.nd)) (fun _ _ _ _ _ => lts_yes) (fun _ _ _ _ _ => (le_fn H_told_of (hr.mono (by decide)) rfl (ll_cons (le_var 0) (ll_cons (le_var 1) ll_nil)) (lenIs_cons (lenIs_cons lenIs_nil))))) ll_nil)))))
theorem ok_law_auger (T : Txt K mg) {f : Addr} {fd : FuncData} (F : Fun K "_law_auger" "_law_auger" s_law_auger f fd)   : FnOk P w K mg base CX0 1 f fd ["script"] (spOf K 1 F_law_auger) :=
  fn_ok (k := 0) F sc_law_auger fun cdv A outer s H E hr => (lss_cons (ls_set 1 sc_law_auger.nd (le_lst (ll_cons (le_lst ll_nil lenIs_nil) (ll_cons le_int (ll_cons le_int (ll_cons le_int ll_nil)))) (lenIs_cons (lenIs_cons (lenIs_cons (lenIs_cons lenIs_nil))))))
    (lss_cons (ls_swp (ls_for PassesOwn.never rfl (li_seq (le_slice sl_vSlice (le_var 0) lo_none (lo_some le_int))) (lt_nm 2 sc_law_auger.nd) (lss_cons (ls_set 3 sc_law_auger.nd (le_op op_vMod (le_callB cl_abs rfl T.n_abs bt_abs (ll_cons (le_callTy cl_int rfl T.n_int bt_int (ll_cons (le_var 2) ll_nil)) ll_nil)) (le_op op_vShl le_int le_int)))
    (lss_cons (ls_setL (le_op op_vMod (le_callTy cl_int rfl T.n_int bt_int (ll_cons (le_op op_vAdd (le_op op_vAdd (le_op op_vAdd (le_op op_vMul (le_ix ix_vIx (le_var 1) le_int) le_int) (le_op op_vMod (le_var 3) le_int)) (le_op op_vMul le_int (le_callTy cl_int rfl T.n_int bt_int (ll_cons (le_cmp op_vLt (le_var 2) le_int (nomark _)) ll_nil)))) le_int) ll_nil)) le_int) (le_var 1) le_int)
    (lss_one (ls_if (lb_cmp op_vGe (le_var 3) (le_op op_vPow le_int le_int) (nomark _)) (lss_one (ls_expr (le_ml PySem.F.slot_list_append PySem.F.type_list_append ml_append (le_ix ix_vIx (le_var 1) le_int) (ll_cons (le_var 3) ll_nil)))) lss_nil))))))
    (lss_cons (ls_setL (le_op op_vMod (le_callTy cl_int rfl T.n_int bt_int (ll_cons (le_op op_vFdiv (le_ix ix_vIx (le_var 1) le_int) le_int) ll_nil)) le_int) (le_var 1) le_int)
    (lss_one (ls_ret (le_var 1))))))
theorem ok_law_bore (T : Txt K mg) {f : Addr} {fd : FuncData} (F : Fun K "_law_bore" "_law_bore" s_law_bore f fd)   : FnOk P w K mg base CX0 1 f fd ["auger", "spot", "many"] (spOf K 3 F_law_bore) :=
  fn_ok (k := 0) F sc_law_bore fun cdv A outer s H E hr => (lss_cons (ls_if (lb_cmp op_vLt (le_var 2) le_int (nomark _)) (lss_one (ls_ret le_int)) lss_nil)
    (lss_cons (ls_if (lb_cmp op_vGt (le_callB cl_len rfl T.n_len bt_len (ll_cons (le_ix ix_vIx (le_var 0) le_int) ll_nil)) le_int (nomark _)) (lss_cons (ls_set 3 sc_law_bore.nd (le_ml0 PySem.F.slot_list_pop PySem.F.type_list_pop ml_pop (le_ix ix_vIx (le_var 0) le_int)))
    (lss_cons (ls_if (lb_cmp op_vGe (le_var 3) (le_var 2) (nomark _)) (lss_one (ls_expr (le_ml PySem.F.slot_list_append PySem.F.type_list_append ml_append (le_ix ix_vIx (le_var 0) le_int) (ll_cons (le_op op_vFdiv (le_var 3) (le_var 2)) ll_nil)))) lss_nil)
    (lss_one (ls_ret (le_op op_vMod (le_var 3) (le_var 2)))))) lss_nil)
    (lss_cons (ls_setL (le_op op_vAdd (le_ix ix_vIx (le_var 0) le_int) le_int) (le_var 0) le_int)
    (lss_cons (ls_setL (le_op op_vMod (le_callTy cl_int rfl T.n_int bt_int (ll_cons (le_op op_vAdd (le_op op_vAdd (le_op op_vMul (le_ix ix_vIx (le_var 0) le_int) le_int) (le_op op_vMul (le_ix ix_vIx (le_var 0) le_int) le_int)) (le_op op_vMul (le_var 1) le_int)) ll_nil)) le_int) (le_var 0) le_int)
    (lss_cons (ls_set 4 sc_law_bore.nd (le_op op_vMod (le_callTy cl_int rfl T.n_int bt_int (ll_cons (le_op op_vAdd (le_ix ix_vIx (le_var 0) le_int) (le_op op_vMul (le_var 1) le_int)) ll_nil)) le_int))
    (lss_cons (ls_if (lb_cmp op_vGt (le_var 4) le_int (nomark _)) (lss_one (ls_ret (le_ix ix_vIx (le_tup (ll_cons le_int (ll_cons (le_op op_vSub (le_var 2) le_int) (ll_cons (le_op op_vMod (le_callTy cl_int rfl T.n_int bt_int (ll_cons (le_ix ix_vIx (le_var 0) le_int) ll_nil)) (le_var 2)) (ll_cons (le_op op_vSub (le_var 2) le_int) (ll_cons le_int ll_nil))))) (lenIs_cons (lenIs_cons (lenIs_cons (lenIs_cons (lenIs_cons lenIs_nil)))))) (le_op op_vSub (le_var 4) le_int)))) lss_nil)
    (lss_one (ls_ret (le_op op_vMod (le_callTy cl_int rfl T.n_int bt_int (ll_cons (le_op op_vFdiv (le_ix ix_vIx (le_var 0) le_int) le_int) ll_nil)) (le_var 2))))))))))
theorem ok_law_way (T : Txt K mg) {f : Addr} {fd : FuncData} (F : Fun K "_law_way" "_law_way" s_law_way f fd) (H_law_bore : HasFn P w K mg base "_law_bore" 1 ["auger", "spot", "many"] F_law_bore)  : FnOk P w K mg base CX0 2 f fd ["auger", "scale"] (spOf K 2 F_law_way) :=
  fn_ok (k := 1) F sc_law_way fun cdv A outer s H E hr => (lss_cons (ls_set 2 sc_law_way.nd (le_op op_vAdd le_int (le_fn H_law_bore (hr.mono (by decide)) rfl (ll_cons (le_var 0) (ll_cons le_int (ll_cons le_int ll_nil))) (lenIs_cons (lenIs_cons (lenIs_cons lenIs_nil))))))
    (lss_cons (ls_set 2 sc_law_way.nd (le_ite (lb_cmp op_vGt (le_var 1) le_int (nomark _)) (le_op op_vAdd (le_op op_vMul (le_var 2) (le_var 1)) (le_ix ix_vIx (le_tup (ll_cons le_int (ll_cons le_int (ll_cons le_int (ll_cons (le_var 1) ll_nil)))) (lenIs_cons (lenIs_cons (lenIs_cons (lenIs_cons lenIs_nil))))) (le_fn H_law_bore (hr.mono (by decide)) rfl (ll_cons (le_var 0) (ll_cons le_int (ll_cons le_int ll_nil))) (lenIs_cons (lenIs_cons (lenIs_cons lenIs_nil)))))) (le_var 2)))
    (lss_one (ls_ret (le_ite (lb_cmp (op_vEq hr.units) (le_fn H_law_bore (hr.mono (by decide)) rfl (ll_cons (le_var 0) (ll_cons le_int (ll_cons le_int ll_nil))) (lenIs_cons (lenIs_cons (lenIs_cons lenIs_nil)))) le_int (nomark _)) (le_var 2) (le_op op_vSub le_int (le_var 2)))))))
theorem ok_law_steps (T : Txt K mg) {f : Addr} {fd : FuncData} (F : Fun K "_law_steps" "_law_steps" s_law_steps f fd) (H_law_bore : HasFn P w K mg base "_law_bore" 1 ["auger", "spot", "many"] F_law_bore) (H_law_way : HasFn P w K mg base "_law_way" 2 ["auger", "scale"] F_law_way)  : FnOk P w K mg base CX0 3 f fd ["auger", "axes", "scale", "tos"] (spOf K 4 F_law_steps) :=
  fn_ok (k := 2) F sc_law_steps fun cdv A outer s H E hr => (lss_cons (ls_set 4 sc_law_steps.nd (le_lst ll_nil lenIs_nil))
    (lss_cons (ls_for PassesOwn.never rfl (li_range1 rfl T.n_range (ll_cons (le_op op_vAdd le_int (le_fn H_law_bore (hr.mono (by decide)) rfl (ll_cons (le_var 0) (ll_cons le_int (ll_cons le_int ll_nil))) (lenIs_cons (lenIs_cons (lenIs_cons lenIs_nil))))) ll_nil)) (lt_nm 5 sc_law_steps.nd) (lss_cons (ls_par 6 7 rfl sc_law_steps.nd (ll_cons (le_fn H_law_bore (hr.mono (by decide)) rfl (ll_cons (le_var 0) (ll_cons le_int (ll_cons (le_var 1) ll_nil))) (lenIs_cons (lenIs_cons (lenIs_cons lenIs_nil)))) (ll_cons (le_fn H_law_bore (hr.mono (by decide)) rfl (ll_cons (le_var 0) (ll_cons le_int (ll_cons le_int ll_nil))) (lenIs_cons (lenIs_cons (lenIs_cons lenIs_nil)))) ll_nil)))
    (lss_one (ls_if (lb_cmp (op_vEq hr.units) (le_var 7) le_int (nomark _)) (lss_one (ls_expr (le_ml PySem.F.slot_list_append PySem.F.type_list_append ml_append (le_var 4) (ll_cons (le_tup (ll_cons le_str (ll_cons (le_ix ix_vIx (le_tup (ll_cons le_str (ll_cons le_str (ll_cons le_str ll_nil))) (lenIs_cons (lenIs_cons (lenIs_cons lenIs_nil)))) (le_fn H_law_bore (hr.mono (by decide)) rfl (ll_cons (le_var 0) (ll_cons le_int (ll_cons le_int ll_nil))) (lenIs_cons (lenIs_cons (lenIs_cons lenIs_nil))))) ll_nil)) (lenIs_cons (lenIs_cons lenIs_nil))) ll_nil)))) (lss_one (ls_if (LW.b (lw_and (lb_cmp (op_vEq hr.units) (le_var 7) le_int (nomark _)) (lw_and1 (lb_truth (le_var 3))))) (lss_one (ls_expr (le_ml PySem.F.slot_list_append PySem.F.type_list_append ml_append (le_var 4) (ll_cons (le_tup (ll_cons le_str (ll_cons (le_var 6) (ll_cons (le_op op_vAdd (le_op op_vMul (le_ix ix_vIx (le_tup (ll_cons le_int (ll_cons le_int (ll_cons le_int (ll_cons (le_op op_vSub le_int le_int) ll_nil)))) (lenIs_cons (lenIs_cons (lenIs_cons (lenIs_cons lenIs_nil))))) (le_fn H_law_bore (hr.mono (by decide)) rfl (ll_cons (le_var 0) (ll_cons le_int (ll_cons le_int ll_nil))) (lenIs_cons (lenIs_cons (lenIs_cons lenIs_nil))))) (le_var 2)) (le_fn H_law_bore (hr.mono (by decide)) rfl (ll_cons (le_var 0) (ll_cons le_int (ll_cons le_int ll_nil))) (lenIs_cons (lenIs_cons (lenIs_cons lenIs_nil))))) ll_nil))) (lenIs_cons (lenIs_cons (lenIs_cons lenIs_nil)))) ll_nil)))) (lss_one (ls_expr (le_ml PySem.F.slot_list_append PySem.F.type_list_append ml_append (le_var 4) (ll_cons (le_tup (ll_cons le_str (ll_cons (le_var 6) (ll_cons (le_fn H_law_way (hr.mono (by decide)) rfl (ll_cons (le_var 0) (ll_cons (le_var 2) ll_nil)) (lenIs_cons (lenIs_cons lenIs_nil))) ll_nil))) (lenIs_cons (lenIs_cons (lenIs_cons lenIs_nil)))) ll_nil))))))))))
    (lss_cons (ls_if (lb_cmp (op_vEq hr.units) (le_fn H_law_bore (hr.mono (by decide)) rfl (ll_cons (le_var 0) (ll_cons le_int (ll_cons le_int ll_nil))) (lenIs_cons (lenIs_cons (lenIs_cons lenIs_nil)))) le_int (nomark _)) (lss_cons (ls_set 8 sc_law_steps.nd (le_fn H_law_way (hr.mono (by decide)) rfl (ll_cons (le_var 0) (ll_cons (le_var 2) ll_nil)) (lenIs_cons (lenIs_cons lenIs_nil))))
    (lss_one (ls_set 4 sc_law_steps.nd (le_op op_vAdd (le_op op_vAdd (le_lst (ll_cons (le_tup (ll_cons le_str (ll_cons le_int (ll_cons (le_var 8) ll_nil))) (lenIs_cons (lenIs_cons (lenIs_cons lenIs_nil)))) ll_nil) (lenIs_cons lenIs_nil)) (le_var 4)) (le_lst (ll_cons (le_tup (ll_cons le_str (ll_cons le_int (ll_cons (le_op op_vSub le_int (le_var 8)) ll_nil))) (lenIs_cons (lenIs_cons (lenIs_cons lenIs_nil)))) ll_nil) (lenIs_cons lenIs_nil)))))) lss_nil)
    (lss_one (ls_ret (le_callTy cl_tuple rfl T.n_tuple bt_tuple (ll_cons (le_var 4) ll_nil)))))))
theorem ok_law_drift (T : Txt K mg) {f : Addr} {fd : FuncData} (F : Fun K "_law_drift" "_law_drift" s_law_drift f fd)   : FnOk P w K mg base CX0 1 f fd ["steps", "axis"] (spOf K 2 F_law_drift) :=
  fn_ok (k := 0) F sc_law_drift fun cdv A outer s H E hr => (lss_cons (ls_if (lb_swp (lb_cmp op_vGt (le_swp (le_callB cl_len rfl T.n_len bt_len (ll_cons (le_lc rfl sc_law_drift.nd (li_seq (le_var 0)) (blkOk_by (N := N_law_drift) (sc := defScope s_law_drift) (own := [("step", 2)]) (by decide +kernel)) (by decide) (fun _ _ _ _ _ => (lt_nm 2 sc_law_drift.nd)) (fun _ _ _ _ _ => (lts_one (LW.b (lw_and (lb_cmp (op_vEq hr.units) (le_ix ix_vIx (le_var 2) le_int) le_str (nomark _)) (lw_and1 (lb_cmp (op_vEq hr.units) (le_ix ix_vIx (le_var 2) le_int) (le_var 1) (nomark _))))))) (fun _ _ _ _ _ => le_int)) ll_nil))) le_int (nomark _))) (lss_one (ls_ret le_int)) lss_nil)
    (lss_one (ls_ret (le_swp (le_callB (cl_sum rfl) rfl T.n_sum bt_sum (ll_cons (le_lc rfl sc_law_drift.nd (li_seq (le_var 0)) (blkOk_by (N := N_law_drift) (sc := defScope s_law_drift) (own := [("step", 2)]) (by decide +kernel)) (by decide) (fun _ _ _ _ _ => (lt_nm 2 sc_law_drift.nd)) (fun _ _ _ _ _ => (lts_one (LW.b (lw_and (lb_cmp (op_vEq hr.units) (le_ix ix_vIx (le_var 2) le_int) le_str (nomark _)) (lw_and1 (lb_cmp (op_vEq hr.units) (le_ix ix_vIx (le_var 2) le_int) (le_var 1) (nomark _))))))) (fun _ _ _ _ _ => (le_ix ix_vIx (le_var 2) le_int))) ll_nil))))))
theorem ok_law_barred (T : Txt K mg) {f : Addr} {fd : FuncData} (F : Fun K "_law_barred" "_law_barred" s_law_barred f fd) (H_law_drift : HasFn P w K mg base "_law_drift" 1 ["steps", "axis"] F_law_drift)  : FnOk P w K mg base CX0 2 f fd ["segments", "axes"] (spOf K 2 F_law_barred) :=
  fn_ok (k := 1) F sc_law_barred fun cdv A outer s H E hr => (lss_cons (ls_for PassesOwn.never rfl (li_range1 rfl T.n_range (ll_cons (le_var 1) ll_nil)) (lt_nm 2 sc_law_barred.nd) (lss_cons (ls_set 3 sc_law_barred.nd (le_lst ll_nil lenIs_nil))
    (lss_one (ls_for PassesOwn.never rfl (li_seq (le_var 0)) (lt_tp rfl (lts_cons (lt_nm 4 sc_law_barred.nd) (lts_cons (lt_nm 5 sc_law_barred.nd) lts_nil))) (lss_cons (ls_if (LW.b (lw_and (lb_swp (lb_cmp op_vGt (le_swp (le_callB cl_len rfl T.n_len bt_len (ll_cons (le_lc rfl sc_law_barred.nd (li_seq (le_var 5)) (blkOk_by (N := N_law_barred) (sc := defScope s_law_barred) (own := [("step", 6)]) (by decide +kernel)) (by decide) (fun _ _ _ _ _ => (lt_nm 6 sc_law_barred.nd)) (fun _ _ _ _ _ => (lts_one (LW.b (lw_and (lb_cmp (op_vEq hr.units) (le_ix ix_vIx (le_var 6) le_int) le_str (nomark _)) (lw_and1 (lb_cmp (op_vEq hr.units) (le_ix ix_vIx (le_var 6) le_int) (le_var 2) (nomark _))))))) (fun _ _ _ _ _ => le_int)) ll_nil))) le_int (nomark _))) (lw_and (lb_cmp op_vGt (le_callB cl_len rfl T.n_len bt_len (ll_cons (le_var 3) ll_nil)) le_int (nomark _)) (lw_and1 (lb_chain op_vLt op_vLt (le_callB (cl_min rfl) rfl T.n_min bt_min (ll_cons (le_var 3) ll_nil)) le_int (le_callB (cl_max rfl) rfl T.n_max bt_max (ll_cons (le_var 3) ll_nil)) (by rfl)))))) (lss_one (ls_ret le_bl)) lss_nil)
    (lss_one (ls_set 3 sc_law_barred.nd (le_op op_vAdd (le_var 3) (le_ite (lb_cmp (op_vEq hr.units) (le_var 4) le_str (nomark _)) (le_lst (ll_cons (le_fn H_law_drift (hr.mono (by decide)) rfl (ll_cons (le_var 5) (ll_cons (le_var 2) ll_nil)) (lenIs_cons (lenIs_cons lenIs_nil))) ll_nil) (lenIs_cons lenIs_nil)) (le_lst ll_nil lenIs_nil))))))))))
    (lss_one (ls_ret le_bl)))
theorem ok_law_far (T : Txt K mg) {f : Addr} {fd : FuncData} (F : Fun K "_law_far" "_law_far" s_law_far f fd)   : FnOk P w K mg base CX0 1 f fd ["segments", "number", "axis"] (spOf K 3 F_law_far) :=
  fn_ok (k := 0) F sc_law_far fun cdv A outer s H E hr => (lss_cons (ls_asg (le_tup (ll_cons le_int (ll_cons le_bl ll_nil)) (lenIs_cons (lenIs_cons lenIs_nil))) (lt_tp rfl (lts_cons (lt_nm 3 sc_law_far.nd) (lts_cons (lt_nm 4 sc_law_far.nd) lts_nil))))
    (lss_cons (ls_for PassesOwn.never rfl (li_range1 rfl T.n_range (ll_cons (le_callB cl_len rfl T.n_len bt_len (ll_cons (le_var 0) ll_nil)) ll_nil)) (lt_nm 5 sc_law_far.nd) (lss_one (ls_for PassesOwn.never rfl (li_seq (le_ix ix_vIx (le_ix ix_vIx (le_var 0) (le_var 5)) le_int)) (lt_nm 6 sc_law_far.nd) (lss_one (ls_if (LW.b (lw_and (lb_cmp (op_vEq hr.units) (le_ix ix_vIx (le_var 6) le_int) le_str (nomark _)) (lw_and1 (lb_cmp (op_vEq hr.units) (le_ix ix_vIx (le_var 6) le_int) (le_var 2) (nomark _))))) (lss_one (ls_set 3 sc_law_far.nd (le_op op_vAdd (le_var 3) (le_ix ix_vIx (le_var 6) le_int)))) (lss_one (ls_if (LW.b (lw_and (lb_cmp (op_vEq hr.units) (le_ix ix_vIx (le_var 6) le_int) le_str (nomark _)) (lw_and1 (lb_cmp (op_vEq hr.units) (le_ix ix_vIx (le_var 6) le_int) (le_var 2) (nomark _))))) (lss_cons (ls_if (lb_cmp op_vGt (le_var 5) (le_var 1) (nomark _)) (lss_one (ls_ret (le_callB cl_abs rfl T.n_abs bt_abs (ll_cons (le_op op_vSub (le_var 3) (le_ix ix_vIx (le_var 6) le_int)) ll_nil)))) lss_nil)
    (lss_one (ls_set 3 sc_law_far.nd (le_ix ix_vIx (le_var 6) le_int)))) lss_nil)))))))
    (lss_one (ls_ret le_int))))
theorem ok_law_rounds (T : Txt K mg) {f : Addr} {fd : FuncData} (F : Fun K "_law_rounds" "_law_rounds" s_law_rounds f fd) (H_law_drift : HasFn P w K mg base "_law_drift" 1 ["steps", "axis"] F_law_drift) (H_law_far : HasFn P w K mg base "_law_far" 1 ["segments", "number", "axis"] F_law_far)  : FnOk P w K mg base CX0 2 f fd ["code"] (spOf K 1 F_law_rounds) :=
  fn_ok (k := 1) F sc_law_rounds fun cdv A outer s H E hr => (lss_cons (ls_asg (le_var 0) (lt_tp rfl (lts_cons (lt_nm 1 sc_law_rounds.nd) (lts_cons (lt_nm 2 sc_law_rounds.nd) lts_nil))))
    (lss_cons (ls_set 3 sc_law_rounds.nd (le_lst ll_nil lenIs_nil))
    (lss_cons (ls_for PassesOwn.never rfl (li_range1 rfl T.n_range (ll_cons (le_callB cl_len rfl T.n_len bt_len (ll_cons (le_var 2) ll_nil)) ll_nil)) (lt_nm 4 sc_law_rounds.nd) (lss_cons (ls_if (lb_cmp (op_vNe hr.units) (le_ix ix_vIx (le_ix ix_vIx (le_var 2) (le_var 4)) le_int) le_str (nomark _)) (lss_one ls_cont) lss_nil)
    (lss_cons (ls_set 5 sc_law_rounds.nd le_int)
    (lss_cons (ls_for PassesOwn.never rfl (li_range1 rfl T.n_range (ll_cons (le_callB cl_len rfl T.n_len bt_len (ll_cons (le_var 1) ll_nil)) ll_nil)) (lt_nm 6 sc_law_rounds.nd) (lss_cons (ls_set 7 sc_law_rounds.nd (le_callB cl_abs rfl T.n_abs bt_abs (ll_cons (le_fn H_law_drift (hr.mono (by decide)) rfl (ll_cons (le_ix ix_vIx (le_ix ix_vIx (le_var 2) (le_var 4)) le_int) (ll_cons (le_var 6) ll_nil)) (lenIs_cons (lenIs_cons lenIs_nil))) ll_nil)))
    (lss_one (ls_if (lb_cmp op_vGt (le_var 7) le_int (nomark _)) (lss_cons (ls_set 8 sc_law_rounds.nd (le_op op_vAdd (le_ix ix_vIx (le_ix ix_vIx (le_var 1) (le_var 6)) le_int) (le_fn H_law_far (hr.mono (by decide)) rfl (ll_cons (le_var 2) (ll_cons (le_var 4) (ll_cons (le_var 6) ll_nil))) (lenIs_cons (lenIs_cons (lenIs_cons lenIs_nil))))))
    (lss_one (ls_set 5 sc_law_rounds.nd (le_callB (cl_max rfl) rfl T.n_max bt_max (ll_cons (le_var 5) (ll_cons (le_op op_vAdd le_int (le_op op_vFdiv (le_op op_vSub (le_op op_vAdd (le_var 8) (le_var 7)) le_int) (le_var 7))) ll_nil)))))) lss_nil))))
    (lss_one (ls_expr (le_ml PySem.F.slot_list_append PySem.F.type_list_append ml_append (le_var 3) (ll_cons (le_var 5) ll_nil))))))))
    (lss_one (ls_ret (le_callTy cl_tuple rfl T.n_tuple bt_tuple (ll_cons (le_var 3) ll_nil)))))))
theorem ok_law_code (T : Txt K mg) {f : Addr} {fd : FuncData} (F : Fun K "_law_code" "_law_code" s_law_code f fd) (H_law_bore : HasFn P w K mg base "_law_bore" 1 ["auger", "spot", "many"] F_law_bore) (H_law_steps : HasFn P w K mg base "_law_steps" 3 ["auger", "axes", "scale", "tos"] F_law_steps) (H_law_barred : HasFn P w K mg base "_law_barred" 2 ["segments", "axes"] F_law_barred) (H_law_drift : HasFn P w K mg base "_law_drift" 1 ["steps", "axis"] F_law_drift)  : FnOk P w K mg base CX0 4 f fd ["auger"] (spOf K 1 F_law_code) :=
  fn_ok (k := 3) F sc_law_code fun cdv A outer s H E hr => (lss_cons (ls_set 1 sc_law_code.nd (le_op op_vAdd le_int (le_fn H_law_bore (hr.mono (by decide)) rfl (ll_cons (le_var 0) (ll_cons le_int (ll_cons le_int ll_nil))) (lenIs_cons (lenIs_cons (lenIs_cons lenIs_nil))))))
    (lss_cons (ls_set 2 sc_law_code.nd (le_ix ix_vIx (le_tup (ll_cons le_int (ll_cons le_int (ll_cons le_int (ll_cons le_int (ll_cons (le_op op_vPow le_int le_int) ll_nil))))) (lenIs_cons (lenIs_cons (lenIs_cons (lenIs_cons (lenIs_cons lenIs_nil)))))) (le_fn H_law_bore (hr.mono (by decide)) rfl (ll_cons (le_var 0) (ll_cons le_int (ll_cons le_int ll_nil))) (lenIs_cons (lenIs_cons (lenIs_cons lenIs_nil))))))
    (lss_cons (ls_set 3 sc_law_code.nd (le_tup (ll_cons (le_tup (ll_cons le_str ll_nil) (lenIs_cons lenIs_nil)) (ll_cons (le_tup (ll_cons le_str (ll_cons le_str ll_nil)) (lenIs_cons (lenIs_cons lenIs_nil))) (ll_cons (le_tup (ll_cons le_str (ll_cons le_str ll_nil)) (lenIs_cons (lenIs_cons lenIs_nil))) (ll_cons (le_tup (ll_cons le_str (ll_cons le_str (ll_cons le_str ll_nil))) (lenIs_cons (lenIs_cons (lenIs_cons lenIs_nil)))) (ll_cons (le_tup (ll_cons le_str (ll_cons le_str (ll_cons le_str ll_nil))) (lenIs_cons (lenIs_cons (lenIs_cons lenIs_nil)))) (ll_cons (le_tup (ll_cons le_str ll_nil) (lenIs_cons lenIs_nil)) (ll_cons (le_tup (ll_cons le_str (ll_cons le_str (ll_cons le_str ll_nil))) (lenIs_cons (lenIs_cons (lenIs_cons lenIs_nil)))) ll_nil))))))) (lenIs_cons (lenIs_cons (lenIs_cons (lenIs_cons (lenIs_cons (lenIs_cons (lenIs_cons lenIs_nil)))))))))
    (lss_cons (ls_set 3 sc_law_code.nd (le_ix ix_vIx (le_op op_vAdd (le_var 3) (le_tup (ll_cons (le_tup (ll_cons le_str (ll_cons le_str (ll_cons le_str (ll_cons le_str (ll_cons le_str ll_nil))))) (lenIs_cons (lenIs_cons (lenIs_cons (lenIs_cons (lenIs_cons lenIs_nil)))))) ll_nil) (lenIs_cons lenIs_nil))) (le_fn H_law_bore (hr.mono (by decide)) rfl (ll_cons (le_var 0) (ll_cons le_int (ll_cons le_int ll_nil))) (lenIs_cons (lenIs_cons (lenIs_cons lenIs_nil))))))
    (lss_cons (ls_set 4 sc_law_code.nd (le_swp (le_callTy cl_tuple rfl T.n_tuple bt_tuple (ll_cons (le_lc rfl sc_law_code.nd (li_seq (le_var 3)) (blkOk_by (N := N_law_code) (sc := defScope s_law_code) (own := [("kind", 10)]) (by decide +kernel)) (by decide) (fun _ _ _ _ _ => (lt_nm 10 sc_law_code.nd)) (fun _ _ _ _ _ => lts_yes) (fun _ _ _ _ _ => (le_tup (ll_cons (le_var 10) (ll_cons (le_fn H_law_steps (hr.mono (by decide)) rfl (ll_cons (le_var 0) (ll_cons (le_var 1) (ll_cons (le_var 2) (ll_cons le_bl ll_nil)))) (lenIs_cons (lenIs_cons (lenIs_cons (lenIs_cons lenIs_nil))))) ll_nil)) (lenIs_cons (lenIs_cons lenIs_nil))))) ll_nil))))
    (lss_cons (ls_if (lb_truth (le_fn H_law_barred (hr.mono (by decide)) rfl (ll_cons (le_var 4) (ll_cons (le_var 1) ll_nil)) (lenIs_cons (lenIs_cons lenIs_nil)))) (lss_one (ls_set 4 sc_law_code.nd (le_swp (le_callTy cl_tuple rfl T.n_tuple bt_tuple (ll_cons (le_lc rfl sc_law_code.nd (li_seq (le_var 4)) (blkOk_by (N := N_law_code) (sc := defScope s_law_code) (own := [("kind", 10), ("steps", 11)]) (by decide +kernel)) (by decide) (fun _ _ _ _ _ => (lt_tp rfl (lts_cons (lt_nm 10 sc_law_code.nd) (lts_cons (lt_nm 11 sc_law_code.nd) lts_nil)))) (fun _ _ _ _ _ => lts_yes) (fun _ _ _ _ _ => (le_tup (ll_cons (le_var 10) (ll_cons (le_swp (le_callTy cl_tuple rfl T.n_tuple bt_tuple (ll_cons (le_lc rfl sc_law_code.nd (li_seq (le_var 11)) (blkOk_by (own := [("step", 12)]) (by rfl)) (by decide) (fun _ _ _ _ _ => (lt_nm 12 sc_law_code.nd)) (fun _ _ _ _ _ => lts_yes) (fun _ _ _ _ _ => (le_ite (lb_cmp (op_vEq hr.units) (le_ix ix_vIx (le_var 12) le_int) le_str (nomark _)) (le_op op_vAdd (le_op op_vAdd (le_tup (ll_cons le_str ll_nil) (lenIs_cons lenIs_nil)) (le_slice sl_vSlice (le_var 12) (lo_some le_int) (lo_some le_int))) (le_tup (ll_cons (le_var 2) ll_nil) (lenIs_cons lenIs_nil))) (le_var 12)))) ll_nil))) ll_nil)) (lenIs_cons (lenIs_cons lenIs_nil))))) ll_nil))))) lss_nil)
    (lss_cons (ls_set 5 sc_law_code.nd (le_lst ll_nil lenIs_nil))
    (lss_cons (ls_for PassesOwn.never rfl (li_range1 rfl T.n_range (ll_cons (le_var 1) ll_nil)) (lt_nm 6 sc_law_code.nd) (lss_cons (ls_setLc 7 rfl sc_law_code.nd (li_seq (le_var 4)) (blkOk_by (N := N_law_code) (sc := defScope s_law_code) (own := [("kind", 10), ("steps", 11)]) (by decide +kernel)) (by decide) (fun _ _ _ _ _ => (lt_tp rfl (lts_cons (lt_nm 10 sc_law_code.nd) (lts_cons (lt_nm 11 sc_law_code.nd) lts_nil)))) (fun _ _ _ _ _ => (lts_one (lb_cmp (op_vEq hr.units) (le_var 10) le_str (nomark _)))) (fun _ _ _ _ _ => (le_callB cl_abs rfl T.n_abs bt_abs (ll_cons (le_fn H_law_drift (hr.mono (by decide)) rfl (ll_cons (le_var 11) (ll_cons (le_var 6) ll_nil)) (lenIs_cons (lenIs_cons lenIs_nil))) ll_nil))))
    (lss_cons (ls_set 8 sc_law_code.nd (le_swp (le_callB (cl_max rfl) rfl T.n_max bt_max (ll_cons (le_op op_vAdd (le_var 7) (le_lst (ll_cons le_int ll_nil) (lenIs_cons lenIs_nil))) ll_nil))))
    (lss_cons (ls_set 9 sc_law_code.nd (le_ix ix_vIx (le_tup (ll_cons le_int (ll_cons (le_op op_vSub (le_op op_vAdd (le_op op_vMul (le_var 8) (le_fn H_law_bore (hr.mono (by decide)) rfl (ll_cons (le_var 0) (ll_cons le_int (ll_cons le_int ll_nil))) (lenIs_cons (lenIs_cons (lenIs_cons lenIs_nil))))) (le_fn H_law_bore (hr.mono (by decide)) rfl (ll_cons (le_var 0) (ll_cons le_int (ll_cons le_int ll_nil))) (lenIs_cons (lenIs_cons (lenIs_cons lenIs_nil))))) le_int) (ll_cons (le_op op_vMul (le_fn H_law_bore (hr.mono (by decide)) rfl (ll_cons (le_var 0) (ll_cons le_int (ll_cons le_int ll_nil))) (lenIs_cons (lenIs_cons (lenIs_cons lenIs_nil)))) (le_var 2)) (ll_cons (le_fn H_law_bore (hr.mono (by decide)) rfl (ll_cons (le_var 0) (ll_cons le_int (ll_cons le_int ll_nil))) (lenIs_cons (lenIs_cons (lenIs_cons lenIs_nil)))) ll_nil)))) (lenIs_cons (lenIs_cons (lenIs_cons (lenIs_cons lenIs_nil))))) (le_fn H_law_bore (hr.mono (by decide)) rfl (ll_cons (le_var 0) (ll_cons le_int (ll_cons le_int ll_nil))) (lenIs_cons (lenIs_cons (lenIs_cons lenIs_nil))))))
    (lss_one (ls_expr (le_ml PySem.F.slot_list_append PySem.F.type_list_append ml_append (le_var 5) (ll_cons (le_tup (ll_cons (le_ix ix_vIx (le_tup (ll_cons le_str (ll_cons le_str (ll_cons le_str ll_nil))) (lenIs_cons (lenIs_cons (lenIs_cons lenIs_nil)))) (le_var 6)) (ll_cons (le_callB (cl_min rfl) rfl T.n_min bt_min (ll_cons (le_callB (cl_max rfl) rfl T.n_max bt_max (ll_cons (le_var 9) (ll_cons le_int ll_nil))) (ll_cons (le_op op_vPow le_int le_int) ll_nil))) ll_nil)) (lenIs_cons (lenIs_cons lenIs_nil))) ll_nil))))))))
    (lss_one (ls_ret (le_tup (ll_cons (le_callTy cl_tuple rfl T.n_tuple bt_tuple (ll_cons (le_var 5) ll_nil)) (ll_cons (le_var 4) ll_nil)) (lenIs_cons (lenIs_cons lenIs_nil)))))))))))))
theorem ok_law_same (T : Txt K mg) {f : Addr} {fd : FuncData} (F : Fun K "_law_same" "_law_same" s_law_same f fd) (hm : mg "_law_same" = some (.ref f)) (b : Binds K fd ["told", "due"] [])   : ∀ n, FnOk P w K mg base CX0 (1 + n) f fd ["told", "due"] (spOf K 2 (F_law_same n))
  | 0 => ⟨fun _ _ _ _ h => h.1.trans rfl, fun _ _ _ _ _ _ _ _ _ _ _ _ _ h => (h.2.elim fun _ h => h.elim fun _ h => h.elim fun _ h => h.2.2).elim⟩
  | n + 1 => fn_ok (k := 1 + n) F sc_law_same fun cdv A outer s H E hr => by
    have R : HasFn P w K mg base "_law_same" (1 + n) ["told", "due"] (F_law_same n) := ⟨f, fd, ok_law_same T F hm b  n, hm, F.kp, b⟩
    exact (lss_cons (ls_if (lb_truth (le_isi rfl T.n_isinstance rfl T.n_tuple (by decide +kernel) (le_var 1))) (lss_one (ls_ret (le_and (le_isi rfl T.n_isinstance rfl T.n_tuple (by decide +kernel) (le_var 0)) (le_and (le_cmp (op_vEq hr.units) (le_callB cl_len rfl T.n_len bt_len (ll_cons (le_var 0) ll_nil)) (le_callB cl_len rfl T.n_len bt_len (ll_cons (le_var 1) ll_nil)) (nomark _)) (le_one (le_swp (le_cmp (op_vEq hr.units) (le_swp (le_callB cl_len rfl T.n_len bt_len (ll_cons (le_lc rfl sc_law_same.nd (li_range1 rfl T.n_range (ll_cons (le_callB cl_len rfl T.n_len bt_len (ll_cons (le_var 1) ll_nil)) ll_nil)) (blkOk_by (N := N_law_same) (sc := defScope s_law_same) (own := [("at", 2)]) (by decide +kernel)) (by decide) (fun _ _ _ _ _ => (lt_nm 2 sc_law_same.nd)) (fun _ _ _ _ _ => (lts_one (lb_not (lb_truth (le_fn R (hr.mono (by omega)) rfl (ll_cons (le_ix ix_vIx (le_var 0) (le_var 2)) (ll_cons (le_ix ix_vIx (le_var 1) (le_var 2)) ll_nil)) (lenIs_cons (lenIs_cons lenIs_nil))))))) (fun _ _ _ _ _ => (le_var 2))) ll_nil))) le_int (nomark _)))))))) lss_nil)
    (lss_one (ls_ret (le_and (le_isi rfl T.n_isinstance rfl T.n_int (by decide +kernel) (le_var 0)) (le_and (le_not (le_isi rfl T.n_isinstance rfl T.n_bool (by decide +kernel) (le_var 0))) (le_one (le_cmp (op_vEq hr.units) (le_var 0) (le_var 1) (nomark _))))))))
theorem ok_law_asked (T : Txt K mg) {f : Addr} {fd : FuncData} (F : Fun K "_law_asked" "_law_asked" s_law_asked f fd) (H_law_same : HasFn P w K mg base "_law_same" 21 ["told", "due"] (F_law_same 20)) (H_law_rounds : HasFn P w K mg base "_law_rounds" 2 ["code"] F_law_rounds) (H_told_rounds : HasFn P w K mg base "told_rounds" 4 ["code"] F_told_rounds) (H_law_drift : HasFn P w K mg base "_law_drift" 1 ["steps", "axis"] F_law_drift) (H_drift_of : HasFn P w K mg base "drift_of" 2 ["code", "segment", "axis"] F_drift_of) (HK_drift_of_0 : HasFnK P w K mg base "drift_of" 2 ["code", "segment", "axis"] F_drift_of 0 ["axis", "code", "segment"] [1, 2, 0]) : FnOk P w K mg base CX0 22 f fd ["code"] (spOf K 1 F_law_asked) :=
  fn_ok (k := 21) F sc_law_asked fun cdv A outer s H E hr => (lss_cons (ls_if (lb_not (lb_truth (le_fn H_law_same (hr.mono (by decide)) rfl (ll_cons (le_fn H_told_rounds (hr.mono (by decide)) rfl (ll_cons (le_var 0) ll_nil) (lenIs_cons lenIs_nil)) (ll_cons (le_fn H_law_rounds (hr.mono (by decide)) rfl (ll_cons (le_var 0) ll_nil) (lenIs_cons lenIs_nil)) ll_nil)) (lenIs_cons (lenIs_cons lenIs_nil))))) (lss_one (ls_ret le_bl)) lss_nil)
    (lss_cons (ls_for PassesOwn.never rfl (li_range1 rfl T.n_range (ll_cons (le_callB cl_len rfl T.n_len bt_len (ll_cons (le_ix ix_vIx (le_var 0) le_int) ll_nil)) ll_nil)) (lt_nm 1 sc_law_asked.nd) (lss_one (ls_if (lb_cmp (op_vEq hr.units) (le_ix ix_vIx (le_ix ix_vIx (le_ix ix_vIx (le_var 0) le_int) (le_var 1)) le_int) le_str (nomark _)) (lss_one (ls_for PassesOwn.never rfl (li_range1 rfl T.n_range (ll_cons (le_callB cl_len rfl T.n_len bt_len (ll_cons (le_ix ix_vIx (le_var 0) le_int) ll_nil)) ll_nil)) (lt_nm 2 sc_law_asked.nd) (lss_one (ls_if (lb_not (lb_truth (le_fn H_law_same (hr.mono (by decide)) rfl (ll_cons (le_fnk0 HK_drift_of_0 (hr.mono (by decide)) rfl (lk_cons (le_var 2) (lk_cons (le_var 0) (lk_cons (le_var 1) lk_nil))) (lenIs_cons (lenIs_cons (lenIs_cons lenIs_nil))) (lenOk 0 3 [1, 2, 0] (by decide))) (ll_cons (le_fn H_law_drift (hr.mono (by decide)) rfl (ll_cons (le_ix ix_vIx (le_ix ix_vIx (le_ix ix_vIx (le_var 0) le_int) (le_var 1)) le_int) (ll_cons (le_var 2) ll_nil)) (lenIs_cons (lenIs_cons lenIs_nil))) ll_nil)) (lenIs_cons (lenIs_cons lenIs_nil))))) (lss_one (ls_ret le_bl)) lss_nil)))) lss_nil)))
    (lss_one (ls_ret le_bl))))
theorem ok_law_slow (T : Txt K mg) {f : Addr} {fd : FuncData} (F : Fun K "_law_slow" "_law_slow" s_law_slow f fd) (H_law_bore : HasFn P w K mg base "_law_bore" 1 ["auger", "spot", "many"] F_law_bore)  : FnOk P w K mg base CX0 2 f fd ["auger"] (spOf K 1 F_law_slow) :=
  fn_ok (k := 1) F sc_law_slow fun cdv A outer s H E hr => (lss_cons (ls_par 1 2 rfl sc_law_slow.nd (ll_cons (le_op op_vAdd le_int (le_fn H_law_bore (hr.mono (by decide)) rfl (ll_cons (le_var 0) (ll_cons le_int (ll_cons le_int ll_nil))) (lenIs_cons (lenIs_cons (lenIs_cons lenIs_nil))))) (ll_cons (le_fn H_law_bore (hr.mono (by decide)) rfl (ll_cons (le_var 0) (ll_cons le_int (ll_cons le_int ll_nil))) (lenIs_cons (lenIs_cons (lenIs_cons lenIs_nil)))) ll_nil)))
    (lss_cons (ls_set 3 sc_law_slow.nd (le_ite (lb_cmp (op_vEq hr.units) (le_fn H_law_bore (hr.mono (by decide)) rfl (ll_cons (le_var 0) (ll_cons le_int (ll_cons le_int ll_nil))) (lenIs_cons (lenIs_cons (lenIs_cons lenIs_nil)))) le_int (nomark _)) (le_var 1) (le_op op_vSub le_int (le_var 1))))
    (lss_cons (ls_set 4 sc_law_slow.nd (le_fn H_law_bore (hr.mono (by decide)) rfl (ll_cons (le_var 0) (ll_cons le_int (ll_cons le_int ll_nil))) (lenIs_cons (lenIs_cons (lenIs_cons lenIs_nil)))))
    (lss_cons (ls_set 5 sc_law_slow.nd (le_tup (ll_cons le_str (ll_cons (le_tup (ll_cons (le_tup (ll_cons le_str (ll_cons le_int (ll_cons le_int ll_nil))) (lenIs_cons (lenIs_cons (lenIs_cons lenIs_nil)))) (ll_cons (le_tup (ll_cons le_str (ll_cons le_int (ll_cons (le_op op_vAdd (le_op op_vAdd (le_var 3) le_int) (le_var 4)) ll_nil))) (lenIs_cons (lenIs_cons (lenIs_cons lenIs_nil)))) (ll_cons (le_tup (ll_cons le_str (ll_cons le_str ll_nil)) (lenIs_cons (lenIs_cons lenIs_nil))) (ll_cons (le_tup (ll_cons le_str (ll_cons le_int (ll_cons le_int ll_nil))) (lenIs_cons (lenIs_cons (lenIs_cons lenIs_nil)))) ll_nil)))) (lenIs_cons (lenIs_cons (lenIs_cons (lenIs_cons lenIs_nil))))) ll_nil)) (lenIs_cons (lenIs_cons lenIs_nil))))
    (lss_one (ls_ret (le_tup (ll_cons (le_tup (ll_cons (le_tup (ll_cons le_str (ll_cons (le_var 2) ll_nil)) (lenIs_cons (lenIs_cons lenIs_nil))) ll_nil) (lenIs_cons lenIs_nil)) (ll_cons (le_tup (ll_cons (le_tup (ll_cons le_str (ll_cons (le_tup (ll_cons (le_tup (ll_cons le_str (ll_cons le_str ll_nil)) (lenIs_cons (lenIs_cons lenIs_nil))) ll_nil) (lenIs_cons lenIs_nil)) ll_nil)) (lenIs_cons (lenIs_cons lenIs_nil))) (ll_cons (le_tup (ll_cons le_str (ll_cons (le_tup (ll_cons (le_tup (ll_cons le_str (ll_cons le_int (ll_cons (le_op op_vAdd (le_var 3) le_int) ll_nil))) (lenIs_cons (lenIs_cons (lenIs_cons lenIs_nil)))) (ll_cons (le_tup (ll_cons le_str (ll_cons le_str ll_nil)) (lenIs_cons (lenIs_cons lenIs_nil))) (ll_cons (le_tup (ll_cons le_str (ll_cons le_int (ll_cons (le_op op_vSub le_int le_int) ll_nil))) (lenIs_cons (lenIs_cons (lenIs_cons lenIs_nil)))) ll_nil))) (lenIs_cons (lenIs_cons (lenIs_cons lenIs_nil)))) ll_nil)) (lenIs_cons (lenIs_cons lenIs_nil))) (ll_cons (le_var 5) ll_nil))) (lenIs_cons (lenIs_cons (lenIs_cons lenIs_nil)))) ll_nil)) (lenIs_cons (lenIs_cons lenIs_nil)))))))))
theorem ok_law (T : Txt K mg) {f : Addr} {fd : FuncData} (F : Fun K "law" "law" s_law f fd) (H_law_auger : HasFn P w K mg base "_law_auger" 1 ["script"] F_law_auger) (H_law_asked : HasFn P w K mg base "_law_asked" 22 ["code"] F_law_asked) (H_law_code : HasFn P w K mg base "_law_code" 4 ["auger"] F_law_code) (H_law_slow : HasFn P w K mg base "_law_slow" 2 ["auger"] F_law_slow)  : FnOk P w K mg base CX0 23 f fd ["script"] (spOf K 1 F_law) :=
  fn_ok (k := 22) F sc_law fun cdv A outer s H E hr => (lss_cons (ls_set 1 sc_law.nd (le_fn H_law_auger (hr.mono (by decide)) rfl (ll_cons (le_var 0) ll_nil) (lenIs_cons lenIs_nil)))
    (lss_cons (ls_for PassesOwn.never rfl (li_range1 rfl T.n_range (ll_cons le_int ll_nil)) (lt_nm 2 sc_law.nd) (lss_one (ls_if (lb_not (lb_truth (le_fn H_law_asked (hr.mono (by decide)) rfl (ll_cons (le_fn H_law_code (hr.mono (by decide)) rfl (ll_cons (le_var 1) ll_nil) (lenIs_cons lenIs_nil)) ll_nil) (lenIs_cons lenIs_nil)))) (lss_one (ls_ret le_bl)) lss_nil)))
    (lss_one (ls_ret (le_fn H_law_asked (hr.mono (by decide)) rfl (ll_cons (le_fn H_law_slow (hr.mono (by decide)) rfl (ll_cons (le_var 1) ll_nil) (lenIs_cons lenIs_nil)) ll_nil) (lenIs_cons lenIs_nil))))))
end

end Ap
namespace Ap
open PySem L2 L3
inductive Step where
  | to (a p : Int)
  | by (a w : Int)
  | cut (f : Str)
def Step.enc : Step → D
  | .to a p => .tup [.str "to", .int a, .int p]
  | .by a w => .tup [.str "by", .int a, .int w]
  | .cut f => .tup [.str "cut", .str f]
def encSteps (s : List Step) : D := .tup (s.map Step.enc)
def isTo (a : Int) : Step → Bool
  | .to b _ => decide (b = a)
  | _ => false
def isBy (a : Int) : Step → Bool
  | .by b _ => decide (b = a)
  | _ => false
def wayOf : Step → Int
  | .to _ p => p
  | .by _ w => w
  | .cut _ => 0
theorem ne1 : ¬ (("by" : Str) = "to") := by decide +kernel
theorem ne2 : ¬ (("cut" : Str) = "to") := by decide +kernel
theorem ne3 : ¬ (("to" : Str) = "by") := by decide +kernel
theorem ne4 : ¬ (("cut" : Str) = "by") := by decide +kernel
theorem has_to_ev {steps : List Step} {a : Int} {st : Store} (hl : steps.length ≤ sizeLine) : F_has_to [encSteps steps, .int a] st = .ok (.bl (decide ((steps.filter (isTo a)).length > 0))) st := by
  refine (fn_rt (st' := st) (d := .bl (decide ((steps.filter (isTo a)).length > 0))) ?_).trans swept_same
  simp [b_has_to, -sLc_ev]
  rw [sLc_its Step.enc (isTo a) Step.enc steps (by simp [encSteps]) (by omega) (fun x _ => by cases x <;> simp [Step.enc, isTo, ne1, ne2])]
  simp
end Ap

namespace Ap
open PySem L2 L3
/-- the law's drawer at n, its great cells at m -/
def Aug (n m : Nat) (k : Int) (st : Store) : Prop := ∃ (gs : List Int) (a1 a2 a3 : Int), st[n]? = some (.lst [.ref m, .int a1, .int a2, .int a3]) ∧ st[m]? = some (.lst (gs.map .int)) ∧ n ≠ m ∧
  (0 ≤ a1 ∧ a1 < 2147481659) ∧ (0 ≤ a2 ∧ a2 ≤ k) ∧ (0 ≤ a3 ∧ a3 < 9199) ∧ (∀ g ∈ gs, 0 ≤ g) ∧ gs.length ≤ 100
theorem bore_ok {n m : Nat} {k : Int} {st : Store} {spot many : Int} (A : Aug n m k st) (hk : k ≤ 10 ^ 20) (hs : 0 ≤ spot ∧ spot ≤ 1000) (hm : many ≤ 10 ^ 12) :
    ∃ r st', F_law_bore [.ref n, .int spot, .int many] st = .ok (.int r) st' ∧ Aug n m (k + 1) st' ∧ Upd n m st st' ∧ 0 ≤ r ∧ (r < many ∨ many < 2 ∧ r = 0) := by
  obtain ⟨gs, a1, a2, a3, h1, h2, hne, b1, b2, b3, hg, hgl⟩ := A
  have hmn : m ≠ n := Ne.symm hne
  have hn : n < st.length := (List.getElem?_eq_some_iff.mp h1).1
  have hml : m < st.length := (List.getElem?_eq_some_iff.mp h2).1
  by_cases h : many < 2
  · exact ⟨0, st, (fn_rt (st' := st) (by simp [b_law_bore, h])).trans swept_same, ⟨gs, a1, a2, a3, h1, h2, hne, b1, ⟨b2.1, by omega⟩, b3, hg, hgl⟩, .refl, by omega, .inr ⟨h, rfl⟩⟩
  have st3 : ∀ (x : SO), (st.set n x)[m]? = st[m]? := fun x => List.getElem?_set_ne hne
  have st1 : ∀ (x : SO), (st.set n x)[n]? = some x := fun x => List.getElem?_set_self hn
  have st2 : ∀ (x : SO), (st.set m x)[m]? = some x := fun x => List.getElem?_set_self hml
  have st4 : ∀ (x : SO), (st.set m x)[n]? = st[n]? := fun x => List.getElem?_set_ne hmn
  rcases List.eq_nil_or_concat gs with e | ⟨gi, g, e⟩
  · subst e
    have q1 : (a1 * 3299 + (a2 + 1) * 479 + spot * 379) % 2147481659 < 2147481659 ∧ 0 ≤ (a1 * 3299 + (a2 + 1) * 479 + spot * 379) % 2147481659 := by omega
    generalize hv : (a1 * 3299 + (a2 + 1) * 479 + spot * 379) % 2147481659 = v at q1
    have q2 : (a3 + spot * 433) % 47 < 47 ∧ 0 ≤ (a3 + spot * 433) % 47 := by omega
    generalize hw : (a3 + spot * 433) % 47 = u at q2
    have fin : ∀ r : Int, 0 ≤ r → r < many → b_law_bore [some (.ref n), some (.int spot), some (.int many), none, none] st = .rt (.int r) (st.set n (.lst [.ref m, .int v, .int (a2 + 1), .int a3])) →
        ∃ r st', F_law_bore [D.ref n, D.int spot, D.int many] st = Res.ok (D.int r) st' ∧ Aug n m (k + 1) st' ∧ Upd n m st st' ∧ 0 ≤ r ∧ (r < many ∨ many < 2 ∧ r = 0) := fun r r0 r1 hr =>
      ⟨r, _, (fn_rt hr).trans (swept_len (by simp)), ⟨[], v, a2 + 1, a3, by simp [hn], by rw [st3]; exact h2, hne, by omega, by omega, b3, hg, by simp⟩, .set1, r0, .inl r1⟩
    have m1 := mul_ok (a := a1) (b := 3299) (by omega) (by decide)
    have m2 := mul_ok (a := a2 + 1) (b := 479) (by omega) (by decide)
    have m3 := mul_ok (a := spot) (b := 379) (by omega) (by decide)
    have m4 := mul_ok (a := spot) (b := 433) (by omega) (by decide)
    have m5 := div_ok (b := 367) (by decide) (by decide)
    have hmy : 0 < many := by omega
    by_cases hu : 41 < u
    · have hi : ∃ j : Nat, u - 42 = (j : Int) ∧ j < 5 := ⟨(u - 42).toNat, by omega, by omega⟩
      obtain ⟨j, hj, hj5⟩ := hi
      have ev : ∀ r : Int, L2.atI [D.int 0, D.int (many - 1), D.int (a3 % many), D.int (many - 1), D.int 0] (u - 42) = some (.int r) → b_law_bore [some (.ref n), some (.int spot), some (.int many), none, none] st = .rt (.int r) (st.set n (.lst [.ref m, .int v, .int (a2 + 1), .int a3])) := by
        intro r hr
        simp [b_law_bore, h, h1, h2, bLen, st1, st2, st3, st4, m1, m2, m3, m4, ixN, hv, hw, hu, hmy, hr]
      rw [hj] at ev
      have := Int.emod_nonneg a3 (show many ≠ 0 by omega)
      have := Int.emod_lt_of_pos a3 hmy
      rcases (show j = 0 ∨ j = 1 ∨ j = 2 ∨ j = 3 ∨ j = 4 by omega) with rfl | rfl | rfl | rfl | rfl
      · exact fin 0 (by omega) (by omega) (ev 0 (by simp))
      · exact fin (many - 1) (by omega) (by omega) (ev _ (by simp))
      · exact fin (a3 % many) (by omega) (by omega) (ev _ (by simp))
      · exact fin (many - 1) (by omega) (by omega) (ev _ (by simp))
      · exact fin 0 (by omega) (by omega) (ev 0 rfl)
    · refine fin (v / 367 % many) (Int.emod_nonneg _ (by omega)) (Int.emod_lt_of_pos _ hmy) ?_
      simp [b_law_bore, h, h1, h2, bLen, st1, st2, st3, st4, m1, m2, m3, m4, m5, ixN, hv, hw, hu, hmy]
  · rw [List.concat_eq_append] at e
    subst e
    have g0 : 0 ≤ g := hg g (by simp)
    have hmy : 0 < many := by omega
    have m6 := div_ok (b := many) hmy (by omega)
    have hgs : gi.length < sizeLine := by simp at hgl; have := sizeLine_eq; omega
    have r0 := Int.emod_nonneg g (show many ≠ 0 by omega)
    have r1 := Int.emod_lt_of_pos g hmy
    by_cases hc : many ≤ g
    · refine ⟨g % many, st.set m (.lst ((gi ++ [g / many]).map .int)), (fn_rt (st' := st.set m (.lst ((gi ++ [g / many]).map .int))) (d := .int (g % many)) ?_).trans (swept_len (by simp)),
        ⟨gi ++ [g / many], a1, a2, a3, by rw [List.getElem?_set_ne hmn]; exact h1, by simp [hml], hne, b1, ⟨b2.1, by omega⟩, b3, fun x hx => ?_, by simpa using hgl⟩, .set2, r0, .inl r1⟩
      · simp [b_law_bore, h, h1, h2, bLen, st1, st2, st3, st4, hmy, m6, hc, isLst, mPop, mAppend, hgs]
      · rcases List.mem_append.mp hx with hx | hx
        · exact hg x (by simp [hx])
        · have : x = g / many := by simpa using hx
          rw [this]; exact Int.ediv_nonneg g0 (by omega)
    · refine ⟨g % many, st.set m (.lst (gi.map .int)), (fn_rt (st' := st.set m (.lst (gi.map .int))) (d := .int (g % many)) ?_).trans (swept_len (by simp)),
        ⟨gi, a1, a2, a3, by rw [List.getElem?_set_ne hmn]; exact h1, by simp [hml], hne, b1, ⟨b2.1, by omega⟩, b3, fun x hx => hg x (by simp [hx]), by simp at hgl; omega⟩, .set2, r0, .inl r1⟩
      simp [b_law_bore, h, h1, h2, bLen, st1, st2, st3, st4, hmy, m6, hc, isLst, mPop, mAppend]
end Ap

namespace Ap
open PySem L2 L3
theorem Aug.same {n m : Nat} {k : Int} {a b : Store} (A : Aug n m k a) (h1 : b[n]? = a[n]?) (h2 : b[m]? = a[m]?) : Aug n m k b := by
  obtain ⟨gs, a1, a2, a3, e1, e2, r⟩ := A
  exact ⟨gs, a1, a2, a3, by rw [h1, e1], by rw [h2, e2], r⟩
theorem Aug.push {n m : Nat} {k : Int} {a more : Store} (A : Aug n m k a) : Aug n m k (a ++ more) := by
  obtain ⟨gs, a1, a2, a3, e1, e2, r⟩ := A
  exact ⟨gs, a1, a2, a3, get_push e1, get_push e2, r⟩
theorem Aug.ln {n m : Nat} {k : Int} {a : Store} (A : Aug n m k a) : n < a.length := by
  obtain ⟨gs, a1, a2, a3, e1, e2, r⟩ := A
  exact lt_of_get e1
theorem Aug.lm {n m : Nat} {k : Int} {a : Store} (A : Aug n m k a) : m < a.length := by
  obtain ⟨gs, a1, a2, a3, e1, e2, r⟩ := A
  exact lt_of_get e2
theorem Aug.set {n m i : Nat} {k : Int} {a : Store} {o : SO} (A : Aug n m k a) (h1 : i ≠ n) (h2 : i ≠ m) : Aug n m k (a.set i o) := A.same (List.getElem?_set_ne h1) (List.getElem?_set_ne h2)
theorem Aug.mono {n m : Nat} {k k' : Int} {a : Store} (A : Aug n m k a) (h : k ≤ k') : Aug n m k' a := by
  obtain ⟨gs, a1, a2, a3, e1, e2, ne, b1, b2, r⟩ := A
  exact ⟨gs, a1, a2, a3, e1, e2, ne, b1, ⟨b2.1, by omega⟩, r⟩
theorem wp_sweptA {n m : Nat} {k : Int} {st st1 : Store} {d : D} {Q : D → Store → Prop} (A : Aug n m k st1) (M : Mor n m st st1) (hn : n < st.length) (hm : m < st.length) (hd : d.low 0 = true)
    (h : ∀ st', Aug n m k st' → Upd n m st st' → Q d st') : wp (swept st (.ok d st1)) Q := by
  have A' := A
  obtain ⟨gs, a1, a2, a3, e1, e2, r⟩ := A
  refine wp_swept M (D.low_mono (Nat.zero_le _) d hd) (fun o ho => ?_) (fun o ho => ?_) fun st' U h1 h2 => h st' (A'.same (h1 hn) (h2 hm)) U
  · rw [e1] at ho; cases ho
    show D.lows _ _ = true
    simp [hm]
  · rw [e2] at ho; cases ho
    exact lows_ints gs
theorem bore_wp {n m : Nat} {k : Int} {st : Store} {spot many : Int} {Q : D → Store → Prop} (A : Aug n m k st) (hk : k ≤ 10 ^ 20) (hs : 0 ≤ spot ∧ spot ≤ 1000) (hm : many ≤ 10 ^ 12)
    (h : ∀ r st', Aug n m (k + 1) st' → Upd n m st st' → 0 ≤ r → (r < many ∨ many < 2 ∧ r = 0) → Q (.int r) st') : wp (F_law_bore [.ref n, .int spot, .int many] st) Q := by
  obtain ⟨r, st', e, A', U, p, q⟩ := bore_ok A hk hs hm
  exact wp_of_eq e (h r st' A' U p q)
theorem way_wp {n m : Nat} {k : Int} {st : Store} {scale : Int} {Q : D → Store → Prop} (A : Aug n m k st) (hk : k ≤ 10 ^ 19) (hs : 1 ≤ scale ∧ scale ≤ 10 ^ 8)
    (h : ∀ w st', Aug n m (k + 3) st' → Upd n m st st' → -(10 ^ 10) ≤ w ∧ w ≤ 10 ^ 10 → Q (.int w) st') : wp (F_law_way [.ref n, .int scale] st) Q := by
  refine wp_fn ?_
  simp [b_law_way]
  refine bore_wp A (by omega) (by omega) (by omega) fun r1 s1 A1 U1 p1 q1 => ?_
  have m1 := mul_ok (a := 1 + r1) (b := scale) (by omega) (by omega)
  have l1 : (1 + r1) * scale ≤ 9 * scale := Int.mul_le_mul_of_nonneg_right (by omega) (by omega)
  have l0 : 0 ≤ (1 + r1) * scale := Int.mul_nonneg (by omega) (by omega)
  generalize hx : (1 + r1) * scale = x at l1 l0
  by_cases hg : 1 < scale
  · simp [hg, m1, hx]
    refine bore_wp A1 (by omega) (by omega) (by omega) fun r2 s2 A2 U2 p2 q2 => ?_
    have : ∃ y : Int, L2.atI [D.int 0, D.int 0, D.int 1, D.int scale] r2 = some (.int y) ∧ 0 ≤ y ∧ y ≤ scale := by
      rcases (show r2 = 0 ∨ r2 = 1 ∨ r2 = 2 ∨ r2 = 3 by omega) with rfl | rfl | rfl | rfl
      · exact ⟨0, rfl, by omega, by omega⟩
      · exact ⟨0, rfl, by omega, by omega⟩
      · exact ⟨1, rfl, by omega, by omega⟩
      · exact ⟨scale, rfl, by omega, by omega⟩
    obtain ⟨y, hy, y0, y1⟩ := this
    simp [hy]
    refine bore_wp A2 (by omega) (by omega) (by omega) fun r3 s3 A3 U3 p3 q3 => ?_
    have hq := h (if r3 = 0 then x + y else 0 - (x + y)) s3 (A3.mono (by omega)) (U1.trans (U2.trans U3)) (by split <;> omega)
    by_cases hz : r3 = 0
    · rw [if_pos hz] at hq
      simpa [hz, swept_len (U1.trans (U2.trans U3)).len] using hq
    · rw [if_neg hz] at hq
      simpa [hz, swept_len (U1.trans (U2.trans U3)).len] using hq
  · simp [hg]
    refine bore_wp A1 (by omega) (by omega) (by omega) fun r3 s3 A3 U3 p3 q3 => ?_
    have hq := h (if r3 = 0 then 1 + r1 else 0 - (1 + r1)) s3 (A3.mono (by omega)) (U1.trans U3) (by split <;> omega)
    by_cases hz : r3 = 0
    · rw [if_pos hz] at hq
      simpa [hz, swept_len (U1.trans U3).len] using hq
    · rw [if_neg hz] at hq
      simpa [hz, swept_len (U1.trans U3).len] using hq
end Ap

namespace Ap
open PySem L2 L3
def Step.ok : Step → Prop
  | .to _ p => -(10 ^ 10) ≤ p ∧ p ≤ 10 ^ 10
  | .by _ w => -(10 ^ 10) ≤ w ∧ w ≤ 10 ^ 10
  | .cut _ => True
theorem Step.low (x : Step) : x.enc.low 0 = true := by cases x <;> rfl
theorem encSteps_low (x : List Step) : (encSteps x).low 0 = true := lows_map Step.low x
def StI (n m : Nat) (k : Int) (st : Store) (axes scale : Int) (ys : List Nat) (ρ : Envr) (s : Store) : Prop := ∃ (l a kd : Option D) (told : List Step), ρ = [some (.ref n), some (.int axes), some (.int scale), some (.bl true), some (.ref st.length), l, a, kd, none] ∧ s[st.length]? = some (.lst (told.map Step.enc)) ∧ s.length = st.length + 1 ∧ Mor n m st s ∧ Aug n m (k + 81 - 20 * ys.length) s ∧ (∀ x ∈ told, x.ok) ∧ told.length + ys.length ≤ 4
theorem steps_wp {n m : Nat} {k : Int} {st : Store} {axes scale : Int} {Q : D → Store → Prop} (A : Aug n m k st) (hk : k ≤ 10 ^ 18) (ha : axes ≤ 3) (hs : 1 ≤ scale ∧ scale ≤ 10 ^ 8)
    (h : ∀ steps st', Aug n m (k + 100) st' → Upd n m st st' → (∀ s ∈ steps, s.ok) → steps.length ≤ 6 → Q (encSteps steps) st') : wp (F_law_steps [.ref n, .int axes, .int scale, .bl true] st) Q := by
  refine wp_fn ?_
  have hn := A.ln
  have hm := A.lm
  simp [b_law_steps]
  refine bore_wp A.push (by omega) (by omega) (by omega) fun r1 s1 A1 U1 p1 q1 => ?_
  have hL : s1[st.length]? = some (.lst []) := by rw [U1.at_ _ (by omega) (by omega)]; simp
  have hl : s1.length = st.length + 1 := by rw [U1.len]; simp
  have M1 : Mor n m st s1 := Mor.push.trans U1.mor
  have hr : (1 + r1).toNat ≤ 4 := by omega
  simp [show -4611686018427387904 ≤ 1 + r1 ∧ 1 + r1 < 4611686018427387904 by omega, rangeD_zero]
  generalize (1 + r1).toNat = c at hr
  refine wp_for (StI n m k st axes scale) ?_ ?_ ?_
  · exact ⟨none, none, none, [], rfl, hL, hl, M1, A1.mono (by simp; omega), by simp, by simpa using hr⟩
  · rintro ρ s ⟨l, a, kd, told, rfl, h1, h2, M, A2, ok, tl⟩
    simp at tl
    refine ⟨trivial, ?_⟩
    simp
    refine bore_wp A2 (by simp; omega) (by omega) (by omega) fun r2 s2 A2 U2 p2 q2 => ?_
    have h3 : s2[st.length]? = some (.lst (told.map Step.enc)) := by rw [U2.at_ _ (by omega) (by omega), h1]
    by_cases hz : r2 = 0
    · simp [hz]
      refine way_wp A2 (by simp; omega) hs fun w s3 A3 U3 hw => ?_
      have h4 : s3[st.length]? = some (.lst (told.map Step.enc)) := by rw [U3.at_ _ (by omega) (by omega), h3]
      rw [vAdd_lst (xs := [.tup [.str "by", .int 0, .int w]]) (ys := told.map Step.enc) (by simp) (get_push h4) (by simp; omega)]
      simp
      rw [vAdd_lst (xs := [.tup [.str "by", .int 0, .int w]] ++ told.map Step.enc) (ys := [.tup [.str "by", .int 0, .int (-w)]]) (by simp) (by simp) (by simp; omega)]
      simp
      rw [bTuple_ref (xs := ([Step.by 0 w] ++ told ++ [Step.by 0 (-w)]).map Step.enc) (by simp [Step.enc])]
      simp only [bind_ok', thn_ok', wp_ok, wps_rt]
      refine wp_sweptA A3.push ((M.trans U2.mor).trans (U3.mor.trans .push)) hn hm (encSteps_low _) fun st' A' U' => h _ st' (A'.mono (by simp; omega)) U' (fun s hs => ?_) (by simp; omega)
      simp only [List.mem_append, List.mem_singleton] at hs
      rcases hs with (rfl | hs) | rfl
      · exact hw
      · exact ok _ hs
      · simp only [Step.ok]; omega
    · simp [hz, bTuple_ref h3]
      exact wp_sweptA A2 (M.trans U2.mor) hn hm (encSteps_low _) fun st' A' U' => h _ st' (A'.mono (by simp; omega)) U' ok (by omega)
  · rintro x ys ρ s hx ⟨l, a, kd, told, rfl, h1, h2, M, A2, ok, tl⟩
    refine ⟨trivial, _, rfl, ?_⟩
    simp at tl
    simp
    refine bore_wp A2 (by simp; omega) (by omega) (by omega) fun r2 s2 A2 U2 p2 q2 => ?_
    refine bore_wp A2 (by simp; omega) (by omega) (by omega) fun r3 s3 A3 U3 p3 q3 => ?_
    have h3 : s3[st.length]? = some (.lst (told.map Step.enc)) := by rw [U3.at_ _ (by omega) (by omega), U2.at_ _ (by omega) (by omega), h1]
    have M3 := (M.trans U2.mor).trans U3.mor
    have l3 : s3.length = st.length + 1 := by rw [U3.len, U2.len, h2]
    have put : ∀ (y : Step) (j : Int) (s4 : Store), y.ok → Aug n m (k + 81 - 20 * (ys.length + 1 : Int) + 2 + j) s4 → Upd n m s3 s4 → j ≤ 18 → ∀ (l a kd : Option D), wp (mAppend st.length [y.enc] s4) fun a_1 st_1 => StI n m k st axes scale ys [some (D.ref n), some (D.int axes), some (D.int scale), some (D.bl true), some (D.ref st.length), l, a, kd, none] st_1 := by
      intro y j s4 yo A4 U4 hj l a kd
      have h4 : s4[st.length]? = some (.lst (told.map Step.enc)) := by rw [U4.at_ _ (by omega) (by omega), h3]
      have l4 : s4.length = st.length + 1 := by rw [U4.len, l3]
      rw [mAppend_ev h4 (by simp; omega)]
      refine ⟨l, a, kd, told ++ [y], rfl, ?_, by simpa using l4, (M3.trans U4.mor).set (Nat.le_refl _), (A4.set (by omega) (by omega)).mono (by omega), ?_, by simp; omega⟩
      · rw [List.getElem?_set_self (by omega)]; simp
      · intro x hx
        rcases List.mem_append.mp hx with hx | hx
        · exact ok x hx
        · rw [List.mem_singleton.mp hx]; exact yo
    by_cases hz : r3 = 0
    · simp [hz, isLst_of h3]
      refine bore_wp A3 (by simp; omega) (by omega) (by omega) fun r4 s4 A4 U4 p4 q4 => ?_
      rcases (show r4 = 0 ∨ r4 = 1 ∨ r4 = 2 by omega) with rfl | rfl | rfl
      · simp; exact put (.cut _) 1 s4 trivial (A4.mono (by simp; omega)) U4 (by omega) _ _ _
      · simp; exact put (.cut _) 1 s4 trivial (A4.mono (by simp; omega)) U4 (by omega) _ _ _
      · simp; exact put (.cut _) 1 s4 trivial (A4.mono (by simp; omega)) U4 (by omega) _ _ _
    · by_cases ho : r3 = 1
      · simp [hz, ho, isLst_of h3]
        refine bore_wp A3 (by simp; omega) (by omega) (by omega) fun r4 s4 A4 U4 p4 q4 => ?_
        obtain ⟨y, hy, y0, y1⟩ : ∃ y : Int, L2.atI [D.int 0, D.int 1, D.int 7, D.int (-3)] r4 = some (.int y) ∧ -3 ≤ y ∧ y ≤ 7 := by
          rcases (show r4 = 0 ∨ r4 = 1 ∨ r4 = 2 ∨ r4 = 3 by omega) with rfl | rfl | rfl | rfl
          · exact ⟨0, rfl, by omega, by omega⟩
          · exact ⟨1, rfl, by omega, by omega⟩
          · exact ⟨7, rfl, by omega, by omega⟩
          · exact ⟨-3, rfl, by omega, by omega⟩
        have l1 : y * scale ≤ 7 * scale := Int.mul_le_mul_of_nonneg_right (by omega) (by omega)
        have l0 : -3 * scale ≤ y * scale := Int.mul_le_mul_of_nonneg_right (by omega) (by omega)
        simp [hy, mul_ok (a := y) (b := scale) (by omega) (by omega)]
        refine bore_wp A4 (by simp; omega) (by omega) (by omega) fun r5 s5 A5 U5 p5 q5 => ?_
        simp
        exact put (.to r2 (y * scale + r5)) 2 s5 (by simp only [Step.ok]; omega) (A5.mono (by simp; omega)) (U4.trans U5) (by omega) _ _ _
      · simp [hz, ho, isLst_of h3]
        refine way_wp A3 (by simp; omega) hs fun w s4 A4 U4 hw => ?_
        exact put (.by r2 w) 3 s4 hw (A4.mono (by simp; omega)) U4 (by omega) _ _ _
end Ap

namespace Ap
open PySem L2 L3
structure Code where
  bounds : List (Str × Int)
  segs : List (Str × List Step)
def encB (b : Str × Int) : D := .tup [.str b.1, .int b.2]
def encS (s : Str × List Step) : D := .tup [.str s.1, encSteps s.2]
def encSegs (s : List (Str × List Step)) : D := .tup (s.map encS)
def Code.enc (c : Code) : D := .tup [.tup (c.bounds.map encB), encSegs c.segs]
def driftP (steps : List Step) (a : Int) : Int := if 0 < (steps.filter (isTo a)).length then 0 else ((steps.filter (isBy a)).map wayOf).sum
theorem seg_at {segs : List (Str × List Step)} {i : Nat} {s : Str × List Step} (h : segs[i]? = some s) : (segs.map encS)[i]? = some (.tup [.str s.1, encSteps s.2]) := by simp [h, encS]
theorem sum_by {steps : List Step} {a : Int} : (steps.filter (isBy a)).map (fun x => D.int (wayOf x)) = ((steps.filter (isBy a)).map wayOf).map D.int := by simp
theorem drift_of_ev {c : Code} {i : Nat} {a : Int} {st : Store} {s : Str × List Step} (h : c.segs[i]? = some s) (hl : s.2.length ≤ 1000) : F_drift_of [c.enc, .int i, .int a] st = .ok (.int (driftP s.2 a)) st := by
  have hz : s.2.length ≤ sizeLine := by have := sizeLine_eq; omega
  refine (fn_rt (st' := st) (d := .int (driftP s.2 a)) ?_).trans swept_same
  by_cases hb : 0 < (s.2.filter (isTo a)).length
  · have hb' : ∃ x, x ∈ s.2 ∧ isTo a x = true := by simpa using hb
    rw [driftP, if_pos hb]
    simp [b_drift_of, Code.enc, encSegs, seg_at h, has_to_ev hz, -sLc_ev, hb']
  · have hb' : ¬ ∃ x, x ∈ s.2 ∧ isTo a x = true := by simpa using hb
    rw [driftP, if_neg hb]
    simp only [b_drift_of, Code.enc, encSegs]
    simp [seg_at h, has_to_ev hz, -sLc_ev, hb', -not_exists]
    rw [sLc_its Step.enc (isBy a) (fun x => .int (wayOf x)) s.2 (by simp [encSteps]) hz (fun x _ => by cases x <;> simp [Step.enc, isBy, ne3, ne4, wayOf])]
    simp only [sum_by, bind_ok', bSum_push]
    simp
theorem law_drift_ev {steps : List Step} {a : Int} {st : Store} (hl : steps.length ≤ 1000) : F_law_drift [encSteps steps, .int a] st = .ok (.int (driftP steps a)) st := by
  have hz : steps.length ≤ sizeLine := by have := sizeLine_eq; omega
  refine (fn_rt (st' := st) (d := .int (driftP steps a)) ?_).trans swept_same
  simp [b_law_drift, -sLc_ev]
  rw [sLc_its Step.enc (isTo a) (fun _ => .int 1) steps (by simp [encSteps]) hz (fun x _ => by cases x <;> simp [Step.enc, isTo, ne1, ne2])]
  by_cases hb : 0 < (steps.filter (isTo a)).length
  · have hb' : ∃ x, x ∈ steps ∧ isTo a x = true := by simpa using hb
    rw [driftP, if_pos hb]
    simp [-sLc_ev, hb']
  · have hb' : ¬ ∃ x, x ∈ steps ∧ isTo a x = true := by simpa using hb
    rw [driftP, if_neg hb]
    simp [-sLc_ev, hb', -not_exists]
    rw [sLc_its Step.enc (isBy a) (fun x => .int (wayOf x)) steps (by simp [encSteps]) hz (fun x _ => by cases x <;> simp [Step.enc, isBy, ne3, ne4, wayOf])]
    simp only [sum_by, bind_ok', bSum_push]
    simp
def farS (a : Int) (late : Bool) : List Step → Int → Int ⊕ Int
  | [], p => .inr p
  | .to b q :: r, p => if b = a then (if late then .inl (q - p).natAbs else farS a late r q) else farS a late r p
  | .by b w :: r, p => if b = a then farS a late r (p + w) else farS a late r p
  | .cut _ :: r, p => farS a late r p
def farG (a : Int) (seg : Nat) : Nat → List (Str × List Step) → Int → Int
  | _, [], _ => 0
  | i, s :: r, p => match farS a (decide (seg < i)) s.2 p with
    | .inl v => v
    | .inr p => farG a seg (i + 1) r p
def farK (a : Int) (seg i : Nat) (r : List (Str × List Step)) : Int ⊕ Int → Int
  | .inl v => v
  | .inr p => farG a seg i r p
theorem farG_cons {a : Int} {seg i : Nat} {s : Str × List Step} {r : List (Str × List Step)} {p : Int} : farG a seg i (s :: r) p = farK a seg (i + 1) r (farS a (decide (seg < i)) s.2 p) := by
  simp only [farG]; split <;> simp only [*, farK]
def FoI (c : Code) (seg : Nat) (a V : Int) (st : Store) (i : Nat) (ρ : Envr) (s : Store) : Prop := s = st ∧ ∃ (p : Int) (l1 l2 : Option D), ρ = [some c.enc, some (.int seg), some (.int a), some (.int p), l1, l2] ∧ farG a seg i (c.segs.drop i) p = V
def FiI (c : Code) (seg : Nat) (a V : Int) (st : Store) (i : Nat) (ys : List Step) (ρ : Envr) (s : Store) : Prop := s = st ∧ ∃ (p : Int) (l2 : Option D), ρ = [some c.enc, some (.int seg), some (.int a), some (.int p), some (.int i), l2] ∧ farK a seg (i + 1) (c.segs.drop (i + 1)) (farS a (decide (seg < i)) ys p) = V
theorem far_of_ev {c : Code} {seg : Nat} {a : Int} {st : Store} (hl : c.segs.length ≤ 1000) : F_far_of [c.enc, .int seg, .int a] st = .ok (.int (farG a seg 0 c.segs 0)) st := by
  refine fn_eq ?_
  simp [b_far_of]
  simp [Code.enc, encSegs]
  refine ⟨by omega, ?_⟩
  rw [rangeD_zero]
  generalize hV : farG a seg 0 c.segs 0 = V
  refine wp_forR (FoI c seg a V st) ?_ ?_ ?_
  · exact ⟨rfl, 0, none, none, rfl, hV⟩
  · rintro ρ s ⟨rfl, p, l1, l2, rfl, h⟩
    rw [List.drop_length] at h
    simp [← h, farG]
  · rintro i ρ s hi ⟨rfl, p, l1, l2, rfl, h⟩
    refine ⟨_, rfl, ?_⟩
    have hs : c.segs[i]? = some c.segs[i] := by simp
    rw [List.drop_eq_getElem_cons hi, farG_cons] at h
    simp [Code.enc, encSegs, seg_at hs, encSteps]
    refine wp_for (FiI c seg a V s i) ⟨rfl, p, l2, rfl, h⟩ ?_ ?_
    · rintro ρ s ⟨rfl, p, l2, rfl, h⟩
      exact ⟨trivial, rfl, p, _, _, rfl, h⟩
    · rintro x ys ρ s _ ⟨rfl, p, l2, rfl, h⟩
      refine ⟨trivial, _, rfl, ?_⟩
      cases x with
      | to b q =>
        rw [farS] at h
        by_cases hb : b = a
        · rw [if_pos hb] at h
          by_cases hl : seg < i
          · simp [hl, farK] at h
            simp [Step.enc, hb, hl, h]
          · simp [hl] at h
            simp [Step.enc, hb, hl]
            exact ⟨rfl, q, _, rfl, by simpa [hl] using h⟩
        · rw [if_neg hb] at h
          simp [Step.enc, hb, ne3]
          exact ⟨rfl, p, _, rfl, h⟩
      | «by» b w =>
        rw [farS] at h
        by_cases hb : b = a
        · rw [if_pos hb] at h
          simp [Step.enc, hb, ne1]
          exact ⟨rfl, p + w, _, rfl, h⟩
        · rw [if_neg hb] at h
          simp [Step.enc, hb, ne1]
          exact ⟨rfl, p, _, rfl, h⟩
      | cut z =>
        rw [farS] at h
        simp [Step.enc, ne2, ne4]
        exact ⟨rfl, p, _, rfl, h⟩
def LoI (c : Code) (seg : Nat) (a V : Int) (st : Store) (i : Nat) (ρ : Envr) (s : Store) : Prop := s = st ∧ ∃ (p : Int) (l0 l1 l2 : Option D), ρ = [some (encSegs c.segs), some (.int seg), some (.int a), some (.int p), l0, l1, l2] ∧ farG a seg i (c.segs.drop i) p = V
def LiI (c : Code) (seg : Nat) (a V : Int) (st : Store) (i : Nat) (ys : List Step) (ρ : Envr) (s : Store) : Prop := s = st ∧ ∃ (p : Int) (l0 l2 : Option D), ρ = [some (encSegs c.segs), some (.int seg), some (.int a), some (.int p), l0, some (.int i), l2] ∧ farK a seg (i + 1) (c.segs.drop (i + 1)) (farS a (decide (seg < i)) ys p) = V
theorem law_far_ev {c : Code} {seg : Nat} {a : Int} {st : Store} (hl : c.segs.length ≤ 1000) : F_law_far [encSegs c.segs, .int seg, .int a] st = .ok (.int (farG a seg 0 c.segs 0)) st := by
  refine fn_eq ?_
  simp [b_law_far]
  simp [encSegs]
  refine ⟨by omega, ?_⟩
  rw [rangeD_zero]
  generalize hV : farG a seg 0 c.segs 0 = V
  refine wp_forR (LoI c seg a V st) ?_ ?_ ?_
  · exact ⟨rfl, 0, _, none, none, rfl, hV⟩
  · rintro ρ s ⟨rfl, p, l0, l1, l2, rfl, h⟩
    rw [List.drop_length] at h
    simp [← h, farG]
  · rintro i ρ s hi ⟨rfl, p, l0, l1, l2, rfl, h⟩
    refine ⟨_, rfl, ?_⟩
    have hs : c.segs[i]? = some c.segs[i] := by simp
    rw [List.drop_eq_getElem_cons hi, farG_cons] at h
    simp [encSegs, seg_at hs, encSteps]
    refine wp_for (LiI c seg a V s i) ⟨rfl, p, l0, l2, rfl, h⟩ ?_ ?_
    · rintro ρ s ⟨rfl, p, l0, l2, rfl, h⟩
      exact ⟨trivial, rfl, p, _, _, _, rfl, h⟩
    · rintro x ys ρ s _ ⟨rfl, p, l0, l2, rfl, h⟩
      refine ⟨trivial, _, rfl, ?_⟩
      cases x with
      | to b q =>
        rw [farS] at h
        by_cases hb : b = a
        · rw [if_pos hb] at h
          by_cases hl : seg < i
          · simp [hl, farK] at h
            simp [Step.enc, hb, hl, ne3, ← h]
            omega
          · simp [hl] at h
            simp [Step.enc, hb, hl, ne3]
            exact ⟨rfl, q, _, _, rfl, by simpa [hl] using h⟩
        · rw [if_neg hb] at h
          simp [Step.enc, hb, ne3]
          exact ⟨rfl, p, _, _, rfl, h⟩
      | «by» b w =>
        rw [farS] at h
        by_cases hb : b = a
        · rw [if_pos hb] at h
          simp [Step.enc, hb, ne1]
          exact ⟨rfl, p + w, _, _, rfl, h⟩
        · rw [if_neg hb] at h
          simp [Step.enc, hb, ne1]
          exact ⟨rfl, p, _, _, rfl, h⟩
      | cut z =>
        rw [farS] at h
        simp [Step.enc, ne2, ne4]
        exact ⟨rfl, p, _, _, rfl, h⟩
end Ap

namespace Ap
open PySem L2 L3
structure Code.OK (c : Code) : Prop where
  segs : c.segs.length ≤ 1000
  bounds : c.bounds.length ≤ 1000
  steps : ∀ s ∈ c.segs, s.2.length ≤ 1000 ∧ ∀ x ∈ s.2, x.ok
theorem sum_bd : ∀ l : List Step, (∀ x ∈ l, x.ok) → -(10 ^ 10) * (l.length : Int) ≤ (l.map wayOf).sum ∧ (l.map wayOf).sum ≤ 10 ^ 10 * (l.length : Int)
  | [], _ => by simp
  | x :: l, h => by
    have ih := sum_bd l fun y hy => h y (by simp [hy])
    have hx := h x (by simp)
    have : -(10 ^ 10) ≤ wayOf x ∧ wayOf x ≤ 10 ^ 10 := by cases x <;> simp_all [Step.ok, wayOf]
    simp only [List.map_cons, List.sum_cons, List.length_cons]
    omega
theorem drift_bd {steps : List Step} {a : Int} (h : ∀ x ∈ steps, x.ok) (hl : steps.length ≤ 1000) : -(10 ^ 13) ≤ driftP steps a ∧ driftP steps a ≤ 10 ^ 13 := by
  unfold driftP
  split
  · omega
  · have h1 := sum_bd (steps.filter (isBy a)) fun x hx => h x (List.mem_filter.mp hx).1
    have h2 := List.length_filter_le (isBy a) steps
    omega
def boundP (c : Code) (k : Nat) : Int := ((c.bounds[k]?).map (·.2)).getD 0
def toldA (c : Code) (i : Nat) (s : List Step) (t : Int) (k : Nat) : Int :=
  if 0 < (driftP s k).natAbs then max t (2 + (boundP c k + farG k i 0 c.segs 0 + (driftP s k).natAbs - 1) / (driftP s k).natAbs) else t
def toldP (c : Code) (i : Nat) (s : List Step) : Int := (List.range c.bounds.length).foldl (toldA c i s) 3
def anyP (c : Code) (i : Nat) : Bool := decide ((c.segs[i]?).map (·.1) = some "any")
def toldAt (c : Code) (i : Nat) : Int := toldP c i (((c.segs[i]?).map (·.2)).getD [])
def roundsP (c : Code) : List Int := ((List.range c.segs.length).filter (anyP c)).map (toldAt c)
theorem bounds_of_ev {c : Code} {st : Store} (hc : c.OK) : F_bounds_of [c.enc] st = .ok (.tup (c.bounds.map fun b => .int b.2)) st := by
  refine (fn_rt (st' := st) (d := .tup (c.bounds.map fun b => .int b.2)) ?_).trans swept_same
  simp [b_bounds_of, -sLc_ev]
  rw [sLc_itsA encB (fun b => .int b.2) c.bounds (by simp [Code.enc]) (by have := sizeLine_eq; have := hc.bounds; omega) (fun x _ => by simp [encB])]
  simp
theorem bound_at {c : Code} {k : Nat} (h : k < c.bounds.length) : (c.bounds.map fun b => D.int b.2)[k]? = some (.int (boundP c k)) := by
  simp [boundP, h]
def ToI (c : Code) (i : Nat) (s : List Step) (st : Store) (k : Nat) (ρ : Envr) (s' : Store) : Prop := s' = st ∧ ∃ l1 l2 : Option D, ρ = [some c.enc, some (.int i), some (.int ((List.range k).foldl (toldA c i s) 3)), some (.tup (c.bounds.map fun b => .int b.2)), l1, l2]
theorem told_of_ev {c : Code} {i : Nat} {st : Store} {s : Str × List Step} (h : c.segs[i]? = some s) (hc : c.OK) : F_told_of [c.enc, .int i] st = .ok (.int (toldP c i s.2)) st := by
  have hb := hc.bounds
  have hs := hc.steps s (List.mem_of_getElem? h)
  refine fn_eq ?_
  simp [b_told_of, bounds_of_ev hc]
  refine ⟨by omega, ?_⟩
  rw [rangeD_zero]
  refine wp_forR (ToI c i s.2 st) ⟨rfl, _, _, rfl⟩ ?_ ?_
  · rintro ρ s' ⟨rfl, l1, l2, rfl⟩
    simp [toldP]
  · rintro k ρ s' hk ⟨rfl, l1, l2, rfl⟩
    refine ⟨_, rfl, ?_⟩
    have hd := drift_bd (a := k) hs.2 hs.1
    simp [drift_of_ev h hs.1, far_of_ev hc.segs, bound_at hk]
    by_cases hz : driftP s.2 k = 0
    · simp [hz]
      exact ⟨rfl, _, _, by rw [List.range_succ, List.foldl_append]; simp only [List.foldl_cons, List.foldl_nil, toldA]; simp only [hz]; rfl⟩
    · simp [hz, div_ok (b := ((driftP s.2 k).natAbs : Int)) (by omega) (by omega)]
      exact ⟨rfl, _, _, by rw [List.range_succ, List.foldl_append]; simp only [List.foldl_cons, List.foldl_nil]; rw [toldA, if_pos (by omega)]⟩
theorem any_segments_ev {c : Code} {st : Store} (hc : c.OK) : F_any_segments [c.enc] st = .ok (.ref st.length) (st ++ [.lst (((List.range c.segs.length).filter (anyP c)).map ofN)]) := by
  have hb := hc.segs
  refine (fn_rt (st' := st ++ [.lst (((List.range c.segs.length).filter (anyP c)).map ofN)]) (d := .ref st.length) ?_).trans swept_new
  simp [b_any_segments, -sLc_ev]
  rw [sLc_its ofN (anyP c) ofN (List.range c.segs.length) (by simp [Code.enc, encSegs, rangeD_zero]; omega) (by have := sizeLine_eq; simp; omega) (fun x hx => by
    have hx' : x < c.segs.length := by simpa using hx
    have hs : c.segs[x]? = some c.segs[x] := by simp
    simp [Code.enc, encSegs, seg_at hs, ofN, anyP, hs])]
  simp
theorem told_rounds_ev {c : Code} {st : Store} (hc : c.OK) : F_told_rounds [c.enc] st = .ok (.tup ((roundsP c).map D.int)) st := by
  have hb := hc.segs
  refine (fn_rt (st' := st) (d := .tup ((roundsP c).map D.int)) ?_).trans swept_same
  simp [b_told_rounds, -sLc_ev]
  rw [sLc_all ofN (fun i => .int (toldAt c i)) ((List.range c.segs.length).filter (anyP c)) (src := .lst st.length (((List.range c.segs.length).filter (anyP c)).map ofN)) (by simp [any_segments_ev hc, srcOf]; rfl) rfl (by simp) (fun x hx => by
    have hx' : x < c.segs.length := by simpa using (List.mem_filter.mp hx).1
    have hs : c.segs[x]? = some c.segs[x] := by simp
    simp [ofN, told_of_ev hs hc, toldAt, hs]) (by
      have h1 := List.length_filter_le (anyP c) (List.range c.segs.length)
      rw [List.length_range] at h1
      have := sizeLine_eq; omega)]
  simp [roundsP, bTuple, seqOf]
def RoI (c : Code) (i : Nat) (s : List Step) (s0 : Store) (ro : Option D) (k : Nat) (ρ : Envr) (s' : Store) : Prop := s' = s0 ∧ ∃ l1 l2 l3 : Option D, ρ = [some c.enc, some (.tup (c.bounds.map encB)), some (encSegs c.segs), ro, some (.int i), some (.int ((List.range k).foldl (toldA c i s) 3)), l1, l2, l3]
def RuI (c : Code) (st : Store) (i : Nat) (ρ : Envr) (s' : Store) : Prop := s' = st ++ [.lst (((List.range i).filter (anyP c)).map fun k => .int (toldAt c k))] ∧ ∃ l4 l5 l6 l7 l8 : Option D, ρ = [some c.enc, some (.tup (c.bounds.map encB)), some (encSegs c.segs), some (.ref st.length), l4, l5, l6, l7, l8]
theorem law_rounds_ev {c : Code} {st : Store} (hc : c.OK) : F_law_rounds [c.enc] st = .ok (.tup ((roundsP c).map D.int)) st := by
  have hb := hc.segs
  have hbb := hc.bounds
  refine fn_eq ?_
  simp [b_law_rounds, Code.enc, encSegs]
  refine ⟨by omega, ?_⟩
  rw [rangeD_zero]
  refine wp_forR (RuI c st) ⟨by simp, none, none, none, none, none, by simp [Code.enc, encSegs]⟩ ?_ ?_
  · rintro ρ s' ⟨rfl, l4, l5, l6, l7, l8, rfl⟩
    simp [roundsP, bTuple, seqOf]
  · rintro i ρ s' hi ⟨rfl, l4, l5, l6, l7, l8, rfl⟩
    refine ⟨_, rfl, ?_⟩
    have hs : c.segs[i]? = some c.segs[i] := by simp
    have hss := hc.steps c.segs[i] (by simp)
    simp [encSegs, seg_at hs]
    by_cases ha : c.segs[i].1 = "any"
    · simp [ha]
      refine ⟨by omega, ?_⟩
      rw [rangeD_zero]
      refine wp_forR (RoI c i c.segs[i].2 (st ++ [.lst (((List.range i).filter (anyP c)).map fun k => .int (toldAt c k))]) (some (.ref st.length))) ⟨rfl, _, _, _, rfl⟩ ?_ ?_
      · rintro ρ s' ⟨rfl, l1, l2, l3, rfl⟩
        simp [isLst]
        rw [mAppend_ev (xs := (((List.range i).filter (anyP c)).map fun k => .int (toldAt c k))) (by simp) (by
          have h1 := List.length_filter_le (anyP c) (List.range i)
          rw [List.length_range] at h1
          simp; omega)]
        simp
        refine ⟨?_, _, _, _, _, _, rfl⟩
        have : anyP c i = true := by simp [anyP, hs, ha]
        simp [List.range_succ, List.filter_append, this, toldAt, hs, toldP]
      · rintro k ρ s' hk ⟨rfl, l1, l2, l3, rfl⟩
        refine ⟨_, rfl, ?_⟩
        have hd := drift_bd (a := k) hss.2 hss.1
        simp [encSegs, seg_at hs, law_drift_ev hss.1]
        by_cases hz : driftP c.segs[i].2 k = 0
        · simp [hz]
          exact ⟨rfl, _, _, _, by rw [List.range_succ, List.foldl_append]; simp only [List.foldl_cons, List.foldl_nil, toldA]; simp only [hz]; rfl⟩
        · have hkb : c.bounds[k]? = some c.bounds[k] := by simp [hk]
          have hbp : boundP c k = c.bounds[k].2 := by simp [boundP, hk]
          have hf : ∀ s, F_law_far [.tup (c.segs.map encS), .int i, .int k] s = .ok (.int (farG k i 0 c.segs 0)) s := fun s => law_far_ev hc.segs
          simp [hz, hkb, encB, hf, div_ok (b := ((driftP c.segs[i].2 k).natAbs : Int)) (by omega) (by omega)]
          exact ⟨rfl, _, _, _, by rw [List.range_succ, List.foldl_append]; simp only [List.foldl_cons, List.foldl_nil]; rw [toldA, if_pos (by omega), hbp]; rfl⟩
    · simp [ha]
      have : anyP c i = false := by simp [anyP, hs, ha]
      exact ⟨by simp [List.range_succ, List.filter_append, this], _, _, _, _, _, rfl⟩
theorem same_int {n : Nat} {i : Int} {st : Store} : F_law_same (n + 1) [.int i, .int i] st = .ok (.bl true) st := by
  refine (fn_rt (st' := st) (d := .bl true) ?_).trans swept_same
  simp [b_law_same, kit_1, kit_16, kit_6]
theorem same_tup {n : Nat} {xs : List Int} {st : Store} (hl : xs.length ≤ 1000) : F_law_same (n + 2) [.tup (xs.map .int), .tup (xs.map .int)] st = .ok (.bl true) st := by
  refine (fn_rt (st' := st) (d := .bl true) ?_).trans swept_same
  simp [b_law_same, kit_19, -sLc_ev]
  rw [sLc_its ofN (fun _ => false) ofN (List.range xs.length) (by simp [rangeD_zero]; omega) (by have := sizeLine_eq; simp; omega) (fun x hx => by
    have hx' : x < xs.length := by simpa using hx
    simp [ofN, hx', same_int])]
  simp
end Ap

namespace Ap
open PySem L2 L3
def SegsOK (s : List (Str × List Step)) : Prop := ∀ x ∈ s, x.2.length ≤ 10 ∧ ∀ y ∈ x.2, y.ok
def BaI (segs : List (Str × List Step)) (axes : Int) (st : Store) (a : Int) (ys : List (Str × List Step)) (ρ : Envr) (s : Store) : Prop :=
  ∃ (seen : List Int) (r : Nat) (l4 l5 l6 : Option D), ρ = [some (encSegs segs), some (.int axes), some (.int a), some (.ref r), l4, l5, l6] ∧ Grow st s ∧ s[r]? = some (.lst (seen.map .int)) ∧ seen.length + ys.length ≤ 100
def BoI (segs : List (Str × List Step)) (axes : Int) (st : Store) (a : Nat) (ρ : Envr) (s : Store) : Prop :=
  ∃ (l2 l3 l4 l5 l6 : Option D), ρ = [some (encSegs segs), some (.int axes), l2, l3, l4, l5, l6] ∧ Grow st s
theorem bMin_ref {st : Store} {r : Nat} {xs : List Int} (h : st[r]? = some (.lst (xs.map .int))) (hl : xs ≠ []) : ∃ i, bMin [.ref r] st = .ok (.int i) st := by
  cases xs with
  | nil => exact absurd rfl hl
  | cons x xs =>
    have := intsOf_map (x :: xs)
    rw [List.map_cons] at this h
    exact ⟨xs.foldl min x, by simp [bMin, seqNT, seqOf, h, this]⟩
theorem bMax_ex {st : Store} {r : Nat} {xs : List Int} (h : st[r]? = some (.lst (xs.map .int))) (hl : xs ≠ []) : ∃ i, bMax [.ref r] st = .ok (.int i) st := by
  cases xs with
  | nil => exact absurd rfl hl
  | cons x xs =>
    have := intsOf_map (x :: xs)
    rw [List.map_cons] at this h
    exact ⟨xs.foldl max x, by simp [bMax, seqNT, seqOf, h, this]⟩
theorem bMax_ref {st : Store} {r : Nat} {x : Int} {xs : List Int} (h : st[r]? = some (.lst ((x :: xs).map .int))) : bMax [.ref r] st = .ok (.int (xs.foldl max x)) st := by
  have := intsOf_map (x :: xs)
  rw [List.map_cons] at this h
  simp [bMax, seqNT, seqOf, h, this]
theorem barred_wp {segs : List (Str × List Step)} {axes : Int} {st : Store} {Q : D → Store → Prop} (hs : SegsOK segs) (hl : segs.length ≤ 10) (ha : 0 ≤ axes ∧ axes ≤ 3) (h : ∀ b, Q (.bl b) st) : wp (F_law_barred [encSegs segs, .int axes] st) Q := by
  refine wp_fn ?_
  simp [b_law_barred, show -4611686018427387904 ≤ axes ∧ axes < 4611686018427387904 by omega, rangeD_zero]
  refine wp_forR (BoI segs axes st) ⟨_, _, _, _, _, rfl, .refl⟩ ?_ ?_
  · rintro ρ s ⟨l2, l3, l4, l5, l6, rfl, G⟩
    simp [G.swept, h]
  · rintro i ρ s hi ⟨l2, l3, l4, l5, l6, rfl, G⟩
    refine ⟨_, rfl, ?_⟩
    simp [encSegs]
    refine wp_for (enc := encS) (BaI segs axes st i) ⟨[], _, _, _, _, rfl, G.push, by simp, by simp; omega⟩ ?_ ?_
    · rintro ρ s ⟨seen, r, l4, l5, l6, rfl, G, h1, h2⟩
      exact ⟨trivial, _, _, _, _, _, rfl, G⟩
    · rintro x ys ρ s hx ⟨seen, r, l4, l5, l6, rfl, G, h1, h2⟩
      have hxs := hs x hx
      simp at h2
      refine ⟨trivial, _, rfl, ?_⟩
      simp [encS, -sLc_ev]
      rw [sLc_its Step.enc (isTo i) (fun _ => .int 1) x.2 (by simp [encSteps]) (by have := sizeLine_eq; omega) (fun x _ => by cases x <;> simp [Step.enc, isTo, ne1, ne2])]
      simp only [bind_ok', bLen_push]
      rw [swept_push rfl]
      simp
      have lb : bLen [.ref r] s = .ok (.int seen.length) s := by simp [bLen, h1]
      have go : if x.1 = "any" then wp (F_law_drift [encSteps x.2, .int i] s) fun a st_1 => wp (vAdd (.ref r) (.ref (List.length st_1)) (st_1 ++ [.lst [a]])) fun a s9 => BaI segs axes st (↑i) ys [some (encSegs segs), some (.int axes), some (.int i), some a, some (.str x.1), some (encSteps x.2), l6] s9
          else wp (vAdd (.ref r) (.ref (List.length s)) (s ++ [.lst []])) fun a s9 => BaI segs axes st (↑i) ys [some (encSegs segs), some (.int axes), some (.int i), some a, some (.str x.1), some (encSteps x.2), l6] s9 := by
        split
        · rw [law_drift_ev (by omega)]
          simp
          rw [vAdd_lst (xs := seen.map .int) (ys := [.int (driftP x.2 i)]) (get_push h1) (by simp) (by simp; omega)]
          simp
          exact ⟨seen ++ [driftP x.2 i], _, _, _, _, rfl, G.push, by simp, by simp; omega⟩
        · rw [vAdd_lst (xs := seen.map .int) (ys := []) (get_push h1) (by simp) (by simp; omega)]
          simp
          exact ⟨seen, _, _, _, _, rfl, G.push, by simp, by omega⟩
      split
      · simp [lb]
        split
        · obtain ⟨i0, e0⟩ := bMin_ref h1 (by rintro rfl; simp at *)
          obtain ⟨i1, e1⟩ := bMax_ex h1 (by rintro rfl; simp at *)
          by_cases q0 : i0 < 0
          · by_cases q1 : 0 < i1
            · simp [e0, e1, q0, q1, G.swept, h]
            · simp [e0, e1, q0, q1]
              exact go
          · simp [e0, e1, q0]
            exact go
        · exact go
      · exact go
end Ap

namespace Ap
open PySem L2 L3
def fixS (scale : Int) : Step → Step
  | .to a _ => .by a scale
  | x => x
def fixG (scale : Int) (s : Str × List Step) : Str × List Step := (s.1, s.2.map (fixS scale))
theorem fixG_ok {scale : Int} {segs : List (Str × List Step)} (hs : 1 ≤ scale ∧ scale ≤ 10 ^ 8) (h : SegsOK segs) : SegsOK (segs.map (fixG scale)) := by
  intro x hx
  obtain ⟨y, hy, rfl⟩ := List.mem_map.mp hx
  have := h y hy
  refine ⟨by simpa [fixG] using this.1, fun z hz => ?_⟩
  obtain ⟨w, hw, rfl⟩ := List.mem_map.mp hz
  have := this.2 w hw
  cases w with
  | to a p => simp only [fixS, Step.ok]; omega
  | «by» a w => exact this
  | cut f => trivial
theorem cut12 {x y z : D} : cutD [x, y, z] (some 1) (some 2) = [y] := rfl
def SgI (n m : Nat) (k : Int) (st : Store) (ys : List Str) (acc : List D) (s : Store) : Prop :=
  ∃ segs : List (Str × List Step), acc = segs.map encS ∧ Aug n m (k + 100 * segs.length) s ∧ Upd n m st s ∧ SegsOK segs ∧ segs.length + ys.length ≤ 5
theorem kinds_at {r : Int} (h : 0 ≤ r ∧ r < 8) : ∃ ks : List Str, L2.atI [D.tup [.str "any"], .tup [.str "once", .str "any"], .tup [.str "any", .str "any"], .tup [.str "once", .str "any", .str "once"], .tup [.str "any", .str "once", .str "any"], .tup [.str "once"], .tup [.str "any", .str "any", .str "once"], .tup [.str "once", .str "any", .str "once", .str "any", .str "once"]] r = some (.tup (ks.map .str)) ∧ ks.length ≤ 5 := by
  obtain ⟨j, rfl⟩ := Int.eq_ofNat_of_zero_le h.1
  rcases (show j = 0 ∨ j = 1 ∨ j = 2 ∨ j = 3 ∨ j = 4 ∨ j = 5 ∨ j = 6 ∨ j = 7 by omega) with rfl | rfl | rfl | rfl | rfl | rfl | rfl | rfl
  · exact ⟨["any"], rfl, by simp⟩
  · exact ⟨["once", "any"], rfl, by simp⟩
  · exact ⟨["any", "any"], rfl, by simp⟩
  · exact ⟨["once", "any", "once"], rfl, by simp⟩
  · exact ⟨["any", "once", "any"], rfl, by simp⟩
  · exact ⟨["once"], rfl, by simp⟩
  · exact ⟨["any", "any", "once"], rfl, by simp⟩
  · exact ⟨["once", "any", "once", "any", "once"], rfl, by simp⟩
theorem scale_at {r : Int} (h : 0 ≤ r ∧ r < 5) : ∃ s : Int, L2.atI [D.int 1, .int 1, .int 3, .int 1000, .int 100000000] r = some (.int s) ∧ 1 ≤ s ∧ s ≤ 10 ^ 8 := by
  obtain ⟨j, rfl⟩ := Int.eq_ofNat_of_zero_le h.1
  rcases (show j = 0 ∨ j = 1 ∨ j = 2 ∨ j = 3 ∨ j = 4 by omega) with rfl | rfl | rfl | rfl | rfl
  · exact ⟨1, rfl, by omega, by omega⟩
  · exact ⟨1, rfl, by omega, by omega⟩
  · exact ⟨3, rfl, by omega, by omega⟩
  · exact ⟨1000, rfl, by omega, by omega⟩
  · exact ⟨100000000, rfl, by omega, by omega⟩
theorem bMax_mem {st : Store} {r : Nat} {xs : List Int} (h : st[r]? = some (.lst (xs.map .int))) (hl : xs ≠ []) : ∃ i ∈ xs, bMax [.ref r] st = .ok (.int i) st := by
  cases xs with
  | nil => exact absurd rfl hl
  | cons x xs => exact ⟨_, (foldl_max_mem xs x).1, bMax_ref h⟩
def isAny (x : Str × List Step) : Bool := decide (x.1 = "any")
def BdI (n m : Nat) (k : Int) (s5 : Store) (l1 l2 l3 l4 : Option D) (i : Nat) (ρ : Envr) (s : Store) : Prop :=
  ∃ (bs : List (Str × Int)) (l6 l7 l8 l9 : Option D), ρ = [some (.ref n), l1, l2, l3, l4, some (.ref s5.length), l6, l7, l8, l9, none, none, none] ∧ s[s5.length]? = some (.lst (bs.map encB)) ∧ bs.length = i ∧ Mor n m s5 s ∧ Aug n m (k + 600 + 20 * i) s
theorem code_wp {n m : Nat} {k : Int} {st : Store} {Q : D → Store → Prop} (A : Aug n m k st) (hk : k ≤ 10 ^ 16)
    (h : ∀ (c : Code) st', Aug n m (k + 1000) st' → Upd n m st st' → c.OK → Q c.enc st') : wp (F_law_code [.ref n] st) Q := by
  refine wp_fn ?_
  have hn := A.ln
  have hm := A.lm
  simp [b_law_code, -sLc_ev]
  refine bore_wp A (by omega) (by omega) (by omega) fun r1 s1 A1 U1 p1 q1 => ?_
  simp [-sLc_ev]
  refine bore_wp A1 (by omega) (by omega) (by omega) fun r2 s2 A2 U2 p2 q2 => ?_
  obtain ⟨scale, es, hsc⟩ := scale_at (r := r2) (by omega)
  simp [es, -sLc_ev]
  rw [vAdd_tup (by simp)]
  simp [-sLc_ev]
  refine bore_wp A2 (by omega) (by omega) (by omega) fun r3 s3 A3 U3 p3 q3 => ?_
  obtain ⟨ks, ek, hks⟩ := kinds_at (r := r3) (by omega)
  simp [ek, -sLc_ev]
  have U123 := U1.trans (U2.trans U3)
  have comp : wp (sLc (iSeq (sVar 3)) (.nm 10) sYes (sTup (sCons (sVar 10) (sCons (sCB F_law_steps (sCons (sVar 0) (sCons (sVar 1) (sCons (sVar 2) (sCons (sC (.bl true)) sNil))))) sNil))) [10] [some (.ref n), some (.int (1 + r1)), some (.int scale), some (.tup (ks.map .str)), none, none, none, none, none, none, none, none, none] s3)
      (fun d s => ∃ (segs : List (Str × List Step)) (s' : Store), d = .ref s'.length ∧ s = s' ++ [.lst (segs.map encS)] ∧ Aug n m (k + 503) s' ∧ Upd n m s3 s' ∧ SegsOK segs ∧ segs.length ≤ 5) := by
    simp
    refine wp_lc (SgI n m (k + 3) s3) ⟨[], rfl, A3.mono (by simp; omega), .refl, by simp [SegsOK], by simpa using hks⟩ ?_ ?_
    · rintro acc s ⟨segs, rfl, A4, U4, ok, hl⟩
      simp at hl
      refine ⟨trivial, ?_⟩
      exact ⟨segs, s, rfl, ⟨rfl, rfl⟩, A4.mono (by omega), U4, ok, hl⟩
    · rintro x ys acc s hx ⟨segs, rfl, A4, U4, ok, hl⟩
      simp at hl
      refine ⟨trivial, _, rfl, ?_⟩
      simp
      refine steps_wp A4 (by omega) (by omega) hsc fun steps s5 A5 U5 ok5 l5 => ?_
      refine ⟨by have := sizeLine_eq; simp; omega, segs ++ [(x, steps)], by simp [encS], A5.mono (by simp; omega), U4.trans U5, ?_, by simp; omega⟩
      intro y hy
      rcases List.mem_append.mp hy with hy | hy
      · exact ok y hy
      · rw [List.mem_singleton.mp hy]; exact ⟨by simpa using Nat.le_trans l5 (by decide), ok5⟩
  refine wp_mono comp ?_
  rintro _ _ ⟨segs, s4, rfl, rfl, A4, U4, ok, hl⟩
  simp [-sLc_ev, -sthn_ite, -wps_ite]
  refine wp_sweptA A4.push (U4.mor.trans .push) A3.ln A3.lm (lows_map (fun x => by simp [encS, encSteps_low]) _) fun s5 A5 U5 => ?_
  refine barred_wp ok (by omega) (by omega) fun b => ?_
  simp [-sLc_ev, -sthn_ite, -wps_ite]
  have fx : sLc (iSeq (sVar 4)) (.tp [.nm 10, .nm 11]) sYes (sTup (sCons (sVar 10) (sCons (sSwp (sCB bTuple (sCons (sLc (iSeq (sVar 11)) (.nm 12) sYes (sIte (sBool (L3.s2 vEq (L3.s2 vIx (sVar 12) (sC (.int 0))) (sC (.str "to")))) (L3.s2 vAdd (L3.s2 vAdd (sTup (sCons (sC (.str "by")) sNil)) (sSlice vSlice (sVar 12) (sPart (sC (.int 1))) (sPart (sC (.int 2))))) (sTup (sCons (sVar 2) sNil))) (sVar 12)) [12]) sNil))) sNil))) [10, 11]
      [some (.ref n), some (.int (1 + r1)), some (.int scale), some (.tup (ks.map .str)), some (.tup (segs.map encS)), none, none, none, none, none, none, none, none] s5 = .ok (.ref s5.length) (s5 ++ [.lst (segs.map fun x => encS (fixG scale x))]) := by
    refine sLc_itsA encS (fun x => encS (fixG scale x)) segs (by simp) (by have := sizeLine_eq; omega) fun x hx => ⟨_, rfl, ?_⟩
    have hxs := ok x hx
    simp [-sLc_ev]
    rw [sLc_itsA Step.enc (fun x => (fixS scale x).enc) x.2 (by simp [encSteps]) (by have := sizeLine_eq; omega) (fun y _ => ⟨_, rfl, by cases y <;> simp [Step.enc, ne1, ne2, fixS, vSlice, cut12, vAdd_tup]⟩)]
    simp only [bind_ok', bTuple_push]
    rw [swept_push (by simp [Step.low])]
    simp [encS, fixG, encSteps]
  obtain ⟨segs', ok', hl', e⟩ : ∃ segs' : List (Str × List Step), SegsOK segs' ∧ segs'.length ≤ 5 ∧ segs' = if b = true then segs.map (fixG scale) else segs := by
    refine ⟨_, ?_, ?_, rfl⟩
    · split
      · exact fixG_ok hsc ok
      · exact ok
    · split <;> simpa using hl
  have e2 : segs.map (fun x => encS (fixG scale x)) = (segs.map (fixG scale)).map encS := by simp
  have U5' : Upd n m st s5 := U123.trans U5
  have hn5 := A5.ln
  have hm5 := A5.lm
  split
  rename_i hb
  rw [if_pos hb] at e
  rw [fx, e2, ← e, wp_ok, bTuple_push, swept_push (by simp [encS, encSteps_low])]
  clear fx e2 e comp
  simp [-sLc_ev, -sthn_ite, -wps_ite]
  rotate_left
  rename_i hb
  rw [if_neg hb] at e
  rw [← e]
  clear fx e2 e comp
  all_goals
    refine ⟨by omega, ?_⟩
    rw [rangeD_zero]
    have hr : (1 + r1).toNat ≤ 3 := by omega
    generalize (1 + r1).toNat = na at hr
    refine wp_forR (BdI n m k s5 (some (.int (1 + r1))) (some (.int scale)) (some (.tup (ks.map .str))) (some (.tup (segs'.map encS)))) ⟨[], _, _, _, _, rfl, by simp, rfl, .push, A5.push.mono (by omega)⟩ ?_ ?_
    · rintro ρ s ⟨bs, l6, l7, l8, l9, rfl, h1, h2, M, A6⟩
      simp [bTuple_ref h1]
      refine wp_sweptA A6 (U5'.mor.trans M) hn hm (by simp [encB, encS, encSteps_low]) fun st' A7 U7 => h ⟨bs, segs'⟩ st' (A7.mono (by omega)) U7 ⟨by simp; omega, by simp; omega, fun x hx => ?_⟩
      have := ok' x hx
      exact ⟨by omega, this.2⟩
    · rintro i ρ s hi ⟨bs, l6, l7, l8, l9, rfl, h1, h2, M, A6⟩
      refine ⟨_, rfl, ?_⟩
      simp [-sLc_ev]
      rw [sLc_its encS isAny (fun x => .int (driftP x.2 i).natAbs) segs' (by simp) (by have := sizeLine_eq; omega) (fun x hx => by simp [encS, isAny, law_drift_ev (show x.2.length ≤ 1000 by have := ok' x hx; omega)])]
      simp only [wp_ok]
      have e7 : (segs'.filter isAny).map (fun x => D.int (driftP x.2 i).natAbs) = ((segs'.filter isAny).map (fun x => ((driftP x.2 i).natAbs : Int))).map .int := by simp
      rw [e7]
      have hds : ∀ d ∈ (segs'.filter isAny).map (fun x => ((driftP x.2 i).natAbs : Int)), 0 ≤ d ∧ d ≤ 10 ^ 13 := by
        intro d hd
        obtain ⟨x, hx, rfl⟩ := List.mem_map.mp hd
        have hx := ok' x (List.mem_filter.mp hx).1
        have := drift_bd (a := i) hx.2 (by omega)
        omega
      have hll : ((segs'.filter isAny).map (fun x => ((driftP x.2 i).natAbs : Int))).length ≤ 5 := by
        have := List.length_filter_le isAny segs'
        simp only [List.length_map]; omega
      generalize (segs'.filter isAny).map (fun x => ((driftP x.2 i).natAbs : Int)) = ds at hds hll
      simp
      rw [vAdd_lst (xs := ds.map .int) (ys := [.int 1]) (by simp) (by simp) (by simp; omega)]
      simp
      obtain ⟨dr, hdr, edr⟩ := bMax_mem (st := s ++ [.lst (ds.map .int), .lst [.int 1], .lst ((ds ++ [1]).map .int)]) (r := s.length + 2) (xs := ds ++ [1]) (by simp) (by simp)
      have hdr2 : 0 ≤ dr ∧ dr ≤ 10 ^ 13 := by
        rcases List.mem_append.mp hdr with q | q
        · exact hds dr q
        · rw [List.mem_singleton.mp q]; omega
      simp at edr
      simp [edr]
      have G : Grow (s ++ [.lst (ds.map .int)]) (s ++ [.lst (ds.map .int), .lst [.int 1], .lst (ds.map .int ++ [.int 1])]) := ⟨[.lst [.int 1], .lst (ds.map .int ++ [.int 1])], by simp⟩
      rw [G.swept rfl, wp_ok]
      have A7 : Aug n m (k + 600 + 20 * i) (s ++ [.lst (ds.map .int)]) := A6.push
      refine bore_wp A7 (by omega) (by omega) (by omega) fun b1 t1 B1 V1 x1 y1 => ?_
      simp [mul_ok (a := dr) (b := b1) (by omega) (by omega)]
      refine bore_wp B1 (by omega) (by omega) (by omega) fun b2 t2 B2 V2 x2 y2 => ?_
      simp
      refine bore_wp B2 (by omega) (by omega) (by omega) fun b3 t3 B3 V3 x3 y3 => ?_
      simp [mul_ok (a := b3) (b := scale) (by omega) (by omega)]
      refine bore_wp B3 (by omega) (by omega) (by omega) fun b4 t4 B4 V4 x4 y4 => ?_
      refine bore_wp B4 (by omega) (by omega) (by omega) fun b5 t5 B5 V5 x5 y5 => ?_
      obtain ⟨_, ey, y, rfl⟩ := atI_all (P := fun d => ∃ y : Int, d = D.int y) (xs := [.int 0, .int (dr * b1 + b2 - 1), .int (b3 * scale), .int b4]) (i := b5) (by simp; omega) (by simp)
      obtain ⟨z, ez⟩ : ∃ z : Str, [D.str "x", .str "yy", .str "zaxisq"][i]? = some (.str z) := by
        rcases (show i = 0 ∨ i = 1 ∨ i = 2 by omega) with rfl | rfl | rfl <;> exact ⟨_, rfl⟩
      have V := (V1.trans V2).trans ((V3.trans V4).trans V5)
      have h9 : t5[s5.length]? = some (.lst (bs.map encB)) := by rw [V.at_ _ (by omega) (by omega)]; exact get_push h1
      have MV := (M.trans .push).trans V.mor
      simp [ey, ez, isLst_of h9]
      rw [mAppend_ev h9 (by simp; omega)]
      simp
      exact ⟨bs ++ [(z, min (max y 0) 1000000000)], _, _, _, _, rfl, by rw [List.getElem?_set_self (lt_of_get h9)]; simp [encB], by simp [h2], MV.set (Nat.le_refl _), (B5.set (by omega) (by omega)).mono (by simp; omega)⟩
end Ap

namespace Ap
open PySem L2 L3
theorem slow_wp {n m : Nat} {k : Int} {st : Store} {Q : D → Store → Prop} (A : Aug n m k st) (hk : k ≤ 10 ^ 16)
    (h : ∀ (c : Code) st', Upd n m st st' → c.OK → Q c.enc st') : wp (F_law_slow [.ref n] st) Q := by
  refine wp_fn ?_
  have hn := A.ln
  have hm := A.lm
  simp [b_law_slow]
  refine bore_wp A (by omega) (by omega) (by omega) fun r1 s1 A1 U1 p1 q1 => ?_
  try simp
  refine bore_wp A1 (by omega) (by omega) (by omega) fun r2 s2 A2 U2 p2 q2 => ?_
  try simp
  refine bore_wp A2 (by omega) (by omega) (by omega) fun r3 s3 A3 U3 p3 q3 => ?_
  have fin : ∀ (w : Int) (r4 : Int) (s4 : Store), -3 ≤ w ∧ w ≤ 3 → 0 ≤ r4 ∧ r4 < 20 → Upd n m s3 s4 → Q (Code.enc ⟨[("x", r2)], [("once", [.cut "a"]), ("any", [.by 0 (w + 4), .cut "b", .by 0 (-4)]), ("once", [.by 0 3, .to 0 (w + 3 + r4), .cut "a", .to 0 50])]⟩) s4 := by
    intro w r4 s4 hw hr U4
    refine h _ s4 ((U1.trans U2).trans (U3.trans U4)) ⟨by simp, by simp, ?_⟩
    simp [Step.ok]
    omega
  have hl : ∀ s4, Upd n m s3 s4 → s4.length = st.length := fun s4 U4 => ((U1.trans U2).trans (U3.trans U4)).len
  try simp
  by_cases hz : r3 = 0
  · simp [hz]
    refine bore_wp A3 (by omega) (by omega) (by omega) fun r4 s4 A4 U4 p4 q4 => ?_
    have := fin (1 + r1) r4 s4 (by omega) (by omega) U4
    simp [Code.enc, encB, encSegs, encS, encSteps, Step.enc] at this
    simp [swept_len (hl s4 U4), this]
  · simp [hz]
    refine bore_wp A3 (by omega) (by omega) (by omega) fun r4 s4 A4 U4 p4 q4 => ?_
    have := fin (0 - (1 + r1)) r4 s4 (by omega) (by omega) U4
    simp [Code.enc, encB, encSegs, encS, encSteps, Step.enc] at this
    simp [swept_len (hl s4 U4), this]
def AsI (c : Code) (st : Store) (i : Nat) (ρ : Envr) (s : Store) : Prop := s = st ∧ ∃ l1 l2 : Option D, ρ = [some c.enc, l1, l2]
def AtI (c : Code) (st : Store) (j : Nat) (i : Nat) (ρ : Envr) (s : Store) : Prop := s = st ∧ ∃ l2 : Option D, ρ = [some c.enc, some (.int j), l2]
theorem asked_ev {c : Code} {st : Store} (hc : c.OK) : F_law_asked [c.enc] st = .ok (.bl true) st := by
  have hb := hc.segs
  have hbb := hc.bounds
  have hlen : (roundsP c).length ≤ 1000 := by
    have := List.length_filter_le (anyP c) (List.range c.segs.length)
    rw [List.length_range] at this
    simp only [roundsP, List.length_map]; omega
  refine fn_eq ?_
  simp [b_law_asked, told_rounds_ev hc, law_rounds_ev hc, same_tup (n := 18) hlen]
  simp [Code.enc, encSegs]
  refine ⟨by omega, ?_⟩
  rw [rangeD_zero]
  refine wp_forR (AsI c st) ⟨rfl, _, _, rfl⟩ ?_ ?_
  · rintro ρ s ⟨rfl, l1, l2, rfl⟩
    simp
  · rintro i ρ s hi ⟨rfl, l1, l2, rfl⟩
    refine ⟨_, rfl, ?_⟩
    have hs : c.segs[i]? = some c.segs[i] := by simp
    have hss := hc.steps c.segs[i] (by simp)
    by_cases ha : c.segs[i].1 = "any"
    · simp [Code.enc, encSegs, seg_at hs, ha]
      refine ⟨by omega, ?_⟩
      rw [rangeD_zero]
      refine wp_forR (AtI c s i) ⟨rfl, _, rfl⟩ ?_ ?_
      · rintro ρ s ⟨rfl, l2, rfl⟩
        exact ⟨rfl, _, _, rfl⟩
      · rintro j ρ s hj ⟨rfl, l2, rfl⟩
        refine ⟨_, rfl, ?_⟩
        have e1 := drift_of_ev (a := j) (st := s) hs hss.1
        have e2 := law_drift_ev (a := j) (st := s) hss.1
        simp [permL, e1]
        simp [Code.enc, encSegs, seg_at hs, e2, same_int (n := 19)]
        exact ⟨rfl, _, rfl⟩
    · simp [Code.enc, encSegs, seg_at hs, ha]
      exact ⟨rfl, _, _, rfl⟩
end Ap

namespace Ap
open PySem L2 L3
def AuN (x : D) (b : Nat) (s : Store) : Prop := ∃ (gs : List Int) (a1 : Int), s[1]? = some (.lst [.ref 0, .int a1, .int 0, .int 0]) ∧ s[0]? = some (.lst (gs.map .int)) ∧ (0 ≤ a1 ∧ a1 < 2147481659) ∧ (∀ g ∈ gs, 0 ≤ g) ∧ gs.length ≤ b
def AuR (x : D) (ρ : Envr) : Prop := ∃ l2 l3 : Option D, ρ = [some x, some (.ref 1), l2, l3]
def AuI (x : D) (cut : List Int) (ys : List Int) (ρ : Envr) (s : Store) : Prop := AuR x ρ ∧ s.length = 3 ∧ s[2]? = some (.lst (cut.map .int)) ∧ ∃ b, b + ys.length ≤ 42 ∧ AuN x b s
theorem shl_ev {st : Store} : vShl (.int 1) (.int 1100) st = .ok (.int (1 * 2 ^ (1100 : Int).toNat)) st := by
  rw [vShl_int, if_pos (by omega)]
theorem big_pos : (0 : Int) < 1 * 2 ^ (1100 : Int).toNat := by rw [Int.one_mul]; exact Int.pow_pos (by decide)
theorem cut_ints {xs : List Int} : cutD (xs.map .int) none (some 42) = (xs.take 42).map .int := by
  unfold cutD
  rw [HT.sIx_none, show (some 42 : Option Int) = some ((42 : Nat) : Int) from rfl, HT.sIx_nat]
  rw [List.drop_zero, List.length_map, ← List.map_take, Nat.sub_zero]
  rcases Nat.le_total 42 xs.length with q | q
  · rw [Nat.min_eq_left q]
  · rw [Nat.min_eq_right q, List.take_of_length_le (Nat.le_refl _), List.take_of_length_le q]
theorem auger_wp {ns : List Int} {Q : D → Store → Prop} (hns : ns.length ≤ 63) (h : ∀ s, Aug 1 0 0 s → Q (.ref 1) s) : wp (F_law_auger [.rl (ns.map .int)] []) Q := by
  refine wp_fn ?_
  simp [b_law_auger]
  refine wps_xswp ?_
  simp [vSlice, cut_ints, srcOf]
  rw [← List.map_take]
  generalize hP : (1 : Int) * 2 ^ (1100 : Int).toNat = P
  have hPp : 0 < P := by rw [← hP]; exact big_pos
  have hcl : (ns.take 42).length ≤ 42 := by simp; omega
  generalize ns.take 42 = cut at hcl
  have start : AuI (.rl (ns.map .int)) cut cut [some (.rl (ns.map .int)), some (.ref 1), none, none] [.lst [], .lst [.ref 0, .int 23017, .int 0, .int 0], .lst (cut.map .int)] := ⟨⟨none, none, rfl⟩, rfl, rfl, 0, by omega, [], 23017, rfl, rfl, by omega, by simp, by simp⟩
  refine wp_for (enc := D.int) (xs := cut) (AuI (.rl (ns.map .int)) cut) start ?_ ?_
  · rintro ρ s ⟨⟨l2, l3, rfl⟩, h1, h2, b, hb, gs, a1, h3, h4, h5, h6, h7⟩
    refine ⟨by simpa using h2, ?_⟩
    have tl : ∀ s' : Store, s'[1]? = some (.lst [.ref 0, .int a1, .int 0, .int 0]) → s'[0]? = some (.lst (gs.map .int)) → wp (swept [] (.ok (.ref 1) (s'.set 1 (.lst [.ref 0, .int a1, .int 0, .int (a1 / 277 % 9199)])))) Q := by
      intro s' e1 e0
      refine wp_swept_up rfl (h _ ⟨gs, a1, 0, a1 / 277 % 9199, List.getElem?_set_self (lt_of_get e1), by rw [List.getElem?_set_ne (by decide)]; exact e0, by decide, h5, by omega, by omega, h6, by omega⟩)
    have k1 : (s.take 2)[1]? = s[1]? := by simp [List.getElem?_take]
    have k0 : (s.take 2)[0]? = s[0]? := by simp [List.getElem?_take]
    have w3 := div_ok (b := 277) (by decide) (by decide)
    constructor
    · simp [h3, ixN, w3]
      exact tl s h3 h4
    · simp [k1, h3, ixN, w3]
      exact tl _ (k1.trans h3) (k0.trans h4)
  · rintro x ys ρ s hx ⟨⟨l2, l3, rfl⟩, h1, h2, b, hb, gs, a1, h3, h4, h5, h6, h7⟩
    simp at hb
    refine ⟨by simpa using h2, _, rfl, ?_⟩
    have w1 := mul_ok (a := a1) (b := 9533) (by omega) (by decide)
    have w2 := mul_ok (a := 359) (b := if x < 0 then 1 else 0) (by decide) (by split <;> decide)
    have hsh : ∀ st, vShl (.int 1) (.int 1100) st = .ok (.int P) st := fun st => by rw [← hP]; exact shl_ev
    have n1 : ∀ o : SO, (s.set 1 o)[1]? = some o := fun o => List.getElem?_set_self (by omega)
    have n0 : ∀ o : SO, (s.set 1 o)[0]? = s[0]? := fun o => List.getElem?_set_ne (by decide)
    simp [-vShl_int, hsh, hPp, h3, h4, ixN, w1, w2, n1, n0]
    have r1 : 0 ≤ (a1 * 9533 + x.natAbs % P % 1001017 + (359 * if x < 0 then 1 else 0) + 115) % 2147481659 ∧ (a1 * 9533 + x.natAbs % P % 1001017 + (359 * if x < 0 then 1 else 0) + 115) % 2147481659 < 2147481659 := by omega
    generalize (a1 * 9533 + x.natAbs % P % 1001017 + (359 * if x < 0 then 1 else 0) + 115) % 2147481659 = a' at r1
    have r2 : 0 ≤ (x.natAbs : Int) % P := Int.emod_nonneg _ (by omega)
    generalize (x.natAbs : Int) % P = chip at r2
    split
    · refine ⟨isLst_of (xs := gs.map .int) (by rw [n0]; exact h4), ?_⟩
      rw [mAppend_ev (xs := gs.map .int) (by rw [n0]; exact h4) (by simp; omega)]
      simp
      refine ⟨⟨_, _, rfl⟩, by simpa using h1, by simpa using h2, b + 1, by omega, gs ++ [chip], a', by rw [List.getElem?_set_ne (by decide)]; exact n1 _, by rw [List.getElem?_set_self (by simp; omega)]; simp, r1, ?_, by simpa using h7⟩
      intro g hg
      rcases List.mem_append.mp hg with hg | hg
      · exact h6 g hg
      · rw [List.mem_singleton.mp hg]; exact r2
    · exact ⟨⟨_, _, rfl⟩, by simpa using h1, by simpa using h2, b, by omega, gs, a', n1 _, by rw [n0]; exact h4, r1, h6, h7⟩
def LwI (x : D) (i : Nat) (ρ : Envr) (s : Store) : Prop := ∃ l2 : Option D, ρ = [some x, some (.ref 1), l2] ∧ Aug 1 0 (1000 * i) s
theorem law_true (ns : List Int) (hns : ns.length ≤ 63) : ∃ st, F_law [.rl (ns.map D.int)] [] = .ok (.bl true) st := by
  refine ok_of_wp ?_
  refine wp_fn ?_
  simp [b_law]
  refine auger_wp hns fun s A => ?_
  simp [show rangeD 0 4 = (List.range 4).map ofN from rangeD_zero 4]
  refine wp_forR (LwI (.rl (ns.map .int))) ⟨_, rfl, by simpa using A⟩ ?_ ?_
  · rintro ρ s ⟨l2, rfl, A⟩
    simp
    refine slow_wp A (by omega) fun c s1 U hc => ?_
    simp [asked_ev hc]
    exact wp_swept_any (P := fun a => a = D.bl true) rfl
  · rintro i ρ s hi ⟨l2, rfl, A⟩
    refine ⟨_, rfl, ?_⟩
    simp
    refine code_wp A (by omega) fun c s1 A1 U hc => ?_
    simp [asked_ev hc]
    exact ⟨_, rfl, A1.mono (by omega)⟩
end Ap

namespace Ap
open PySem L2 L3
/-! the end -/
def spLaw (K : PySem.W.Frag) : Sp := fun vs H Q _ => ∃ (a : Addr) (ns : List Int), vs = [.ref a] ∧ SqL K H a (ns.map V.int) ∧ ns.length ≤ 63 ∧ Only H ∧ ∀ H1, Q (.bl true) H1
theorem all_mk {l : PySem.W.OpenLaw} {w : World} {K : PySem.W.Frag} {h : Heap} {mg : Str → Option Value} {fa : Addr} (X : K.In h) (G : h.Ns mainGlobals mg) (hfa : mg "law" = some (.ref fa))
    (a_bounds_of : FnAt K "bounds_of" s_bounds_of)
    (a_has_to : FnAt K "has_to" s_has_to)
    (a_drift_of : FnAt K "drift_of" s_drift_of)
    (a_far_of : FnAt K "far_of" s_far_of)
    (a_told_of : FnAt K "told_of" s_told_of)
    (a_any_segments : FnAt K "any_segments" s_any_segments)
    (a_told_rounds : FnAt K "told_rounds" s_told_rounds)
    (a_law_auger : FnAt K "_law_auger" s_law_auger)
    (a_law_bore : FnAt K "_law_bore" s_law_bore)
    (a_law_way : FnAt K "_law_way" s_law_way)
    (a_law_steps : FnAt K "_law_steps" s_law_steps)
    (a_law_drift : FnAt K "_law_drift" s_law_drift)
    (a_law_barred : FnAt K "_law_barred" s_law_barred)
    (a_law_far : FnAt K "_law_far" s_law_far)
    (a_law_rounds : FnAt K "_law_rounds" s_law_rounds)
    (a_law_code : FnAt K "_law_code" s_law_code)
    (a_law_same : FnAt K "_law_same" s_law_same)
    (a_law_asked : FnAt K "_law_asked" s_law_asked)
    (a_law_slow : FnAt K "_law_slow" s_law_slow)
    (a_law : FnAt K "law" s_law)
    (z_abs : PySem.W.nsIn K mainGlobals "abs" = some none)
    (z_bool : PySem.W.nsIn K mainGlobals "bool" = some none)
    (z_int : PySem.W.nsIn K mainGlobals "int" = some none)
    (z_isinstance : PySem.W.nsIn K mainGlobals "isinstance" = some none)
    (z_len : PySem.W.nsIn K mainGlobals "len" = some none)
    (z_max : PySem.W.nsIn K mainGlobals "max" = some none)
    (z_min : PySem.W.nsIn K mainGlobals "min" = some none)
    (z_range : PySem.W.nsIn K mainGlobals "range" = some none)
    (z_sum : PySem.W.nsIn K mainGlobals "sum" = some none)
    (z_tuple : PySem.W.nsIn K mainGlobals "tuple" = some none)
    : ∃ fd : FuncData, (∀ (s : Shared) (v : Value), BindsTo s fd ⟨[v], []⟩ [("script", v)]) ∧ ∀ base : Heap, K.In base → base.Ns mainGlobals mg → FnOk l.prog w K mg base CX0 23 fa fd ["script"] (spLaw K) := by
  have T : Txt K mg := ⟨PySem.W.mg_none_of X G z_abs, PySem.W.mg_none_of X G z_bool, PySem.W.mg_none_of X G z_int, PySem.W.mg_none_of X G z_isinstance, PySem.W.mg_none_of X G z_len, PySem.W.mg_none_of X G z_max, PySem.W.mg_none_of X G z_min, PySem.W.mg_none_of X G z_range, PySem.W.mg_none_of X G z_sum, PySem.W.mg_none_of X G z_tuple⟩
  obtain ⟨f_bounds_of, fd_bounds_of, F_bounds_of', m_bounds_of⟩ := a_bounds_of.get X G
  obtain ⟨f_has_to, fd_has_to, F_has_to', m_has_to⟩ := a_has_to.get X G
  obtain ⟨f_drift_of, fd_drift_of, F_drift_of', m_drift_of⟩ := a_drift_of.get X G
  obtain ⟨f_far_of, fd_far_of, F_far_of', m_far_of⟩ := a_far_of.get X G
  obtain ⟨f_told_of, fd_told_of, F_told_of', m_told_of⟩ := a_told_of.get X G
  obtain ⟨f_any_segments, fd_any_segments, F_any_segments', m_any_segments⟩ := a_any_segments.get X G
  obtain ⟨f_told_rounds, fd_told_rounds, F_told_rounds', m_told_rounds⟩ := a_told_rounds.get X G
  obtain ⟨f_law_auger, fd_law_auger, F_law_auger', m_law_auger⟩ := a_law_auger.get X G
  obtain ⟨f_law_bore, fd_law_bore, F_law_bore', m_law_bore⟩ := a_law_bore.get X G
  obtain ⟨f_law_way, fd_law_way, F_law_way', m_law_way⟩ := a_law_way.get X G
  obtain ⟨f_law_steps, fd_law_steps, F_law_steps', m_law_steps⟩ := a_law_steps.get X G
  obtain ⟨f_law_drift, fd_law_drift, F_law_drift', m_law_drift⟩ := a_law_drift.get X G
  obtain ⟨f_law_barred, fd_law_barred, F_law_barred', m_law_barred⟩ := a_law_barred.get X G
  obtain ⟨f_law_far, fd_law_far, F_law_far', m_law_far⟩ := a_law_far.get X G
  obtain ⟨f_law_rounds, fd_law_rounds, F_law_rounds', m_law_rounds⟩ := a_law_rounds.get X G
  obtain ⟨f_law_code, fd_law_code, F_law_code', m_law_code⟩ := a_law_code.get X G
  obtain ⟨f_law_same, fd_law_same, F_law_same', m_law_same⟩ := a_law_same.get X G
  obtain ⟨f_law_asked, fd_law_asked, F_law_asked', m_law_asked⟩ := a_law_asked.get X G
  obtain ⟨f_law_slow, fd_law_slow, F_law_slow', m_law_slow⟩ := a_law_slow.get X G
  obtain ⟨f_law, fd_law, F_law', m_law⟩ := a_law.get X G
  have e := hfa.symm.trans m_law
  cases e
  refine ⟨fd_law, fun s v => ?_, fun base _ _ => ?_⟩
  · obtain ⟨oc, od, kV, doc, pm, an, cdv, ct, osl, e1, _, _⟩ := F_law'.ex
    subst e1
    exact .of_eq rfl
  have B_bounds_of : Binds K fd_bounds_of ["code"] [] := F_bounds_of'.binds (ps := ["code"]) fun _ _ _ _ _ _ us hl => match us, hl with | [_], _ => rfl
  have K_bounds_of := ok_bounds_of (P := l.prog) (w := w) (base := base) T F_bounds_of'  
  have H_bounds_of : HasFn l.prog w K mg base "bounds_of" 1 ["code"] F_bounds_of := ⟨f_bounds_of, fd_bounds_of, K_bounds_of, m_bounds_of, F_bounds_of'.kp, B_bounds_of⟩
  have B_has_to : Binds K fd_has_to ["steps", "axis"] [] := F_has_to'.binds (ps := ["steps", "axis"]) fun _ _ _ _ _ _ us hl => match us, hl with | [_, _], _ => rfl
  have K_has_to := ok_has_to (P := l.prog) (w := w) (base := base) T F_has_to'  
  have H_has_to : HasFn l.prog w K mg base "has_to" 1 ["steps", "axis"] F_has_to := ⟨f_has_to, fd_has_to, K_has_to, m_has_to, F_has_to'.kp, B_has_to⟩
  have B_drift_of : Binds K fd_drift_of ["code", "segment", "axis"] [] := F_drift_of'.binds (ps := ["code", "segment", "axis"]) fun _ _ _ _ _ _ us hl => match us, hl with | [_, _, _], _ => rfl
  have K_drift_of := ok_drift_of (P := l.prog) (w := w) (base := base) T F_drift_of' H_has_to 
  have H_drift_of : HasFn l.prog w K mg base "drift_of" 2 ["code", "segment", "axis"] F_drift_of := ⟨f_drift_of, fd_drift_of, K_drift_of, m_drift_of, F_drift_of'.kp, B_drift_of⟩
  have HK_drift_of_0 : HasFnK l.prog w K mg base "drift_of" 2 ["code", "segment", "axis"] F_drift_of 0 ["axis", "code", "segment"] [1, 2, 0] := ⟨f_drift_of, fd_drift_of, K_drift_of, m_drift_of, F_drift_of'.kp, fun_kbinds F_drift_of' (by decide) fun _ _ _ _ _ _ us ws h1 h2 => match us, ws, h1, h2 with | [], [_, _, _], _, _ => rfl⟩
  have B_far_of : Binds K fd_far_of ["code", "segment", "axis"] [] := F_far_of'.binds (ps := ["code", "segment", "axis"]) fun _ _ _ _ _ _ us hl => match us, hl with | [_, _, _], _ => rfl
  have K_far_of := ok_far_of (P := l.prog) (w := w) (base := base) T F_far_of'  
  have H_far_of : HasFn l.prog w K mg base "far_of" 1 ["code", "segment", "axis"] F_far_of := ⟨f_far_of, fd_far_of, K_far_of, m_far_of, F_far_of'.kp, B_far_of⟩
  have B_told_of : Binds K fd_told_of ["code", "segment"] [] := F_told_of'.binds (ps := ["code", "segment"]) fun _ _ _ _ _ _ us hl => match us, hl with | [_, _], _ => rfl
  have K_told_of := ok_told_of (P := l.prog) (w := w) (base := base) T F_told_of' H_bounds_of H_drift_of H_far_of 
  have H_told_of : HasFn l.prog w K mg base "told_of" 3 ["code", "segment"] F_told_of := ⟨f_told_of, fd_told_of, K_told_of, m_told_of, F_told_of'.kp, B_told_of⟩
  have B_any_segments : Binds K fd_any_segments ["code"] [] := F_any_segments'.binds (ps := ["code"]) fun _ _ _ _ _ _ us hl => match us, hl with | [_], _ => rfl
  have K_any_segments := ok_any_segments (P := l.prog) (w := w) (base := base) T F_any_segments'  
  have H_any_segments : HasFn l.prog w K mg base "any_segments" 1 ["code"] F_any_segments := ⟨f_any_segments, fd_any_segments, K_any_segments, m_any_segments, F_any_segments'.kp, B_any_segments⟩
  have B_told_rounds : Binds K fd_told_rounds ["code"] [] := F_told_rounds'.binds (ps := ["code"]) fun _ _ _ _ _ _ us hl => match us, hl with | [_], _ => rfl
  have K_told_rounds := ok_told_rounds (P := l.prog) (w := w) (base := base) T F_told_rounds' H_any_segments H_told_of 
  have H_told_rounds : HasFn l.prog w K mg base "told_rounds" 4 ["code"] F_told_rounds := ⟨f_told_rounds, fd_told_rounds, K_told_rounds, m_told_rounds, F_told_rounds'.kp, B_told_rounds⟩
  have B_law_auger : Binds K fd_law_auger ["script"] [] := F_law_auger'.binds (ps := ["script"]) fun _ _ _ _ _ _ us hl => match us, hl with | [_], _ => rfl
  have K_law_auger := ok_law_auger (P := l.prog) (w := w) (base := base) T F_law_auger'  
  have H_law_auger : HasFn l.prog w K mg base "_law_auger" 1 ["script"] F_law_auger := ⟨f_law_auger, fd_law_auger, K_law_auger, m_law_auger, F_law_auger'.kp, B_law_auger⟩
  have B_law_bore : Binds K fd_law_bore ["auger", "spot", "many"] [] := F_law_bore'.binds (ps := ["auger", "spot", "many"]) fun _ _ _ _ _ _ us hl => match us, hl with | [_, _, _], _ => rfl
  have K_law_bore := ok_law_bore (P := l.prog) (w := w) (base := base) T F_law_bore'  
  have H_law_bore : HasFn l.prog w K mg base "_law_bore" 1 ["auger", "spot", "many"] F_law_bore := ⟨f_law_bore, fd_law_bore, K_law_bore, m_law_bore, F_law_bore'.kp, B_law_bore⟩
  have B_law_way : Binds K fd_law_way ["auger", "scale"] [] := F_law_way'.binds (ps := ["auger", "scale"]) fun _ _ _ _ _ _ us hl => match us, hl with | [_, _], _ => rfl
  have K_law_way := ok_law_way (P := l.prog) (w := w) (base := base) T F_law_way' H_law_bore 
  have H_law_way : HasFn l.prog w K mg base "_law_way" 2 ["auger", "scale"] F_law_way := ⟨f_law_way, fd_law_way, K_law_way, m_law_way, F_law_way'.kp, B_law_way⟩
  have B_law_steps : Binds K fd_law_steps ["auger", "axes", "scale", "tos"] [] := F_law_steps'.binds (ps := ["auger", "axes", "scale", "tos"]) fun _ _ _ _ _ _ us hl => match us, hl with | [_, _, _, _], _ => rfl
  have K_law_steps := ok_law_steps (P := l.prog) (w := w) (base := base) T F_law_steps' H_law_bore H_law_way 
  have H_law_steps : HasFn l.prog w K mg base "_law_steps" 3 ["auger", "axes", "scale", "tos"] F_law_steps := ⟨f_law_steps, fd_law_steps, K_law_steps, m_law_steps, F_law_steps'.kp, B_law_steps⟩
  have B_law_drift : Binds K fd_law_drift ["steps", "axis"] [] := F_law_drift'.binds (ps := ["steps", "axis"]) fun _ _ _ _ _ _ us hl => match us, hl with | [_, _], _ => rfl
  have K_law_drift := ok_law_drift (P := l.prog) (w := w) (base := base) T F_law_drift'  
  have H_law_drift : HasFn l.prog w K mg base "_law_drift" 1 ["steps", "axis"] F_law_drift := ⟨f_law_drift, fd_law_drift, K_law_drift, m_law_drift, F_law_drift'.kp, B_law_drift⟩
  have B_law_barred : Binds K fd_law_barred ["segments", "axes"] [] := F_law_barred'.binds (ps := ["segments", "axes"]) fun _ _ _ _ _ _ us hl => match us, hl with | [_, _], _ => rfl
  have K_law_barred := ok_law_barred (P := l.prog) (w := w) (base := base) T F_law_barred' H_law_drift 
  have H_law_barred : HasFn l.prog w K mg base "_law_barred" 2 ["segments", "axes"] F_law_barred := ⟨f_law_barred, fd_law_barred, K_law_barred, m_law_barred, F_law_barred'.kp, B_law_barred⟩
  have B_law_far : Binds K fd_law_far ["segments", "number", "axis"] [] := F_law_far'.binds (ps := ["segments", "number", "axis"]) fun _ _ _ _ _ _ us hl => match us, hl with | [_, _, _], _ => rfl
  have K_law_far := ok_law_far (P := l.prog) (w := w) (base := base) T F_law_far'  
  have H_law_far : HasFn l.prog w K mg base "_law_far" 1 ["segments", "number", "axis"] F_law_far := ⟨f_law_far, fd_law_far, K_law_far, m_law_far, F_law_far'.kp, B_law_far⟩
  have B_law_rounds : Binds K fd_law_rounds ["code"] [] := F_law_rounds'.binds (ps := ["code"]) fun _ _ _ _ _ _ us hl => match us, hl with | [_], _ => rfl
  have K_law_rounds := ok_law_rounds (P := l.prog) (w := w) (base := base) T F_law_rounds' H_law_drift H_law_far 
  have H_law_rounds : HasFn l.prog w K mg base "_law_rounds" 2 ["code"] F_law_rounds := ⟨f_law_rounds, fd_law_rounds, K_law_rounds, m_law_rounds, F_law_rounds'.kp, B_law_rounds⟩
  have B_law_code : Binds K fd_law_code ["auger"] [] := F_law_code'.binds (ps := ["auger"]) fun _ _ _ _ _ _ us hl => match us, hl with | [_], _ => rfl
  have K_law_code := ok_law_code (P := l.prog) (w := w) (base := base) T F_law_code' H_law_bore H_law_steps H_law_barred H_law_drift 
  have H_law_code : HasFn l.prog w K mg base "_law_code" 4 ["auger"] F_law_code := ⟨f_law_code, fd_law_code, K_law_code, m_law_code, F_law_code'.kp, B_law_code⟩
  have B_law_same : Binds K fd_law_same ["told", "due"] [] := F_law_same'.binds (ps := ["told", "due"]) fun _ _ _ _ _ _ us hl => match us, hl with | [_, _], _ => rfl
  have K_law_same := ok_law_same (P := l.prog) (w := w) (base := base) T F_law_same' m_law_same B_law_same   20
  have H_law_same : HasFn l.prog w K mg base "_law_same" 21 ["told", "due"] (F_law_same 20) := ⟨f_law_same, fd_law_same, K_law_same, m_law_same, F_law_same'.kp, B_law_same⟩
  have B_law_asked : Binds K fd_law_asked ["code"] [] := F_law_asked'.binds (ps := ["code"]) fun _ _ _ _ _ _ us hl => match us, hl with | [_], _ => rfl
  have K_law_asked := ok_law_asked (P := l.prog) (w := w) (base := base) T F_law_asked' H_law_same H_law_rounds H_told_rounds H_law_drift H_drift_of HK_drift_of_0
  have H_law_asked : HasFn l.prog w K mg base "_law_asked" 22 ["code"] F_law_asked := ⟨f_law_asked, fd_law_asked, K_law_asked, m_law_asked, F_law_asked'.kp, B_law_asked⟩
  have B_law_slow : Binds K fd_law_slow ["auger"] [] := F_law_slow'.binds (ps := ["auger"]) fun _ _ _ _ _ _ us hl => match us, hl with | [_], _ => rfl
  have K_law_slow := ok_law_slow (P := l.prog) (w := w) (base := base) T F_law_slow' H_law_bore 
  have H_law_slow : HasFn l.prog w K mg base "_law_slow" 2 ["auger"] F_law_slow := ⟨f_law_slow, fd_law_slow, K_law_slow, m_law_slow, F_law_slow'.kp, B_law_slow⟩
  have B_law : Binds K fd_law ["script"] [] := F_law'.binds (ps := ["script"]) fun _ _ _ _ _ _ us hl => match us, hl with | [_], _ => rfl
  have K_law := ok_law (P := l.prog) (w := w) (base := base) T F_law' H_law_auger H_law_asked H_law_code H_law_slow 
  exact K_law.imp fun vs H Q E h => law_sp law_true h
theorem walk {l : PySem.W.OpenLaw} {q : Program} {loose : List Str} {XP : (Str → Option Value) → Heap → Prop} {YP : World → Heap → Prop} {d : DefRec} {K : Params → PySem.W.Frag} (hn : l.most = some 63) (hdf : d.params.defaults = [])
    (hY : ∀ (w : World) (h : Heap), YP w h → (K w.params).In h)
    (F : ∀ (w : World) (mg : Str → Option Value) (fa : Addr) (h : Heap), (K w.params).In h → h.Ns mainGlobals mg → mg d.name = some (.ref fa) →
      ∃ fd : FuncData, (∀ (s : Shared) (u : Value), BindsTo s fd ⟨[u], []⟩ [("script", u)]) ∧ ∀ base : Heap, (K w.params).In base → base.Ns mainGlobals mg → FnOk l.prog w (K w.params) mg base CX0 23 fa fd ["script"] (spLaw (K w.params))) :
    PySem.W.WalkO q loose XP YP l.row.toRowW d [] (fun f vs => PySem.call f vs) :=
  L2.walk_of (n := 63) (k := 23) (x := "script") (CX := fun _ => CX0) (sp := fun w => spLaw (K w.params)) hn (by decide) hdf ⟨rfl, by decide, by decide⟩ hY F (fun _ _ a ns hl hO hS => ⟨a, ns, rfl, hS, hl, hO, fun _ => rfl⟩) fun _ _ _ _ _ z => z
end Ap
open PySem PySem.W PyProof.Rows
set_option maxRecDepth 100000 in
set_option maxHeartbeats 0 in
theorem PySem.Challenge.cw_anyplay_k23_told_rounds_and_drifts_holds : PySem.Challenge.rw_anyplay_k23_told_rounds_and_drifts.Holds := by
  w_on; o_law; k_head; (case hw => w_witness2)
  k_fill
  refine Ap.walk (l := PySem.Challenge.rw_anyplay_k23_told_rounds_and_drifts) rfl rfl (fun w h Y => PySem.W.kIn_of Y) ?F
  case F =>
    intro w mg fa h KX G hmg
    refine' Ap.all_mk KX G hmg ?a_bounds_of ?a_has_to ?a_drift_of ?a_far_of ?a_told_of ?a_any_segments ?a_told_rounds ?a_law_auger ?a_law_bore ?a_law_way ?a_law_steps ?a_law_drift ?a_law_barred ?a_law_far ?a_law_rounds ?a_law_code ?a_law_same ?a_law_asked ?a_law_slow ?a_law ?z_abs ?z_bool ?z_int ?z_isinstance ?z_len ?z_max ?z_min ?z_range ?z_sum ?z_tuple
    (case a_bounds_of => refine' L3.FnAt.mk ?a ?l ?c ?k; (case a => k_is); (case l => k_is); (case c => k_is); (case k => k_is))
    (case a_has_to => refine' L3.FnAt.mk ?a ?l ?c ?k; (case a => k_is); (case l => k_is); (case c => k_is); (case k => k_is))
    (case a_drift_of => refine' L3.FnAt.mk ?a ?l ?c ?k; (case a => k_is); (case l => k_is); (case c => k_is); (case k => k_is))
    (case a_far_of => refine' L3.FnAt.mk ?a ?l ?c ?k; (case a => k_is); (case l => k_is); (case c => k_is); (case k => k_is))
    (case a_told_of => refine' L3.FnAt.mk ?a ?l ?c ?k; (case a => k_is); (case l => k_is); (case c => k_is); (case k => k_is))
    (case a_any_segments => refine' L3.FnAt.mk ?a ?l ?c ?k; (case a => k_is); (case l => k_is); (case c => k_is); (case k => k_is))
    (case a_told_rounds => refine' L3.FnAt.mk ?a ?l ?c ?k; (case a => k_is); (case l => k_is); (case c => k_is); (case k => k_is))
    (case a_law_auger => refine' L3.FnAt.mk ?a ?l ?c ?k; (case a => k_is); (case l => k_is); (case c => k_is); (case k => k_is))
    (case a_law_bore => refine' L3.FnAt.mk ?a ?l ?c ?k; (case a => k_is); (case l => k_is); (case c => k_is); (case k => k_is))
    (case a_law_way => refine' L3.FnAt.mk ?a ?l ?c ?k; (case a => k_is); (case l => k_is); (case c => k_is); (case k => k_is))
    (case a_law_steps => refine' L3.FnAt.mk ?a ?l ?c ?k; (case a => k_is); (case l => k_is); (case c => k_is); (case k => k_is))
    (case a_law_drift => refine' L3.FnAt.mk ?a ?l ?c ?k; (case a => k_is); (case l => k_is); (case c => k_is); (case k => k_is))
    (case a_law_barred => refine' L3.FnAt.mk ?a ?l ?c ?k; (case a => k_is); (case l => k_is); (case c => k_is); (case k => k_is))
    (case a_law_far => refine' L3.FnAt.mk ?a ?l ?c ?k; (case a => k_is); (case l => k_is); (case c => k_is); (case k => k_is))
    (case a_law_rounds => refine' L3.FnAt.mk ?a ?l ?c ?k; (case a => k_is); (case l => k_is); (case c => k_is); (case k => k_is))
    (case a_law_code => refine' L3.FnAt.mk ?a ?l ?c ?k; (case a => k_is); (case l => k_is); (case c => k_is); (case k => k_is))
    (case a_law_same => refine' L3.FnAt.mk ?a ?l ?c ?k; (case a => k_is); (case l => k_is); (case c => k_is); (case k => k_is))
    (case a_law_asked => refine' L3.FnAt.mk ?a ?l ?c ?k; (case a => k_is); (case l => k_is); (case c => k_is); (case k => k_is))
    (case a_law_slow => refine' L3.FnAt.mk ?a ?l ?c ?k; (case a => k_is); (case l => k_is); (case c => k_is); (case k => k_is))
    (case a_law => refine' L3.FnAt.mk ?a ?l ?c ?k; (case a => k_is); (case l => k_is); (case c => k_is); (case k => k_is))
    (case z_abs => k_is)
    (case z_bool => k_is)
    (case z_int => k_is)
    (case z_isinstance => k_is)
    (case z_len => k_is)
    (case z_max => k_is)
    (case z_min => k_is)
    (case z_range => k_is)
    (case z_sum => k_is)
    (case z_tuple => k_is)

