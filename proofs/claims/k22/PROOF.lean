import PyProof.Rows.All
import Wide.All
import OpenK.AllK
import Wide.FinOn
import HandS.ForMost
import HandS.ForExc
import HandS.TupAny
import HandS.Deep
import HandS.IsInst
import HandS.RaiseMore
import HandS.Conv
import KE.SortData
import KE.KeyNested
import HandS.SortInts
import HandS.Style
import HandS.More
import PyProof.ReprRoads
import HandS.Flow
import PyProof.SumWalk
import HandS.ExcValue
import HandS.TupSets
import HandS.Small
import HandS.Comp
import HandS.DictComp
import HandS.CallSlots
import HandS.ExcOwn
import HandS.Defaults
import HandS.Ends
import HandS.EndBits
import HandS.HeadEnd
import HandS.HeadHook1
import HandS.HeadHook2
import HandS.HeadHook3
import HandS.HeadHook4
import PyProof.ExcBaseAll.ValueError
import PyProof.ReprReads
import HandS.Head0
import HandS.Head1
import HandS.Head2
import PySem.Challenge.RW_hearwright_k22_stands_and_steps_from_any
set_option Elab.async false
set_option linter.all false
set_option maxRecDepth 100000
/-! The VS layer, part A: plain data, slots' contents, outcomes, the relation to the abstract heap. -/
namespace VS
open PySem PySem.Spec PyProof.Rows L2

abbrev D := PyData
/-- a key of a simple dict as data -/
def kD : Key → D
  | .inl i => .int i
  | .inr s => .str s
/-- what a slot holds: shared data (never changed from here), or a list, a dict that is this slot's own -/
inductive T where
  | shr (d : D)
  | lst (xs : List D)
  | dic (kvs : List (Key × D))
def T.toD : T → D
  | .shr d => d
  | .lst xs => .list xs
  | .dic kvs => .dict (List.zip (kvs.map fun p => kD p.1) (kvs.map fun p => p.2))
def T.own : T → Bool
  | .shr _ => false
  | .lst _ => true
  | .dic _ => true
abbrev Env := List (Option T)
/-- an own exception: the class's number, its fields -/
structure Exn where
  cls : Nat
  args : List D
inductive R (α : Type) where
  | ok (a : α) (ρ : Env)
  | exn (x : Exn) (ρ : Env)
  | stk
abbrev M (α : Type) := Env → R α
def ret {α : Type} (a : α) : M α := fun ρ => .ok a ρ
def bnd {α β : Type} (m : M α) (f : α → M β) : M β := fun ρ => match m ρ with
  | .ok a ρ' => f a ρ'
  | .exn x ρ' => .exn x ρ'
  | .stk => .stk
/-- an operand: data, or the slot whose own list or dict it is -/
inductive O where
  | val (d : D)
  | ref (i : Nat)
def O.get (ρ : Env) : O → Option D
  | .val d => some d
  | .ref i => match ρ[i]? with
    | some (some t) => some t.toD
    | _ => none

/-! ### data over the abstract heap -/
abbrev Av := Addr → Prop
def KT (K : PySem.W.Frag) (a : Addr) (xs : List V) : Prop :=
  ∃ (ob : Obj) (its : Array Value) (n : Nat), K.lookup a = some ob ∧ ob.cls = .type "tuple" ∧ ob.data = .seq its n ∧ its.size ≤ sizeLine ∧ Vals xs its.toList
mutual
inductive Dn (K : PySem.W.Frag) (B : Av) (H : Hp) : V → D → Prop where
  | non : Dn K B H .non .none
  | bl (b : Bool) : Dn K B H (.bl b) (.bool b)
  | int (i : Int) : Dn K B H (.int i) (.int i)
  | str (s : Str) : Dn K B H (.str s) (.str s)
  | lst {a : Addr} {vs : List V} {ds : List D} : H a = some (.lst vs) → ¬ B a → DnAll K B H vs ds → Dn K B H (.ref a) (.list ds)
  | tup {a : Addr} {vs : List V} {ds : List D} : H a = some (.tup vs) → ¬ B a → DnAll K B H vs ds → Dn K B H (.ref a) (.tuple ds)
  | tupK {a : Addr} {vs : List V} {ds : List D} : KT K a vs → DnAll K B H vs ds → Dn K B H (.ref a) (.tuple ds)
  | scr {a : Addr} {ob : Obj} {vs : List V} {ds : List D} : H a = some (.frz ob (.lst vs)) → ¬ B a → DnAll K B H vs ds → Dn K B H (.ref a) (.dict [(.bool true, .list ds)])
  | scrK {a : Addr} {vs : List V} {ds : List D} : (∃ (o : Obj) (its : Array Value) (n : Nat), K.lookup a = some o ∧ o.cls = .type "list" ∧ o.dict = none ∧ o.data = .seq its n ∧ its.size ≤ sizeLine ∧ Vals vs its.toList) → DnAll K B H vs ds → Dn K B H (.ref a) (.dict [(.bool true, .list ds)])
  | dic {a : Addr} {ks : List Key} {vs : List V} {ds : List D} : H a = some (.dK (List.zip ks vs)) → ¬ B a → ks.length = vs.length → DnAll K B H vs ds → Dn K B H (.ref a) (.dict (List.zip (ks.map kD) ds))
inductive DnAll (K : PySem.W.Frag) (B : Av) (H : Hp) : List V → List D → Prop where
  | nil : DnAll K B H [] []
  | cons {v : V} {vs : List V} {d : D} {ds : List D} : Dn K B H v d → DnAll K B H vs ds → DnAll K B H (v :: vs) (d :: ds)
end
section
variable {K : PySem.W.Frag} {B B' : Av} {H H' H2 : Hp} {v : V} {vs ws : List V} {d : D} {ds es : List D}
/-- what stands outside of B is kept, and outside of B' -/
def Mv (B : Av) (H : Hp) (B' : Av) (H' : Hp) : Prop := ∀ a o, H a = some o → ¬ B a → H' a = some o ∧ ¬ B' a
theorem Mv.refl : Mv B H B H := fun _ _ h n => ⟨h, n⟩
theorem Mv.trans {B2 : Av} (x : Mv B H B' H') (y : Mv B' H' B2 H2) : Mv B H B2 H2 := fun a o h n => y a o (x a o h n).1 (x a o h n).2
theorem Mv.less (h : ∀ a, B' a → B a) : Mv B H B' H := fun _ _ e n => ⟨e, fun z => n (h _ z)⟩
theorem rd_mv {a : Addr} {u : HO} (m : Mv B H B' H') (r : Rd H a u) (n : ¬ B a) : Rd H' a u ∧ ¬ B' a := by
  rcases r with r | ⟨o, r⟩
  · exact ⟨.inl (m _ _ r n).1, (m _ _ r n).2⟩
  · exact ⟨.inr ⟨o, (m _ _ r n).1⟩, (m _ _ r n).2⟩
mutual
theorem Dn.mv (m : Mv B H B' H') : ∀ {v : V} {d : D}, Dn K B H v d → Dn K B' H' v d
  | _, _, .non => .non
  | _, _, .bl b => .bl b
  | _, _, .int i => .int i
  | _, _, .str s => .str s
  | _, _, .lst e n t => .lst (m _ _ e n).1 (m _ _ e n).2 (DnAll.mv m t)
  | _, _, .tup e n t => .tup (m _ _ e n).1 (m _ _ e n).2 (DnAll.mv m t)
  | _, _, .scr e n t => .scr (m _ _ e n).1 (m _ _ e n).2 (DnAll.mv m t)
  | _, _, .scrK e t => .scrK e (DnAll.mv m t)
  | _, _, .tupK k t => .tupK k (DnAll.mv m t)
  | _, _, .dic e n l t => .dic (m _ _ e n).1 (m _ _ e n).2 l (DnAll.mv m t)
theorem DnAll.mv (m : Mv B H B' H') : ∀ {vs : List V} {ds : List D}, DnAll K B H vs ds → DnAll K B' H' vs ds
  | _, _, .nil => .nil
  | _, _, .cons h t => .cons (Dn.mv m h) (DnAll.mv m t)
end
theorem DnAll.len : ∀ {vs : List V} {ds : List D}, DnAll K B H vs ds → vs.length = ds.length
  | _, _, .nil => rfl
  | _, _, .cons _ t => congrArg (· + 1) (DnAll.len t)
theorem DnAll.app : ∀ {vs ws : List V} {ds es : List D}, DnAll K B H vs ds → DnAll K B H ws es → DnAll K B H (vs ++ ws) (ds ++ es)
  | _, _, _, _, .nil, s => s
  | _, _, _, _, .cons h t, s => .cons h (DnAll.app t s)
theorem DnAll.get : ∀ {vs : List V} {ds : List D} {i : Nat} {d : D}, DnAll K B H vs ds → ds[i]? = some d → ∃ v, vs[i]? = some v ∧ Dn K B H v d
  | _, _, _, _, .nil, e => by simp at e
  | _, _, 0, _, .cons h _, e => ⟨_, rfl, by cases e; exact h⟩
  | _, _, i + 1, _, .cons _ t, e => DnAll.get (i := i) t e
theorem DnAll.getV : ∀ {vs : List V} {ds : List D} {i : Nat} {v : V}, DnAll K B H vs ds → vs[i]? = some v → ∃ d, ds[i]? = some d ∧ Dn K B H v d
  | _, _, _, _, .nil, e => by simp at e
  | _, _, 0, _, .cons h _, e => ⟨_, rfl, by cases e; exact h⟩
  | _, _, i + 1, _, .cons _ t, e => DnAll.getV (i := i) t e
theorem DnAll.take : ∀ {vs : List V} {ds : List D} (n : Nat), DnAll K B H vs ds → DnAll K B H (vs.take n) (ds.take n)
  | _, _, 0, _ => .nil
  | _, _, _ + 1, .nil => .nil
  | _, _, n + 1, .cons h t => .cons h (DnAll.take n t)
theorem DnAll.drop : ∀ {vs : List V} {ds : List D} (n : Nat), DnAll K B H vs ds → DnAll K B H (vs.drop n) (ds.drop n)
  | _, _, 0, h => h
  | _, _, _ + 1, .nil => .nil
  | _, _, n + 1, .cons _ t => DnAll.drop n t
theorem DnAll.rev : ∀ {vs : List V} {ds : List D}, DnAll K B H vs ds → DnAll K B H vs.reverse ds.reverse
  | _, _, .nil => .nil
  | _, _, .cons h t => by
    rw [List.reverse_cons, List.reverse_cons]
    exact (DnAll.rev t).app (.cons h .nil)
theorem DnAll.set : ∀ {vs : List V} {ds : List D} (i : Nat) {v : V} {d : D}, DnAll K B H vs ds → Dn K B H v d → DnAll K B H (vs.set i v) (ds.set i d)
  | _, _, _, _, _, .nil, _ => .nil
  | _, _, 0, _, _, .cons _ t, h => .cons h t
  | _, _, i + 1, _, _, .cons h t, h' => .cons h (DnAll.set i t h')
theorem canLay_mem : ∀ {xs : List PyData}, PyData.canLayAll0 xs = true → ∀ x ∈ xs, PyData.canLay0 x = true
  | [], _, x, hx => by cases hx
  | y :: ys, h, x, hx => by
    rw [PyData.canLayAll0, Bool.and_eq_true] at h
    rcases List.mem_cons.mp hx with e | e
    · rw [e]; exact h.1
    · exact canLay_mem h.2 x e
mutual
/-- as the library reads data -/
theorem Dn.dp : ∀ {v : V} {d : D}, Dn K B H v d → PyData.canLay0 d = true → Dp K H v d
  | _, _, .non, _ => .non
  | _, _, .bl b, _ => .bl b
  | _, _, .int i, _ => .int i
  | _, _, .str s, _ => .str s
  | _, _, .lst r _ t, c => .lst (.inl (.inl r)) (DnAll.dp t (by simpa only [PyData.canLay0] using c))
  | _, _, .tup r _ t, c => .tup (.inl (.inl r)) (DnAll.dp t (by simpa only [PyData.canLay0] using c))
  | _, _, .tupK k t, c => .tup (.inr k) (DnAll.dp t (by simpa only [PyData.canLay0] using c))
  | _, _, .scr _ _ _, c => by simp [PyData.canLay0] at c
  | _, _, .scrK _ _, c => by simp [PyData.canLay0] at c
  | _, _, .dic _ _ _ _, c => by simp [PyData.canLay0] at c
theorem DnAll.dp : ∀ {vs : List V} {ds : List D}, DnAll K B H vs ds → PyData.canLayAll0 ds = true → DpAll K H vs ds
  | _, _, .nil, _ => .nil
  | _, _, .cons h t, c => by
    rw [PyData.canLayAll0, Bool.and_eq_true] at c
    exact .cons (Dn.dp h c.1) (DnAll.dp t c.2)
end
end
/-- data that the library compares: no dict, good texts, not deep -/
def okAt : Nat → D → Bool
  | _, .none => true
  | _, .bool _ => true
  | _, .int _ => true
  | _, .str s => PyData.strOk s
  | 0, _ => false
  | n + 1, .list xs => xs.all (okAt n)
  | n + 1, .tuple xs => xs.all (okAt n)
  | _ + 1, .dict _ => false
def okD (d : D) : Bool := okAt 60 d
theorem lay_all : ∀ {xs : List PyData}, (∀ x ∈ xs, PyData.canLay0 x = true) → PyData.canLayAll0 xs = true
  | [], _ => by rw [PyData.canLayAll0]
  | x :: xs, h => by
    rw [PyData.canLayAll0, h x (.head _), lay_all fun y hy => h y (.tail _ hy)]
    rfl
theorem depth_all {n : Nat} : ∀ {xs : List PyData}, (∀ x ∈ xs, PyData.depth x ≤ n) → PyData.depthAll xs ≤ n
  | [], _ => by rw [PyData.depthAll]; exact Nat.zero_le _
  | x :: xs, h => by
    rw [PyData.depthAll]
    exact Nat.max_le.mpr ⟨h x (.head _), depth_all fun y hy => h y (.tail _ hy)⟩
theorem okAt_lay : ∀ {n : Nat} {d : D}, okAt n d = true → PyData.canLay0 d = true ∧ PyData.depth d ≤ n := by
  intro n
  induction n with
  | zero =>
    intro d h
    cases d <;> first | exact ⟨by simpa only [PyData.canLay0, okAt] using h, by simp only [PyData.depth]; exact Nat.zero_le _⟩ | exact absurd h (by simp [okAt])
  | succ n ih =>
    intro d h
    cases d with
    | list xs =>
      have h' := List.all_eq_true.mp (show xs.all (okAt n) = true from h)
      refine ⟨?_, ?_⟩
      · rw [PyData.canLay0]; exact lay_all fun x hx => (ih (h' x hx)).1
      · rw [PyData.depth]; exact Nat.succ_le_succ (depth_all fun x hx => (ih (h' x hx)).2)
    | tuple xs =>
      have h' := List.all_eq_true.mp (show xs.all (okAt n) = true from h)
      refine ⟨?_, ?_⟩
      · rw [PyData.canLay0]; exact lay_all fun x hx => (ih (h' x hx)).1
      · rw [PyData.depth]; exact Nat.succ_le_succ (depth_all fun x hx => (ih (h' x hx)).2)
    | dict _ => exact absurd h (by simp [okAt])
    | _ => exact ⟨by simpa only [PyData.canLay0, okAt] using h, by simp only [PyData.depth]; exact Nat.zero_le _⟩
theorem okD_shaped {d : D} (h : okD d = true) : SeqAt.shaped d = true := by
  obtain ⟨a, b⟩ := okAt_lay h
  exact Bool.and_eq_true_iff.mpr ⟨a, decide_eq_true (Nat.le_trans b (by decide))⟩
theorem okD_lay {d : D} (h : okD d = true) : PyData.canLay0 d = true := (okAt_lay h).1

/-! ### what slots hold, over the abstract heap -/
/-- the own list or dict of slot i stands at a -/
def Own (σ : L2.St) (ρ : Env) (a : Addr) : Prop := ∃ (i : Nat) (t : T), ρ[i]? = some (some t) ∧ t.own = true ∧ σ[i]? = some (some (.ref a))
abbrev Both (U W : Av) : Av := fun a => U a ∨ W a
def OwnT (t : T) (v : V) (a : Addr) : Prop := t.own = true ∧ v = .ref a
def RT (K : PySem.W.Frag) (B : Av) (H : Hp) (v : V) : T → Prop
  | .shr d => Dn K B H v d
  | .lst ds => ∃ (a : Addr) (vs : List V), v = .ref a ∧ H a = some (.lst vs) ∧ DnAll K B H vs ds
  | .dic kds => ∃ (a : Addr) (vs : List V), v = .ref a ∧ H a = some (.dK (List.zip (kds.map (·.1)) vs)) ∧ DnAll K B H vs (kds.map (·.2))
structure Rel (K : PySem.W.Frag) (U : Av) (H : Hp) (σ : L2.St) (ρ : Env) : Prop where
  len : σ.length = ρ.length
  slot : ∀ (i : Nat) (t : T), ρ[i]? = some (some t) → ∃ v, σ[i]? = some (some v) ∧ RT K (Both U (Own σ ρ)) H v t
  tr : ∀ a, U a → ∃ o, H a = some o
  nu : ∀ a, Own σ ρ a → ¬ U a
  inj : ∀ (i j : Nat) (t u : T) (a : Addr), ρ[i]? = some (some t) → t.own = true → σ[i]? = some (some (.ref a)) → ρ[j]? = some (some u) → u.own = true → σ[j]? = some (some (.ref a)) → i = j
/-- from a state to a later one: what was tracked stays, what was nobody's own stays as it was and nobody's own -/
structure Ext (W : Av) (H : Hp) (W' : Av) (H' : Hp) : Prop where
  mv : Mv W H W' H'
  dom : ∀ a o, H a = some o → ∃ o', H' a = some o'
section
variable {K : PySem.W.Frag} {B B' U U' W W' W2 : Av} {H H' H2 : Hp} {v : V} {σ σ' : L2.St} {ρ ρ' : Env} {t : T}
theorem Ext.refl : Ext W H W H := ⟨Mv.refl, fun _ o h => ⟨o, h⟩⟩
theorem Ext.trans (x : Ext W H W' H') (y : Ext W' H' W2 H2) : Ext W H W2 H2 := ⟨x.mv.trans y.mv, fun a o h => let ⟨_, h'⟩ := x.dom a o h; y.dom a _ h'⟩
theorem Ext.less (x : Ext W H W' H') (h : ∀ a, W2 a → W' a) : Ext W H W2 H' := ⟨fun a o e n => ⟨(x.mv a o e n).1, fun z => (x.mv a o e n).2 (h a z)⟩, x.dom⟩
theorem Ext.more (x : Ext W H W' H') (h : ∀ a, W a → W2 a) : Ext W2 H W' H' := ⟨fun a o e n => x.mv a o e fun z => n (h a z), x.dom⟩
theorem Ext.of_same (s : Same H H') : Ext W H W H' := ⟨fun a o e n => ⟨s a o e, n⟩, fun a o e => ⟨o, s a o e⟩⟩
/-- .. with U that is kept out of both -/
theorem Ext.both (x : Ext W H W' H') : Mv (Both U W) H (Both U W') H' := fun a o e n => ⟨(x.mv a o e fun z => n (.inr z)).1, fun z => z.elim (fun u => n (.inl u)) (x.mv a o e fun z => n (.inr z)).2⟩
theorem RT.mv (m : Mv B H B' H') (k : t.own = true → ∀ a o, v = .ref a → H a = some o → H' a = some o) (r : RT K B H v t) : RT K B' H' v t := by
  cases t with
  | shr d => exact Dn.mv m r
  | lst ds => obtain ⟨a, vs, e, h, x⟩ := r; exact ⟨a, vs, e, k rfl _ _ e h, x.mv m⟩
  | dic kds => obtain ⟨a, vs, e, h, x⟩ := r; exact ⟨a, vs, e, k rfl _ _ e h, x.mv m⟩
theorem RT.ref (r : RT K B H v t) (h : t.own = true) : ∃ a o, v = .ref a ∧ H a = some o := by
  cases t with
  | shr d => cases h
  | lst ds => obtain ⟨a, vs, e, h, x⟩ := r; exact ⟨a, _, e, h⟩
  | dic kds => obtain ⟨a, vs, e, h, x⟩ := r; exact ⟨a, _, e, h⟩
theorem Rel.tracked (R : Rel K U H σ ρ) {a : Addr} (h : Own σ ρ a) : ∃ o, H a = some o := by
  obtain ⟨i, t, e1, e2, e3⟩ := h
  obtain ⟨w, f1, r⟩ := R.slot i t e1
  obtain ⟨b, o, eb, ho⟩ := r.ref e2
  rw [e3] at f1
  cases f1
  cases eb
  exact ⟨o, ho⟩
/-- the own part freezes: it is data, nobody's own -/
theorem RT.frz (r : RT K B H v t) (n : ∀ a, v = .ref a → t.own = true → ¬ B a) : Dn K B H v t.toD := by
  cases t with
  | shr d => exact r
  | lst ds => obtain ⟨a, vs, rfl, h, x⟩ := r; exact .lst h (n a rfl rfl) x
  | dic kds =>
    obtain ⟨a, vs, rfl, h, x⟩ := r
    have e : T.toD (.dic kds) = .dict (List.zip ((kds.map (·.1)).map kD) (kds.map (·.2))) := by
      show PyData.dict _ = _
      rw [List.map_map]
      rfl
    rw [e]
    exact .dic h (n a rfl rfl) (by rw [List.length_map, x.len, List.length_map]) x
/-- what is tracked, with fewer, or new, things to keep out of -/
theorem Rel.grow (R : Rel K U H σ ρ) (s : Same H H') (h : ∀ a, U' a → U a ∨ H a = none) (t : ∀ a, U' a → ∃ o, H' a = some o) : Rel K U' H' σ ρ := by
  have m : Mv (Both U (Own σ ρ)) H (Both U' (Own σ ρ)) H' := fun a o e n => ⟨s a o e, fun z => by
    rcases z with z | z
    · rcases h a z with q | q
      · exact n (.inl q)
      · rw [q] at e; cases e
    · exact n (.inr z)⟩
  refine ⟨R.len, fun i t e => ?_, t, fun a o z => ?_, R.inj⟩
  · obtain ⟨v, e1, r⟩ := R.slot i t e
    exact ⟨v, e1, r.mv m fun _ a o _ q => s a o q⟩
  · rcases h a z with q | q
    · exact R.nu a o q
    · obtain ⟨ob, e⟩ := R.tracked o
      rw [q] at e; cases e
end
end VS
set_option Elab.async false
set_option linter.all false
set_option maxRecDepth 100000
/-! The VS layer, part B: outcomes as readings; sequences; names; operands. -/
namespace VS
open PySem PySem.Spec PyProof.Rows L2

/-- what an own exception is: the class's object, no fields told -/
def RX (CA : Nat → Addr) (c : Value) (dx : Option Addr) (x : Exn) : Prop := c = .ref (CA x.cls) ∧ x.args = [] ∧ dx = none
/-- what is known around: the written part, the classes' addresses, what is wanted of an exception -/
structure Wd where
  K : PySem.W.Frag
  CA : Nat → Addr
  E : WX
section
variable (C : Wd) (U : Av) (σ : L2.St)
/-- an outcome, as a reading: from H, ρ -/
def Post {α β : Type} (RR : Hp → Env → β → α → Prop) (OW : β → α → Av) (H : Hp) (ρ : Env) (Q : β → Hp → Prop) : R α → Prop
  | .ok a ρ' => ∀ b H', RR H' ρ' b a → Ext (Own σ ρ) H (Both (Own σ ρ') (OW b a)) H' → Q b H'
  | .exn x ρ' => ∀ c dx H', RX C.CA c dx x → Rel C.K U H' σ ρ' → Ext (Own σ ρ) H (Own σ ρ') H' → C.E c dx σ H'
  | .stk => False
structure RelR (K : PySem.W.Frag) (U : Av) (σ : L2.St) (H : Hp) (ρ : Env) (v : V) (t : T) : Prop where
  rel : Rel K (Both U (OwnT t v)) H σ ρ
  val : RT K (Both (Both U (OwnT t v)) (Own σ ρ)) H v t
  nu : ∀ a, OwnT t v a → ¬ U a
def RO (K : PySem.W.Frag) (U : Av) (σ : L2.St) (H : Hp) (ρ : Env) (v : V) : O → Prop
  | .val d => Dn K (Both U (Own σ ρ)) H v d
  | .ref i => σ[i]? = some (some v)
inductive ROs (K : PySem.W.Frag) (U : Av) (σ : L2.St) (H : Hp) (ρ : Env) : List V → List O → Prop where
  | nil : ROs K U σ H ρ [] []
  | cons {v : V} {vs : List V} {o : O} {os : List O} : RO K U σ H ρ v o → ROs K U σ H ρ vs os → ROs K U σ H ρ (v :: vs) (o :: os)
end
def noOw {α β : Type} : β → α → Av := fun _ _ _ => False
/-- the readings -/
def tE (C : Wd) (m : M T) : TE := fun σ H Q => ∃ U ρ, Rel C.K U H σ ρ ∧ Post C U σ (RelR C.K U σ) (fun v t => OwnT t v) H ρ Q (m ρ)
def tO (C : Wd) (m : M O) : TE := fun σ H Q => ∃ U ρ, Rel C.K U H σ ρ ∧ Post C U σ (fun H' ρ' v o => Rel C.K U H' σ ρ' ∧ RO C.K U σ H' ρ' v o) noOw H ρ Q (m ρ)
def tOs (C : Wd) (m : M (List O)) : TA := fun σ H Q => ∃ U ρ, Rel C.K U H σ ρ ∧ Post C U σ (fun H' ρ' vs os => Rel C.K U H' σ ρ' ∧ ROs C.K U σ H' ρ' vs os) noOw H ρ Q (m ρ)
def tT (C : Wd) (m : M Bool) : TT := fun σ H Q => ∃ U ρ, Rel C.K U H σ ρ ∧ Post C U σ (fun H' ρ' b c => Rel C.K U H' σ ρ' ∧ b = c) noOw H ρ Q (m ρ)

section
variable {C : Wd} {U : Av} {σ : L2.St} {H H1 : Hp} {ρ ρ1 : Env} {α β γ δ : Type}
theorem Post.shift {RR : Hp → Env → β → α → Prop} {OW : β → α → Av} {Q : β → Hp → Prop} {r : R α} (h : Post C U σ RR OW H ρ Q r) (x : Ext (Own σ ρ) H (Own σ ρ1) H1) : Post C U σ RR OW H1 ρ1 Q r := by
  cases r with
  | ok a ρ' => exact fun b H' rr y => h b H' rr (x.trans y)
  | exn e ρ' => exact fun c dx H' rx R y => h c dx H' rx R (x.trans y)
  | stk => exact h
theorem Post.imp {RR RR' : Hp → Env → β → α → Prop} {OW OW' : β → α → Av} {Q Q' : β → Hp → Prop} {r : R α} (h : Post C U σ RR OW H ρ Q r)
    (k : ∀ a ρ' b H', RR' H' ρ' b a → Ext (Own σ ρ) H (Both (Own σ ρ') (OW' b a)) H' → (∀ b H', RR H' ρ' b a → Ext (Own σ ρ) H (Both (Own σ ρ') (OW b a)) H' → Q b H') → Q' b H') : Post C U σ RR' OW' H ρ Q' r := by
  cases r with
  | ok a ρ' => exact fun b H' rr y => k a ρ' b H' rr y h
  | exn e ρ' => exact h
  | stk => exact h
/-- one behind another -/
theorem Post.seq {RR1 : Hp → Env → β → α → Prop} {OW1 : β → α → Av} {RR2 : Hp → Env → δ → γ → Prop} {OW2 : δ → γ → Av} {Q1 : β → Hp → Prop} {Q2 : δ → Hp → Prop} {m : M α} {f : α → M γ}
    (h : Post C U σ RR2 OW2 H ρ Q2 (bnd m f ρ))
    (k : ∀ a ρ1 b H1, RR1 H1 ρ1 b a → Ext (Own σ ρ) H (Both (Own σ ρ1) (OW1 b a)) H1 → Post C U σ RR2 OW2 H1 ρ1 Q2 (f a ρ1) → Q1 b H1) : Post C U σ RR1 OW1 H ρ Q1 (m ρ) := by
  unfold bnd at h
  cases e : m ρ with
  | ok a ρ1 =>
    rw [e] at h
    exact fun b H' rr y => k a ρ1 b H' rr y (Post.shift h (y.less fun a z => .inl z))
  | exn x ρ1 =>
    rw [e] at h
    exact h
  | stk =>
    rw [e] at h
    exact h
end
section
variable {K : PySem.W.Frag} {U U' : Av} {σ : L2.St} {H H' : Hp} {ρ ρ' : Env} {v : V} {t : T} {o : O}
theorem Rel.less (R : Rel K U H σ ρ) (h : ∀ a, U' a → U a) : Rel K U' H σ ρ := R.grow (fun _ _ e => e) (fun a z => .inl (h a z)) fun a z => R.tr a (h a z)
theorem RelR.drop (R : RelR K U σ H ρ v t) : Rel K U H σ ρ := R.rel.less fun _ z => .inl z
/-- a value of its own freezes -/
theorem RelR.frz (R : RelR K U σ H ρ v t) : Dn K (Both U (Own σ ρ)) H v t.toD := by
  have r : RT K (Both U (Own σ ρ)) H v t := R.val.mv (Mv.less fun a z => z.elim (fun u => .inl (.inl u)) .inr) fun _ _ _ _ h => h
  exact r.frz fun a e o z => z.elim (fun u => R.nu a ⟨o, e⟩ u) fun w => R.rel.nu a w (.inr ⟨o, e⟩)
theorem RO.ext (r : RO K U σ H ρ v o) (x : Ext (Own σ ρ) H (Own σ ρ') H') : RO K U σ H' ρ' v o := by
  cases o with
  | val d => exact Dn.mv x.both r
  | ref i => exact r
theorem ROs.ext {vs : List V} {os : List O} (r : ROs K U σ H ρ vs os) (x : Ext (Own σ ρ) H (Own σ ρ') H') : ROs K U σ H' ρ' vs os := by
  induction r with
  | nil => exact .nil
  | cons h _ ih => exact .cons (h.ext x) ih
/-- a shared value -/
theorem RelR.shr {d : D} (R : Rel K U H σ ρ) (h : Dn K (Both U (Own σ ρ)) H v d) : RelR K U σ H ρ v (.shr d) := by
  have nw : ∀ a, ¬ OwnT (.shr d) v a := fun a z => by cases z.1
  exact ⟨R.less fun a z => z.elim id fun w => (nw a w).elim, Dn.mv (Mv.less fun a z => z.elim (fun w => w.elim .inl fun q => (nw a q).elim) .inr) h, fun a z => (nw a z).elim⟩
end
theorem ext_noOw {σ : L2.St} {ρ ρ' : Env} {H H' : Hp} {W : Av} (x : Ext (Own σ ρ) H W H') (h : ∀ a, Own σ ρ' a → W a) : Ext (Own σ ρ) H (Both (Own σ ρ') fun _ => False) H' := x.less fun a z => z.elim (h a) False.elim

section
variable {X : Cx}
theorem _root_.L2.PE.mono {e : Expr} {t t' : TE} (h : PE X e t) (k : ∀ σ H Q, t' σ H Q → t σ H Q) : PE X e t' := ⟨fun pins s σ H Q I q => h.run pins s σ H Q I (k σ H Q q)⟩
theorem _root_.L2.PT.mono {e : Expr} {t t' : TT} (h : PT X e t) (k : ∀ σ H Q, t' σ H Q → t σ H Q) : PT X e t' := ⟨fun pins s σ H Q I q => h.run pins s σ H Q I (k σ H Q q)⟩
theorem _root_.L2.PW.mono {e : Expr} {t t' : TT} (h : PW X e t) (k : ∀ σ H Q, t' σ H Q → t σ H Q) : PW X e t' := ⟨fun w pins s σ H Q I q => h.run w pins s σ H Q I (k σ H Q q)⟩
theorem _root_.L2.PA.mono {es : List Expr} {t t' : TA} (h : PA X es t) (k : ∀ σ H Q, t' σ H Q → t σ H Q) : PA X es t' := ⟨fun pos pins s σ H Q I q => h.run pos pins s σ H Q I (k σ H Q q)⟩
theorem _root_.L2.PS.mono {st : Stmt} {t t' : TS} (h : PS X st t) (k : ∀ D σ H, t' D σ H → t D σ H) : PS X st t' := ⟨fun pins s σ H D I q => h.run pins s σ H D I (k D σ H q)⟩
theorem _root_.L2.PSs.mono {st : List Stmt} {t t' : TS} (h : PSs X st t) (k : ∀ D σ H, t' D σ H → t D σ H) : PSs X st t' := ⟨fun pins s σ H D I q => h.run pins s σ H D I (k D σ H q)⟩
variable {C : Wd}

/-! ### constants, names -/
def mLit (d : D) : M T := ret (.shr d)
theorem se_lit {e : Expr} {v : V} {d : D} (h : PE X e (tC v)) (hd : ∀ B H, Dn C.K B H v d) : PE X e (tE C (mLit d)) := h.mono fun σ H Q ⟨U, ρ, R, p⟩ => p v H (RelR.shr R (hd _ _)) (Ext.refl.less fun a z => z.elim id fun w => by cases w.1)
/-- a name as an operand: its own list or dict by its place -/
def mOslot (i : Nat) : M O := fun ρ => match ρ[i]? with
  | some (some (.shr d)) => .ok (.val d) ρ
  | some (some _) => .ok (.ref i) ρ
  | _ => .stk
/-- a name as a value: what is its own freezes -/
def mSlot (i : Nat) : M T := fun ρ => match ρ[i]? with
  | some (some (.shr d)) => .ok (.shr d) ρ
  | some (some t) => .ok (.shr t.toD) (ρ.set i (some (.shr t.toD)))
  | _ => .stk
theorem se_oslot {e : Expr} {i : Nat} (h : PE X e (tVar i)) : PE X e (tO C (mOslot i)) := h.mono fun σ H Q ⟨U, ρ, R, p⟩ => by
  unfold mOslot at p
  cases e : ρ[i]? with
  | none => rw [e] at p; exact p.elim
  | some w =>
    cases w with
    | none => rw [e] at p; exact p.elim
    | some t =>
      obtain ⟨v, e1, r⟩ := R.slot i t e
      refine ⟨v, e1, ?_⟩
      rw [e] at p
      have x : ∀ o : O, Ext (Own σ ρ) H (Both (Own σ ρ) (noOw v o)) H := fun o => ext_noOw Ext.refl fun _ z => z
      cases t with
      | shr d => exact p v H ⟨R, r⟩ (x _)
      | lst ds => exact p v H ⟨R, e1⟩ (x _)
      | dic ds => exact p v H ⟨R, e1⟩ (x _)
section
variable {K : PySem.W.Frag} {U : Av} {σ : L2.St} {H : Hp} {ρ : Env} {i : Nat} {t : T}
/-- one slot's content is replaced by what is nobody's own -/
theorem own_set_shr {a : Addr} {d : D} (h : Own σ (ρ.set i (some (.shr d))) a) : Own σ ρ a := by
  obtain ⟨j, u, e1, e2, e3⟩ := h
  by_cases hj : i = j
  · subst hj
    by_cases hl : i < ρ.length
    · rw [List.getElem?_set_self hl] at e1
      cases e1
      cases e2
    · rw [List.getElem?_eq_none (by simpa using hl)] at e1
      cases e1
  · rw [List.getElem?_set_ne hj] at e1
    exact ⟨j, u, e1, e2, e3⟩
theorem Rel.freeze (R : Rel K U H σ ρ) (e : ρ[i]? = some (some t)) : Rel K U H σ (ρ.set i (some (.shr t.toD))) := by
  have hl : i < ρ.length := (List.getElem?_eq_some_iff.mp e).1
  obtain ⟨v, e1, r⟩ := R.slot i t e
  -- what slot i owns is nobody's own behind it
  have out : ∀ a, t.own = true → v = .ref a → ¬ Own σ (ρ.set i (some (.shr t.toD))) a := by
    intro a o ev z
    obtain ⟨j, u, f1, f2, f3⟩ := z
    by_cases hj : i = j
    · subst hj
      rw [List.getElem?_set_self hl] at f1
      cases f1
      cases f2
    · rw [List.getElem?_set_ne hj] at f1
      rw [ev] at e1
      exact hj (R.inj i j t u a e o e1 f1 f2 f3)
  have m : Mv (Both U (Own σ ρ)) H (Both U (Own σ (ρ.set i (some (.shr t.toD))))) H := Mv.less fun a z => z.elim .inl fun w => .inr (own_set_shr w)
  refine ⟨by rw [List.length_set]; exact R.len, fun j u f => ?_, R.tr, fun a z => R.nu a (own_set_shr z), fun j k u w a f1 f2 f3 g1 g2 g3 => ?_⟩
  · by_cases hj : i = j
    · subst hj
      rw [List.getElem?_set_self hl] at f
      cases f
      refine ⟨v, e1, RT.frz (r.mv m fun _ _ _ _ h => h) fun a ev o z => ?_⟩
      rcases z with z | z
      · exact R.nu a ⟨i, t, e, o, by rw [e1, ev]⟩ z
      · exact out a o ev z
    · rw [List.getElem?_set_ne hj] at f
      obtain ⟨w, g1, g2⟩ := R.slot j u f
      exact ⟨w, g1, g2.mv m fun _ _ _ _ h => h⟩
  · by_cases hj : i = j
    · subst hj
      rw [List.getElem?_set_self hl] at f1
      cases f1
      cases f2
    · by_cases hk : i = k
      · subst hk
        rw [List.getElem?_set_self hl] at g1
        cases g1
        cases g2
      · rw [List.getElem?_set_ne hj] at f1
        rw [List.getElem?_set_ne hk] at g1
        exact R.inj j k u w a f1 f2 f3 g1 g2 g3
theorem Ext.freeze {d : D} : Ext (Own σ ρ) H (Own σ (ρ.set i (some (.shr d)))) H := Ext.refl.less fun a z => own_set_shr z
end
theorem se_slot {e : Expr} {i : Nat} (h : PE X e (tVar i)) : PE X e (tE C (mSlot i)) := h.mono fun σ H Q ⟨U, ρ, R, p⟩ => by
  unfold mSlot at p
  cases e : ρ[i]? with
  | none => rw [e] at p; exact p.elim
  | some w =>
    cases w with
    | none => rw [e] at p; exact p.elim
    | some t =>
      obtain ⟨v, e1, r⟩ := R.slot i t e
      refine ⟨v, e1, ?_⟩
      rw [e] at p
      have hl : i < ρ.length := (List.getElem?_eq_some_iff.mp e).1
      have done : ∀ t : T, ρ[i]? = some (some t) → t.own = true → RelR C.K U σ H (ρ.set i (some (.shr t.toD))) v (.shr t.toD) := fun t e _ => by
        have R' := R.freeze e
        obtain ⟨w, g1, g2⟩ := R'.slot i (.shr t.toD) (List.getElem?_set_self hl)
        rw [e1] at g1
        cases g1
        exact RelR.shr R' g2
      have x : ∀ d : D, Ext (Own σ ρ) H (Both (Own σ (ρ.set i (some (.shr d)))) (OwnT (.shr d) v)) H := fun d => Ext.freeze.less fun a z => z.elim id fun w => by cases w.1
      cases t with
      | shr d => exact p v H (RelR.shr R r) (Ext.refl.less fun a z => z.elim id fun w => by cases w.1)
      | lst ds => exact p v H (done _ e rfl) (x _)
      | dic ds => exact p v H (done _ e rfl) (x _)
/-- any expression as an operand -/
def mOpd (m : M T) : M O := bnd m fun t => ret (.val t.toD)
theorem se_opd {e : Expr} {m : M T} (h : PE X e (tE C m)) : PE X e (tO C (mOpd m)) := h.mono fun σ H Q ⟨U, ρ, R, p⟩ =>
  ⟨U, ρ, R, p.seq fun t ρ1 v H1 rr x q => q v H1 ⟨rr.drop, rr.frz⟩ (Ext.refl.less fun a z => z.elim id False.elim)⟩
/-- operands from the left -/
def mOs : List (M O) → M (List O)
  | [] => ret []
  | m :: ms => bnd m fun o => bnd (mOs ms) fun os => ret (o :: os)
theorem se_onil : PA X [] (tOs C (mOs [])) := pa_nil.mono fun σ H Q ⟨U, ρ, R, p⟩ => p [] H ⟨R, .nil⟩ (ext_noOw Ext.refl fun _ z => z)
theorem se_ocons {e : Expr} {es : List Expr} {m : M O} {ms : List (M O)} (h : PE X e (tO C m)) (hs : PA X es (tOs C (mOs ms))) (he : starEach (e :: es) X.env = (false, eval e X.env) :: starEach es X.env) :
    PA X (e :: es) (tOs C (mOs (m :: ms))) := (pa_cons h hs he).mono fun σ H Q ⟨U, ρ, R, p⟩ => by
  refine ⟨U, ρ, R, p.seq fun o ρ1 v H1 rr x q => ?_⟩
  refine ⟨U, ρ1, rr.1, q.seq fun os ρ2 vs H2 rs y z => ?_⟩
  exact z (v :: vs) H2 ⟨rs.1, .cons (rr.2.ext (y.less fun a w => .inl w)) rs.2⟩ (Ext.refl.less fun a w => w.elim id False.elim)
end
end VS
set_option Elab.async false
set_option linter.all false
set_option maxRecDepth 100000
set_option maxHeartbeats 1000000
/-! The VS layer, part C: operations on data, and that the model does them. -/
namespace VS
open PySem PySem.Spec PyProof.Rows L2

inductive Op where
  | add | sub | mul | fdiv | mod | pow
  | eq | ne | lt | le | gt | ge | isin | notin | isN | notN
  | idx | sl (lo hi : Bool)
  | len | isi (ty : String) | tuple | list | int | str | bool | abs | any | all | sum | max2 | min2
  | neg
  | sorted | rev | sumL | repr | sset | rngL
  deriving DecidableEq
def cutL {α : Type} (xs : List α) (lo hi : Option Int) : List α := (xs.drop (HT.sIx xs.length 0 lo)).take (HT.sIx xs.length xs.length hi - HT.sIx xs.length 0 lo)
def dTy : D → String
  | .none => "NoneType"
  | .bool _ => "bool"
  | .int _ => "int"
  | .str _ => "str"
  | .list _ => "list"
  | .tuple _ => "tuple"
  | .dict [(.bool true, .list _)] => "list"
  | .dict _ => "dict"
def isNone : D → Bool
  | .none => true
  | _ => false
def bit? : D → Option Bool
  | .bool b => some b
  | _ => none
def int? : D → Option Int
  | .int i => some i
  | _ => none
def mapO {α β : Type} (f : α → Option β) : List α → Option (List β)
  | [] => some []
  | x :: xs => match f x, mapO f xs with
    | some y, some ys => some (y :: ys)
    | _, _ => none
def small64 (i : Int) : Bool := decide (-(2 ^ 64) < i) && decide (i < 2 ^ 64)
def slT (x : D) (lo hi : Option Int) : Option T := match x with
  | .list xs => some (.lst (cutL xs lo hi))
  | .tuple xs => some (.shr (.tuple (cutL xs lo hi)))
  | .str s => if s.length ≤ sizeLine then some (.shr (.str (cutS s lo hi))) else none
  | .dict [(.bool true, .list xs)] => some (.lst (cutL xs lo hi))
  | _ => none
/-- simple dicts as data -/
def unD : D → Option Key
  | .int i => some (.inl i)
  | .str s => some (.inr s)
  | _ => none
def undic : List (D × D) → Option (List (Key × D))
  | [] => some []
  | (k, d) :: r => match unD k, undic r with
    | some k, some r => some ((k, d) :: r)
    | _, _ => none
def valG {α : Type} (kvs : List (Key × α)) (k : Key) : Option α := (kvs.find? fun kv => decide (kv.1 = k)).map (·.2)
/-- a text of one sign -/
def sign? : D → Option Nat
  | .str s => match s.cps.toList with
    | [c] => some c
    | _ => none
  | _ => none
theorem sign_is {d : D} {c : Nat} (h : sign? d = some c) : d = .str ⟨#[c]⟩ := by
  cases d with
  | str s =>
    obtain ⟨⟨l⟩⟩ := s
    match l, h with
    | [x], h => cases h; rfl
  | _ => cases h
def inT (d : D) : D → Option Bool
  | .list xs => if okD d && okD (.list xs) then some (xs.any fun z => PyData.eqv z d) else none
  | .tuple xs => if okD d && okD (.tuple xs) then some (xs.any fun z => PyData.eqv z d) else none
  | .str s => (sign? d).map fun c => decide (c ∈ s.cps.toList)
  | .dict kvs => match unD d, undic kvs with
    | some k, some kds => some (valG kds k).isSome
    | _, _ => none
  | _ => none
def lenT : D → Option Nat
  | .list xs => some xs.length
  | .tuple xs => some xs.length
  | .str s => if s.length ≤ sizeLine then some s.length else none
  | .dict kvs => (undic kvs).map List.length
  | _ => none
def intT : D → Option Int
  | .int i => some i
  | .bool b => some (if b then 1 else 0)
  | .str s => if s.length ≤ 640 then intText? s else none
  | _ => none
/-- sorting -/
def sortD (xs : List D) : List D := xs.mergeSort (PySem.W.dataLe false id)
def alikes (xs : List D) : Bool := xs.all fun d => xs.all fun e => PySem.W.alike d e
def tupNE : D → Bool
  | .tuple (_ :: _) => true
  | _ => false
def noTup : D → Bool
  | .tuple _ => false
  | .none => false
  | _ => true
def sortable (xs : List D) : Bool := xs.all tupNE || xs.all noTup
def sortT (xs : List D) : Option (List D) := if alikes xs && sortable xs && xs.all okD && decide (xs.length ≤ sizeLine) then some (sortD xs) else none
/-- members of a set: ints, or tuples -/
def isIntD : D → Bool
  | .int _ => true
  | _ => false
mutual
/-- data as a key -/
def toNk : D → NestedKey
  | .int i => .num i
  | .str x => .text x
  | .tuple xs => .tup (toNks xs)
  | _ => .none
def toNks : List D → List NestedKey
  | [] => []
  | x :: xs => toNk x :: toNks xs
end
/-- which data: ints, texts, None, tuples of such, to some depth -/
def nkAt : Nat → D → Bool
  | _, .none => true
  | _, .int _ => true
  | _, .str _ => true
  | n + 1, .tuple xs => xs.all (nkAt n)
  | _, _ => false
def dedup : List D → List D
  | [] => []
  | x :: xs => let r := dedup xs; if r.any (fun y => decide (toNk x = toNk y)) then r else x :: r
def list? : D → Option (List D)
  | .list xs => some xs
  | _ => none
/-- what an operation makes of data -/
def opT : Op → List D → Option T
  | .add, [.int i, .int j] => some (.shr (.int (i + j)))
  | .add, [.str a, .str b] => if a.length + b.length ≤ sizeLine then some (.shr (.str (a ++ b))) else none
  | .add, [.list xs, .list ys] => if xs.length + ys.length ≤ sizeLine then some (.lst (xs ++ ys)) else none
  | .add, [.tuple xs, .tuple ys] => if xs.length + ys.length ≤ sizeLine then some (.shr (.tuple (xs ++ ys))) else none
  | .sub, [.int i, .int j] => some (.shr (.int (i - j)))
  | .mul, [.int i, .int j] => if small64 i || small64 j then some (.shr (.int (i * j))) else none
  | .fdiv, [.int i, .int j] => if decide (0 < j) && decide (j < 1073741824) then some (.shr (.int (i / j))) else none
  | .mod, [.int i, .int j] => if 0 < j then some (.shr (.int (i % j))) else none
  | .pow, [.int i, .int j] => if decide (0 ≤ j) && decide (j ≤ 1000000) && decide (i.natAbs < 2 ^ 64) then some (.shr (.int (i ^ j.toNat))) else none
  | .eq, [d, e] => if okD d && okD e then some (.shr (.bool (PyData.eqv d e))) else none
  | .ne, [d, e] => if okD d && okD e then some (.shr (.bool (!PyData.eqv d e))) else none
  | .lt, [.int i, .int j] => some (.shr (.bool (decide (i < j))))
  | .le, [.int i, .int j] => some (.shr (.bool (decide (i ≤ j))))
  | .gt, [.int i, .int j] => some (.shr (.bool (decide (j < i))))
  | .ge, [.int i, .int j] => some (.shr (.bool (decide (j ≤ i))))
  | .isin, [d, e] => (inT d e).map fun b => .shr (.bool b)
  | .notin, [d, e] => (inT d e).map fun b => .shr (.bool (!b))
  | .isN, [d] => some (.shr (.bool (isNone d)))
  | .notN, [d] => some (.shr (.bool (!isNone d)))
  | .idx, [.list xs, .int i] => (atI xs i).map .shr
  | .idx, [.tuple xs, .int i] => (atI xs i).map .shr
  | .idx, [.str s, .int i] => if s.length ≤ sizeLine then (atI s.cps.toList i).map fun c => .shr (.str ⟨#[c]⟩) else none
  | .idx, [.dict kvs, x] => match unD x, undic kvs with
    | some k, some kds => (valG kds k).map .shr
    | _, _ => none
  | .sl false false, [x] => slT x none none
  | .sl true false, [x, .int i] => slT x (some i) none
  | .sl false true, [x, .int j] => slT x none (some j)
  | .sl true true, [x, .int i, .int j] => slT x (some i) (some j)
  | .len, [d] => (lenT d).map fun (n : Nat) => .shr (.int (n : Int))
  | .isi ty, [d] => (kitB (dTy d) ty).map fun b => .shr (.bool b)
  | .tuple, [.list xs] => some (.shr (.tuple xs))
  | .tuple, [.tuple xs] => some (.shr (.tuple xs))
  | .list, [.list xs] => some (.lst xs)
  | .list, [.tuple xs] => some (.lst xs)
  | .list, [.dict kvs] => (undic kvs).map fun kds => .lst (kds.map fun p => kD p.1)
  | .int, [d] => (intT d).map fun i => .shr (.int i)
  | .str, [.int i] => if i.natAbs.log2 < 1920 then some (.shr (.str (toString i))) else none
  | .str, [.str s] => some (.shr (.str s))
  | .bool, [.bool b] => some (.shr (.bool b))
  | .bool, [.int i] => some (.shr (.bool (i != 0)))
  | .abs, [.int i] => some (.shr (.int (if i < 0 then -i else i)))
  | .any, [.list xs] => (mapO bit? xs).map fun bs => .shr (.bool (bs.any id))
  | .all, [.list xs] => (mapO bit? xs).map fun bs => .shr (.bool (bs.all id))
  | .sum, [.list xs] => (mapO int? xs).map fun ns => .shr (.int ns.sum)
  | .max2, [.int i, .int j] => some (.shr (.int (if j > i then j else i)))
  | .min2, [.int i, .int j] => some (.shr (.int (if j < i then j else i)))
  | .neg, [.int i] => some (.shr (.int (-i)))
  | .sorted, [.list xs] => (sortT xs).map .lst
  | .sorted, [.dict kvs] => match undic kvs with
    | some kds => match mapO int? (kds.map fun p => kD p.1) with
      | some ns => if ns.length < 64 then some (.lst (sortD (ns.map .int))) else none
      | none => none
    | none => none
  | .rev, [.list xs] => some (.lst xs.reverse)
  | .rev, [.tuple xs] => some (.shr (.tuple xs.reverse))
  | .sumL, [.list xs] => match mapO list? xs with
    | some ls => if ls.flatten.length ≤ sizeLine then some (.lst ls.flatten) else none
    | none => none
  | .repr, [.list xs] => if okD (.list xs) && (PyData.list xs).showable && decide ((PyData.list xs).shown.length ≤ sizeLine) then some (.shr (.str (PyData.list xs).shown)) else none
  | .repr, [.tuple xs] => if okD (.tuple xs) && (PyData.tuple xs).showable && decide ((PyData.tuple xs).shown.length ≤ sizeLine) then some (.shr (.str (PyData.tuple xs).shown)) else none
  | .sset, [.list xs] => if (xs.all isIntD || (xs.all tupNE && xs.all (nkAt 8) && alikes xs && xs.all okD)) && decide (xs.length < 64) then some (.lst (sortD (dedup xs))) else none
  | .rngL, [.int n] => if decide (0 ≤ n) && decide (n ≤ 1000000) then some (.lst ((List.range n.toNat).map fun (k : Nat) => .int k)) else none
  | _, _ => none

/-! ### operands -/
def DO (K : PySem.W.Frag) (B : Av) (H : Hp) (v : V) (d : D) : Prop := Dn K B H v d ∨ ∃ t : T, t.own = true ∧ d = t.toD ∧ RT K B H v t
inductive DOs (K : PySem.W.Frag) (B : Av) (H : Hp) : List V → List D → Prop where
  | nil : DOs K B H [] []
  | cons {v : V} {vs : List V} {d : D} {ds : List D} : DO K B H v d → DOs K B H vs ds → DOs K B H (v :: vs) (d :: ds)
/-- what is new: shared data, or an own list, dict at a new place -/
def RN (K : PySem.W.Frag) (B : Av) (H H' : Hp) (v : V) : T → Prop
  | .shr d => Dn K B H' v d
  | .lst ds => ∃ (a : Addr) (vs : List V), v = .ref a ∧ H a = none ∧ H' a = some (.lst vs) ∧ DnAll K B H vs ds
  | .dic kds => ∃ (a : Addr) (vs : List V), v = .ref a ∧ H a = none ∧ H' a = some (.dK (List.zip (kds.map (·.1)) vs)) ∧ DnAll K B H vs (kds.map (·.2))
section
variable {K : PySem.W.Frag} {B : Av} {H H' : Hp} {v : V} {d : D} {ds : List D}
theorem toD_own {t : T} (o : t.own = true) : (∃ xs, t.toD = .list xs) ∨ ∃ kvs, t.toD = .dict kvs := by
  cases t with
  | shr _ => cases o
  | lst xs => exact .inl ⟨xs, rfl⟩
  | dic kvs => exact .inr ⟨_, rfl⟩
theorem DO.int {i : Int} (h : DO K B H v (.int i)) : v = .int i := by
  rcases h with h | ⟨t, o, e, _⟩
  · cases h; rfl
  · rcases toD_own o with ⟨_, q⟩ | ⟨_, q⟩ <;> (rw [q] at e; cases e)
theorem DO.bool {b : Bool} (h : DO K B H v (.bool b)) : v = .bl b := by
  rcases h with h | ⟨t, o, e, _⟩
  · cases h; rfl
  · rcases toD_own o with ⟨_, q⟩ | ⟨_, q⟩ <;> (rw [q] at e; cases e)
theorem DO.str {s : Str} (h : DO K B H v (.str s)) : v = .str s := by
  rcases h with h | ⟨t, o, e, _⟩
  · cases h; rfl
  · rcases toD_own o with ⟨_, q⟩ | ⟨_, q⟩ <;> (rw [q] at e; cases e)
theorem DO.list (h : DO K B H v (.list ds)) : ∃ a vs, v = .ref a ∧ H a = some (.lst vs) ∧ DnAll K B H vs ds := by
  rcases h with h | ⟨t, o, e, r⟩
  · cases h with
    | lst e _ t => exact ⟨_, _, rfl, e, t⟩
  · cases t with
    | shr _ => cases o
    | lst xs => cases e; exact r
    | dic _ => cases e
theorem DO.tup (h : DO K B H v (.tuple ds)) : ∃ a vs, v = .ref a ∧ SqT K H a vs ∧ DnAll K B H vs ds := by
  rcases h with h | ⟨t, o, e, r⟩
  · cases h with
    | tup e _ t => exact ⟨_, _, rfl, .of e, t⟩
    | tupK e t => exact ⟨_, _, rfl, .inr e, t⟩
  · rcases toD_own o with ⟨_, q⟩ | ⟨_, q⟩ <;> (rw [q] at e; cases e)
theorem zip_ne_scr {ks : List Key} {es xs : List D} : List.zip (ks.map kD) es ≠ [(.bool true, .list xs)] := by
  intro e
  cases ks with
  | nil => cases e
  | cons k ks =>
    cases es with
    | nil => cases e
    | cons x es =>
      have := (Prod.mk.inj (List.cons.inj e).1).1
      cases k <;> cases this
theorem DO.scr (h : DO K B H v (.dict [(.bool true, .list ds)])) : ∃ a vs, v = .ref a ∧ SqL K H a vs ∧ DnAll K B H vs ds := by
  rcases h with h | ⟨t, o, e, r⟩
  · generalize hd : PyData.dict [(.bool true, .list ds)] = d at h
    cases h with
    | scr e n t => cases hd; exact ⟨_, _, rfl, .inl (.inr ⟨_, e⟩), t⟩
    | scrK e t => cases hd; exact ⟨_, _, rfl, .inr e, t⟩
    | dic e n l t => exact absurd (PyData.dict.inj hd).symm zip_ne_scr
    | _ => cases hd
  · cases t with
    | shr _ => cases o
    | lst _ => cases e
    | dic kvs =>
      have e2 : List.zip ((kvs.map (·.1)).map kD) (kvs.map (·.2)) = [(PyData.bool true, PyData.list ds)] := by
        rw [List.map_map]
        exact (PyData.dict.inj e).symm
      exact absurd e2 zip_ne_scr
theorem unD_kD (k : Key) : unD (kD k) = some k := by cases k <;> rfl
theorem undic_zip : ∀ {ks : List Key} {ds : List D}, ks.length = ds.length → undic (List.zip (ks.map kD) ds) = some (List.zip ks ds)
  | [], [], _ => rfl
  | k :: ks, d :: ds, h => by
    show undic ((kD k, d) :: List.zip (ks.map kD) ds) = _
    rw [undic, unD_kD, undic_zip (Nat.succ.inj h)]
    rfl
theorem zip_fst {α β : Type} : ∀ {xs : List α} {ys : List β}, xs.length = ys.length → (List.zip xs ys).map (·.1) = xs
  | [], [], _ => rfl
  | x :: xs, y :: ys, h => congrArg (x :: ·) (zip_fst (Nat.succ.inj h))
theorem zip_snd {α β : Type} : ∀ {xs : List α} {ys : List β}, xs.length = ys.length → (List.zip xs ys).map (·.2) = ys
  | [], [], _ => rfl
  | x :: xs, y :: ys, h => congrArg (y :: ·) (zip_snd (Nat.succ.inj h))
theorem zip_self {α β : Type} : ∀ kvs : List (α × β), List.zip (kvs.map (·.1)) (kvs.map (·.2)) = kvs
  | [] => rfl
  | p :: r => congrArg (p :: ·) (zip_self r)
theorem DO.dic {kvs : List (D × D)} {kds : List (Key × D)} (h : DO K B H v (.dict kvs)) (u : undic kvs = some kds) :
    ∃ a vs, v = .ref a ∧ H a = some (.dK (List.zip (kds.map (·.1)) vs)) ∧ DnAll K B H vs (kds.map (·.2)) := by
  rcases h with h | ⟨t, o, e, r⟩
  · cases h with
    | scr e n t => cases u
    | scrK e t => cases u
    | @dic a ks vs ds e n l t =>
      rw [undic_zip (l.trans t.len)] at u
      cases u
      refine ⟨a, vs, rfl, ?_, ?_⟩
      · rw [zip_fst (l.trans t.len)]; exact e
      · rw [zip_snd (l.trans t.len)]; exact t
  · cases t with
    | shr _ => cases o
    | lst _ => cases e
    | dic kvs' =>
      have e' := PyData.dict.inj e
      rw [e', show (kvs'.map fun p => kD p.1) = (kvs'.map (·.1)).map kD by rw [List.map_map]; rfl, undic_zip (by simp), zip_self] at u
      cases u
      obtain ⟨a, vs, rfl, e, x⟩ := r
      exact ⟨a, vs, rfl, e, x⟩
theorem val_dn {k : Key} : ∀ {kds : List (Key × D)} {vs : List V}, DnAll K B H vs (kds.map (·.2)) →
    (∀ d, valG kds k = some d → ∃ v, valV (List.zip (kds.map (·.1)) vs) k = some v ∧ Dn K B H v d) ∧ (valG kds k = none → valV (List.zip (kds.map (·.1)) vs) k = none)
  | [], _, _ => ⟨fun d e => (by cases e), fun _ => rfl⟩
  | (k', d') :: r, _, .cons (v := v) (vs := vs) h t => by
    have ih := val_dn (k := k) t
    unfold valG valV at *
    show (∀ d, (List.find? (fun kv => decide (kv.1 = k)) ((k', d') :: r)).map (·.2) = some d → ∃ w, (List.find? (fun kv => decide (kv.1 = k)) ((k', v) :: List.zip (r.map (·.1)) vs)).map (·.2) = some w ∧ Dn K B H w d) ∧ _
    by_cases c : k' = k
    · subst c
      refine ⟨fun d e => ?_, fun e => ?_⟩
      · rw [List.find?_cons_of_pos (by simp)] at e ⊢
        cases e
        exact ⟨v, rfl, h⟩
      · rw [List.find?_cons_of_pos (by simp)] at e
        cases e
    · refine ⟨fun d e => ?_, fun e => ?_⟩
      · rw [List.find?_cons_of_neg (by simpa using c)] at e ⊢
        exact ih.1 d e
      · rw [List.find?_cons_of_neg (by simpa using c)] at e
        show (List.find? (fun kv => decide (kv.1 = k)) ((k', v) :: List.zip (r.map (·.1)) vs)).map (·.2) = none
        rw [List.find?_cons_of_neg (by simpa using c)]
        exact ih.2 e
theorem unD_kV {k : Key} (h : DO K B H v d) (u : unD d = some k) : v = kV k := by
  cases d <;> simp only [unD] at u <;> try (cases u)
  · exact h.int
  · exact h.str
/-- as the library reads data, whether it is a slot's own or not -/
theorem DO.dp (h : DO K B H v d) (ok : okD d = true) : Dp K H v d := by
  rcases h with h | ⟨t, o, e, r⟩
  · exact h.dp (okD_lay ok)
  · subst e
    cases t with
    | shr _ => cases o
    | lst xs =>
      obtain ⟨a, vs, rfl, e, x⟩ := r
      exact .lst (.of e) (x.dp (by have := okD_lay ok; simpa only [T.toD, PyData.canLay0] using this))
    | dic _ => cases ok
end
end VS
set_option Elab.async false
set_option linter.all false
set_option maxRecDepth 100000
set_option maxHeartbeats 1000000
/-! The VS layer, part D: the model's operators and built-in functions do what opT says. -/
namespace VS
open PySem PySem.Spec PyProof.Rows L2

/-- an operation's reading on values -/
def rN (K : PySem.W.Frag) (op : Op) : List V → Hp → VK → Prop := fun vs H Q => ∃ (B : Av) (ds : List D) (t : T), DOs K B H vs ds ∧ (∀ a, B a → ∃ o, H a = some o) ∧ opT op ds = some t ∧ ∀ v H', Same H H' → RN K B H H' v t → Q v H'
def r2 (K : PySem.W.Frag) (op : Op) : R2 := fun x y H Q => rN K op [x, y] H Q
def r1 (K : PySem.W.Frag) (op : Op) : V → Hp → VK → Prop := fun x H Q => rN K op [x] H Q
section
variable {K : PySem.W.Frag} {B : Av} {H : Hp} {x y z : V} {vs : List V} {d e : D} {ds : List D} {op : Op} {Q : VK}
theorem DOs.one (h : DOs K B H [x] ds) : ∃ d, ds = [d] ∧ DO K B H x d := by
  cases h with
  | cons a t => cases t; exact ⟨_, rfl, a⟩
theorem DOs.two (h : DOs K B H [x, y] ds) : ∃ d e, ds = [d, e] ∧ DO K B H x d ∧ DO K B H y e := by
  cases h with
  | cons a t =>
    obtain ⟨e, rfl, b⟩ := DOs.one t
    exact ⟨_, e, rfl, a, b⟩
theorem r2.open (h : r2 K op x y H Q) : ∃ B d e t, DO K B H x d ∧ DO K B H y e ∧ (∀ a, B a → ∃ o, H a = some o) ∧ opT op [d, e] = some t ∧ ∀ v H', Same H H' → RN K B H H' v t → Q v H' := by
  obtain ⟨B, ds, t, h1, tr, h2, q⟩ := h
  obtain ⟨d, e, rfl, a, b⟩ := h1.two
  exact ⟨B, d, e, t, a, b, tr, h2, q⟩
theorem r1.open (h : r1 K op x H Q) : ∃ B d t, DO K B H x d ∧ (∀ a, B a → ∃ o, H a = some o) ∧ opT op [d] = some t ∧ ∀ v H', Same H H' → RN K B H H' v t → Q v H' := by
  obtain ⟨B, ds, t, h1, tr, h2, q⟩ := h
  obtain ⟨d, rfl, a⟩ := h1.one
  exact ⟨B, d, t, a, tr, h2, q⟩
/-- a new object's place is nobody's own -/
theorem fresh_nb {p : Addr} (tr : ∀ a, B a → ∃ o, H a = some o) (hp : H p = none) : ¬ B p := fun z => by
  obtain ⟨o, e⟩ := tr p z
  rw [hp] at e; cases e
theorem mv_new {p : Addr} {o : HO} (hp : H p = none) : Mv B H B (upd H p o) := fun a ob e n => ⟨by rw [upd_ne (ne_of_none e hp)]; exact e, n⟩
theorem same_new {p : Addr} {o : HO} (hp : H p = none) : Same H (upd H p o) := fun a ob e => by rw [upd_ne (ne_of_none e hp)]; exact e
theorem RN.newL {p : Addr} {vs : List V} (hp : H p = none) (h : DnAll K B H vs ds) : RN K B H (upd H p (.lst vs)) (.ref p) (.lst ds) := ⟨p, vs, rfl, hp, upd_same, h⟩
theorem RN.newT {p : Addr} {vs : List V} (tr : ∀ a, B a → ∃ o, H a = some o) (hp : H p = none) (h : DnAll K B H vs ds) : RN K B H (upd H p (.tup vs)) (.ref p) (.shr (.tuple ds)) :=
  .tup upd_same (fresh_nb tr hp) (h.mv (mv_new hp))
theorem atI_dn {i : Int} (h : DnAll K B H vs ds) (e : atI ds i = some d) : ∃ v, atI vs i = some v ∧ Dn K B H v d := by
  unfold atI at *
  rw [h.len]
  cases q : ixN ds.length i with
  | none => rw [q] at e; cases e
  | some j => rw [q] at e; exact DnAll.get h e
theorem DnAll.cut {vs : List V} (h : DnAll K B H vs ds) (lo hi : Option Int) : DnAll K B H (cutV vs lo hi) (cutL ds lo hi) := by
  unfold cutV cutL
  rw [h.len]
  exact (h.drop _).take _
theorem DnAll.bits : ∀ {vs : List V} {ds : List D} {bs : List Bool}, DnAll K B H vs ds → mapO bit? ds = some bs → vs = bs.map V.bl
  | _, _, _, .nil, e => by cases e; rfl
  | _, _, _, .cons (d := d) (ds := ds) h t, e => by
    cases d with
    | bool b =>
      cases q : mapO bit? ds with
      | none => simp [mapO, bit?, q] at e
      | some cs =>
        simp only [mapO, bit?, q] at e
        cases e
        cases h
        rw [DnAll.bits t q]
        rfl
    | _ => simp [mapO, bit?] at e
theorem DnAll.ints : ∀ {vs : List V} {ds : List D} {ns : List Int}, DnAll K B H vs ds → mapO int? ds = some ns → vs = ns.map V.int
  | _, _, _, .nil, e => by cases e; rfl
  | _, _, _, .cons (d := d) (ds := ds) h t, e => by
    cases d with
    | int b =>
      cases q : mapO int? ds with
      | none => simp [mapO, int?, q] at e
      | some cs =>
        simp only [mapO, int?, q] at e
        cases e
        cases h
        rw [DnAll.ints t q]
        rfl
    | _ => simp [mapO, int?] at e
theorem tyX (h : DO K B H x d) : TyX K H x (.type (dTy d)) := by
  cases d with
  | none =>
    rcases h with h | ⟨t, o, e, _⟩
    · cases h; exact .base .non
    · rcases toD_own o with ⟨_, q⟩ | ⟨_, q⟩ <;> (rw [q] at e; cases e)
  | bool b => cases h.bool; exact .base (.bl b)
  | int i => cases h.int; exact .base (.int i)
  | str s => cases h.str; exact .base (.str s)
  | list xs => obtain ⟨a, vs, rfl, e, _⟩ := h.list; exact .base (.lst e)
  | tuple xs =>
    obtain ⟨a, vs, rfl, e, _⟩ := h.tup
    rcases e with (e | ⟨o, e⟩) | ⟨ob, its, n, e, c, _⟩
    · exact .base (.tup e)
    · exact .fTuple e
    · exact .kTuple e c
  | dict kvs =>
    have key : (∃ xs, kvs = [(.bool true, .list xs)]) ∨ dTy (.dict kvs) = "dict" := by
      unfold dTy
      split <;> simp_all
    rcases key with ⟨xs, rfl⟩ | key
    · obtain ⟨a, vs, rfl, e, _⟩ := DO.scr h
      rcases e with (e | ⟨o, e⟩) | ⟨ob, its, n, e, c, _⟩
      · exact .base (.lst e)
      · exact .base (.frz e)
      · exact .kList e c
    · rw [key]
      rcases h with h | ⟨t, o, e, r⟩
      · cases h with
        | scr e _ _ => exact absurd (show "list" = "dict" from key) (by decide)
        | scrK e _ => exact absurd (show "list" = "dict" from key) (by decide)
        | dic e _ _ _ => exact .base (.dK e)
      · cases t with
        | shr _ => cases o
        | lst _ => cases e
        | dic _ => obtain ⟨a, vs, rfl, e, _⟩ := r; exact .base (.dK e)
theorem isNone_iff (h : DO K B H x d) : decide (x = .non) = isNone d := by
  cases d with
  | none =>
    rcases h with h | ⟨t, o, e, _⟩
    · cases h; rfl
    · rcases toD_own o with ⟨_, q⟩ | ⟨_, q⟩ <;> (rw [q] at e; cases e)
  | bool b => cases h.bool; rfl
  | int i => cases h.int; rfl
  | str s => cases h.str; rfl
  | list xs => obtain ⟨a, vs, rfl, e, _⟩ := h.list; rfl
  | tuple xs => obtain ⟨a, vs, rfl, e, _⟩ := h.tup; rfl
  | dict kvs =>
    rcases h with h | ⟨t, o, e, r⟩
    · cases h <;> rfl
    · cases t with
      | shr _ => cases o
      | lst _ => obtain ⟨a, vs, rfl, _⟩ := r; rfl
      | dic _ => obtain ⟨a, vs, rfl, _⟩ := r; rfl
end

section
variable {X : Cx}
theorem OpR.mono {f : Value → Value → Sem Value} {r r' : R2} (h : OpR X f r) (k : ∀ x y H Q, r' x y H Q → r x y H Q) : OpR X f r' := fun pins s σ H x y v u Q I rx ry q => h pins s σ H x y v u Q I rx ry (k _ _ _ _ q)
theorem UnR.mono {f : Value → Sem Value} {r r' : V → Hp → VK → Prop} (h : UnR X f r) (k : ∀ x H Q, r' x H Q → r x H Q) : UnR X f r' := fun pins s σ H x v Q I rx q => h pins s σ H x v Q I rx (k _ _ _ q)
theorem IxR.mono {r r' : R2} (h : IxR X r) (k : ∀ x y H Q, r' x y H Q → r x y H Q) : IxR X r' := fun a b pins s σ H x y v u Q I rx ry q => h a b pins s σ H x y v u Q I rx ry (k _ _ _ _ q)
theorem CallR.mono {f : Value} {r r' : List V → Hp → VK → Prop} (h : CallR X f r) (k : ∀ xs H Q, r' xs H Q → r xs H Q) : CallR X f r' := fun pins s σ H xs us Q I rx q => h pins s σ H xs us Q I rx (k _ _ _ q)
theorem SlR.mono {r r' : V → Option Int → Option Int → Hp → VK → Prop} (h : L2.SlR X r) (k : ∀ x lo hi H Q, r' x lo hi H Q → r x lo hi H Q) : L2.SlR X r' := fun pins s σ H x v vl vu lo hi sl Q I rx hs pl pu q => h pins s σ H x v vl vu lo hi sl Q I rx hs pl pu (k _ _ _ _ _ q)
variable {K : PySem.W.Frag} {B : Av}
theorem o_add : OpR X (binaryOp .Add) (r2 X.K .add) := OpR.mono (OpR.or op_add (OpR.or op_add_str (OpR.or op_cat op_catA))) fun x y H Q h => by
  obtain ⟨B, d, e, t, hd, he, tr, ht, q⟩ := r2.open h
  cases d <;> cases e <;> simp only [opT] at ht <;> try (cases ht)
  · cases hd.int; cases he.int
    exact .inl ⟨_, _, rfl, rfl, q _ _ (Same.refl _) (.int _)⟩
  · split at ht
    · rename_i c
      cases ht
      cases hd.str; cases he.str
      exact .inr (.inl ⟨_, _, rfl, rfl, c, q _ _ (Same.refl _) (.str _)⟩)
    · cases ht
  · split at ht
    · rename_i c
      cases ht
      obtain ⟨a, vs, rfl, ea, ha⟩ := hd.list
      obtain ⟨b, ws, rfl, eb, hb⟩ := he.list
      exact .inr (.inr (.inl ⟨a, b, vs, ws, rfl, rfl, ea, eb, by rw [ha.len, hb.len]; exact c, fun p hp => q _ _ (same_new hp) (.newL hp (ha.app hb))⟩))
    · cases ht
  · split at ht
    · rename_i c
      cases ht
      obtain ⟨a, vs, rfl, ea, ha⟩ := hd.tup
      obtain ⟨b, ws, rfl, eb, hb⟩ := he.tup
      refine .inr (.inr (.inr ⟨a, b, vs, ws, rfl, rfl, ea, eb, by rw [ha.len, hb.len]; exact c, fun e1 => ?_, fun _ e2 => ?_, fun _ _ p hp => q _ _ (same_new hp) (.newT tr hp (ha.app hb))⟩))
      · subst e1
        cases ha
        refine q _ _ (Same.refl _) ?_
        rcases he with he | ⟨t, o, e', _⟩
        · exact he
        · rcases toD_own o with ⟨_, z⟩ | ⟨_, z⟩ <;> (rw [z] at e'; cases e')
      · subst e2
        cases hb
        refine q _ _ (Same.refl _) ?_
        rw [List.append_nil]
        rcases hd with he | ⟨t, o, e', _⟩
        · exact he
        · rcases toD_own o with ⟨_, z⟩ | ⟨_, z⟩ <;> (rw [z] at e'; cases e')
    · cases ht
theorem o_sub : OpR X (binaryOp .Sub) (r2 X.K .sub) := OpR.mono op_sub fun x y H Q h => by
  obtain ⟨B, d, e, t, hd, he, tr, ht, q⟩ := r2.open h
  cases d <;> cases e <;> simp only [opT] at ht <;> try (cases ht)
  cases hd.int; cases he.int
  exact ⟨_, _, rfl, rfl, q _ _ (Same.refl _) (.int _)⟩
theorem o_mul : OpR X (binaryOp .Mult) (r2 X.K .mul) := OpR.mono op_mul fun x y H Q h => by
  obtain ⟨B, d, e, t, hd, he, tr, ht, q⟩ := r2.open h
  cases d <;> cases e <;> simp only [opT] at ht <;> try (cases ht)
  split at ht
  · rename_i c
    cases ht
    cases hd.int; cases he.int
    simp only [small64, Bool.or_eq_true, Bool.and_eq_true, decide_eq_true_eq] at c
    exact ⟨_, _, rfl, rfl, c, q _ _ (Same.refl _) (.int _)⟩
  · cases ht
theorem o_fdiv : OpR X (binaryOp .FloorDiv) (r2 X.K .fdiv) := OpR.mono op_fdiv fun x y H Q h => by
  obtain ⟨B, d, e, t, hd, he, tr, ht, q⟩ := r2.open h
  cases d <;> cases e <;> simp only [opT] at ht <;> try (cases ht)
  split at ht
  · rename_i c
    cases ht
    cases hd.int; cases he.int
    simp only [Bool.and_eq_true, decide_eq_true_eq] at c
    exact ⟨_, _, rfl, rfl, c, q _ _ (Same.refl _) (.int _)⟩
  · cases ht
theorem o_mod : OpR X (binaryOp .Mod) (r2 X.K .mod) := OpR.mono op_mod fun x y H Q h => by
  obtain ⟨B, d, e, t, hd, he, tr, ht, q⟩ := r2.open h
  cases d <;> cases e <;> simp only [opT] at ht <;> try (cases ht)
  split at ht
  · rename_i c
    cases ht
    cases hd.int; cases he.int
    exact ⟨_, _, rfl, rfl, c, q _ _ (Same.refl _) (.int _)⟩
  · cases ht
theorem o_pow : OpR X (binaryOp .Pow) (r2 X.K .pow) := OpR.mono op_pow fun x y H Q h => by
  obtain ⟨B, d, e, t, hd, he, tr, ht, q⟩ := r2.open h
  cases d <;> cases e <;> simp only [opT] at ht <;> try (cases ht)
  split at ht
  · rename_i c
    cases ht
    cases hd.int; cases he.int
    simp only [Bool.and_eq_true, decide_eq_true_eq] at c
    exact ⟨_, _, rfl, rfl, ⟨c.1.1, c.1.2, c.2⟩, q _ _ (Same.refl _) (.int _)⟩
  · cases ht
theorem o_eq (hu : X.A.units + 64 < cLine) : OpR X (compareOp .Eq) (r2 X.K .eq) := OpR.mono (op_eqD hu) fun x y H Q h => by
  obtain ⟨B, d, e, t, hd, he, tr, ht, q⟩ := r2.open h
  simp only [opT] at ht
  split at ht
  · rename_i c
    cases ht
    rw [Bool.and_eq_true] at c
    exact ⟨d, e, hd.dp c.1, he.dp c.2, okD_shaped c.1, okD_shaped c.2, q _ _ (Same.refl _) (.bl _)⟩
  · cases ht
theorem o_ne (hu : X.A.units + 64 < cLine) : OpR X (compareOp .NotEq) (r2 X.K .ne) := OpR.mono (op_neD hu) fun x y H Q h => by
  obtain ⟨B, d, e, t, hd, he, tr, ht, q⟩ := r2.open h
  simp only [opT] at ht
  split at ht
  · rename_i c
    cases ht
    rw [Bool.and_eq_true] at c
    exact ⟨d, e, hd.dp c.1, he.dp c.2, okD_shaped c.1, okD_shaped c.2, q _ _ (Same.refl _) (.bl _)⟩
  · cases ht
theorem o_lt : OpR X (compareOp .Lt) (r2 X.K .lt) := OpR.mono op_lt fun x y H Q h => by
  obtain ⟨B, d, e, t, hd, he, tr, ht, q⟩ := r2.open h
  cases d <;> cases e <;> simp only [opT] at ht <;> try (cases ht)
  cases hd.int; cases he.int
  exact ⟨_, _, rfl, rfl, q _ _ (Same.refl _) (.bl _)⟩
theorem o_le : OpR X (compareOp .LtE) (r2 X.K .le) := OpR.mono op_le fun x y H Q h => by
  obtain ⟨B, d, e, t, hd, he, tr, ht, q⟩ := r2.open h
  cases d <;> cases e <;> simp only [opT] at ht <;> try (cases ht)
  cases hd.int; cases he.int
  exact ⟨_, _, rfl, rfl, q _ _ (Same.refl _) (.bl _)⟩
theorem o_gt : OpR X (compareOp .Gt) (r2 X.K .gt) := OpR.mono op_gt fun x y H Q h => by
  obtain ⟨B, d, e, t, hd, he, tr, ht, q⟩ := r2.open h
  cases d <;> cases e <;> simp only [opT] at ht <;> try (cases ht)
  cases hd.int; cases he.int
  exact ⟨_, _, rfl, rfl, q _ _ (Same.refl _) (.bl _)⟩
theorem o_ge : OpR X (compareOp .GtE) (r2 X.K .ge) := OpR.mono op_ge fun x y H Q h => by
  obtain ⟨B, d, e, t, hd, he, tr, ht, q⟩ := r2.open h
  cases d <;> cases e <;> simp only [opT] at ht <;> try (cases ht)
  cases hd.int; cases he.int
  exact ⟨_, _, rfl, rfl, q _ _ (Same.refl _) (.bl _)⟩
theorem room_in {n : Nat} {ds : List D} {d : D} (hu : X.A.units + 65 < cLine) (h : okD d = true) : X.A.units + 1 + min (PyData.depthAll ds) d.depth < cLine := by
  have h1 := (okAt_lay (show okAt 60 d = true from h)).2
  have h2 : min (PyData.depthAll ds) d.depth ≤ d.depth := Nat.min_le_right _ _
  omega
theorem in_seq (hu : X.A.units + 65 < cLine) {pins : List (Addr × Obj)} {s : Shared} {σ : L2.St} {H : Hp} {x y : V} {v u : Value} {d e : D} {b : Bool} (I : Inv X pins σ H s) (rx : RelV x v) (ry : RelV y u)
    (hd : DO X.K B H x d) (he : DO X.K B H y e) (ht : inT d e = some b) (nd : ∀ kvs, e ≠ .dict kvs) :
    wpAny (model X.prog X.w) X.A (compareOp .In v u) (EP X pins σ fun v' H' => v' = .bl b ∧ H' = H) X.xe s ∧ wpAny (model X.prog X.w) X.A (compareOp .NotIn v u) (EP X pins σ fun v' H' => v' = .bl (!b) ∧ H' = H) X.xe s := by
  cases e <;> simp only [inT] at ht <;> first | (exact absurd rfl (nd _)) | skip
  all_goals try (cases ht)
  · rename_i s2
    cases e : sign? d with
    | none => rw [e] at ht; cases ht
    | some c =>
      rw [e] at ht
      cases ht
      cases sign_is e
      cases hd.str; cases he.str
      exact ⟨op_in_sign pins s σ H _ _ v u _ I rx ry ⟨_, _, rfl, rfl, rfl, rfl⟩, op_notIn_sign pins s σ H _ _ v u _ I rx ry ⟨_, _, rfl, rfl, rfl, rfl⟩⟩
  · split at ht
    · rename_i xs c
      rw [Bool.and_eq_true] at c
      cases ht
      obtain ⟨as, r1⟩ := Dp.reads I d x v (hd.dp c.1) rx
      obtain ⟨bs, r2⟩ := Dp.reads I (.list xs) y u (he.dp c.2) ry
      have cl := okD_lay c.2
      rw [PyData.canLay0] at cl
      exact ⟨SeqAt.in_list_reads r2 r1 cl (okD_lay c.1) (by have h1 := (okAt_lay (show okAt 60 d = true from c.1)).2; omega) ⟨.bl _, H, I, rfl, rfl, rfl⟩, SeqAt.notIn_list_reads r2 r1 cl (okD_lay c.1) (by have h1 := (okAt_lay (show okAt 60 d = true from c.1)).2; omega) ⟨.bl _, H, I, rfl, rfl, rfl⟩⟩
    · cases ht
  · split at ht
    · rename_i xs c
      rw [Bool.and_eq_true] at c
      cases ht
      obtain ⟨as, r1⟩ := Dp.reads I d x v (hd.dp c.1) rx
      obtain ⟨bs, r2⟩ := Dp.reads I (.tuple xs) y u (he.dp c.2) ry
      have cl := okD_lay c.2
      rw [PyData.canLay0] at cl
      exact ⟨SeqAt.in_tuple_reads r2 r1 cl (okD_lay c.1) (by have h1 := (okAt_lay (show okAt 60 d = true from c.1)).2; omega) ⟨.bl _, H, I, rfl, rfl, rfl⟩, SeqAt.notIn_tuple_reads r2 r1 cl (okD_lay c.1) (by have h1 := (okAt_lay (show okAt 60 d = true from c.1)).2; omega) ⟨.bl _, H, I, rfl, rfl, rfl⟩⟩
    · cases ht
end
section
variable {X : Cx}
theorem dget_of {K : PySem.W.Frag} {B : Av} {H : Hp} {x y : V} {d : D} {kvs : List (D × D)} {k : Key} {kds : List (Key × D)} (hd : DO K B H x d) (he : DO K B H y (.dict kvs)) (u : unD d = some k) (w : undic kvs = some kds) :
    ∃ a o, y = .ref a ∧ DGet H a x o ∧ (∀ d, valG kds k = some d → ∃ v, o = some v ∧ Dn K B H v d) ∧ o.isSome = (valG kds k).isSome := by
  obtain ⟨a, vs, rfl, e, t⟩ := he.dic w
  cases unD_kV hd u
  obtain ⟨h1, h2⟩ := val_dn (k := k) t
  refine ⟨a, _, rfl, DGet.k e, h1, ?_⟩
  cases q : valG kds k with
  | none => rw [h2 q]; rfl
  | some d => obtain ⟨v, e, _⟩ := h1 d q; rw [e]; rfl
theorem o_in (hu : X.A.units + 65 < cLine) : OpR X (compareOp .In) (r2 X.K .isin) := fun pins s σ H x y v u Q I rx ry h => by
  obtain ⟨B, d, e, t, hd, he, tr, ht, q⟩ := r2.open h
  simp only [opT, Option.map_eq_some_iff] at ht
  obtain ⟨b, hb, rfl⟩ := ht
  have q1 := q _ _ (Same.refl _) (.bl b)
  by_cases c : ∃ kvs, e = .dict kvs
  · obtain ⟨kvs, rfl⟩ := c
    simp only [inT] at hb
    cases e1 : unD d with
    | none => rw [e1] at hb; cases hb
    | some k =>
      cases e2 : undic kvs with
      | none => rw [e1, e2] at hb; cases hb
      | some kds =>
        rw [e1, e2] at hb
        cases hb
        obtain ⟨a, o, rfl, g, _, e3⟩ := dget_of hd he e1 e2
        cases ry
        exact d_in (by omega) I g rx fun s3 I3 => ⟨.bl o.isSome, H, I3, rfl, by rw [e3]; exact q1⟩
  · refine thn (in_seq hu I rx ry hd he hb (fun kvs z => c ⟨kvs, z⟩)).1 fun w s' ⟨v', H', I', r', z⟩ => ?_
    obtain ⟨rfl, rfl⟩ := z
    exact ⟨_, _, I', r', q1⟩
theorem o_notin (hu : X.A.units + 65 < cLine) : OpR X (compareOp .NotIn) (r2 X.K .notin) := fun pins s σ H x y v u Q I rx ry h => by
  obtain ⟨B, d, e, t, hd, he, tr, ht, q⟩ := r2.open h
  simp only [opT, Option.map_eq_some_iff] at ht
  obtain ⟨b, hb, rfl⟩ := ht
  have q1 := q _ _ (Same.refl _) (.bl (!b))
  by_cases c : ∃ kvs, e = .dict kvs
  · obtain ⟨kvs, rfl⟩ := c
    simp only [inT] at hb
    cases e1 : unD d with
    | none => rw [e1] at hb; cases hb
    | some k =>
      cases e2 : undic kvs with
      | none => rw [e1, e2] at hb; cases hb
      | some kds =>
        rw [e1, e2] at hb
        cases hb
        obtain ⟨a, o, rfl, g, _, e3⟩ := dget_of hd he e1 e2
        cases ry
        exact d_notIn (by omega) I g rx fun s3 I3 => ⟨.bl (!o.isSome), H, I3, rfl, by rw [e3]; exact q1⟩
  · refine thn (in_seq hu I rx ry hd he hb (fun kvs z => c ⟨kvs, z⟩)).2 fun w s' ⟨v', H', I', r', z⟩ => ?_
    obtain ⟨rfl, rfl⟩ := z
    exact ⟨_, _, I', r', q1⟩
theorem o_idx (hu : X.A.units + 1 < cLine) : IxR X (r2 X.K .idx) := fun a b pins s σ H x y v u Q I rx ry h hs => by
  obtain ⟨B, d, e, t, hd, he, tr, ht, q⟩ := r2.open h
  cases d <;> try (cases e <;> simp only [opT] at ht <;> cases ht)
  · rename_i z
    cases e <;> simp only [opT] at ht <;> try (cases ht)
    split at ht
    · rename_i c
      simp only [Option.map_eq_some_iff] at ht
      obtain ⟨k, hk, rfl⟩ := ht
      cases hd.str; cases he.int
      exact ix_str a b pins s σ H _ _ v u Q I rx ry ⟨_, _, k, rfl, rfl, c, hk, q _ _ (Same.refl _) (.str _)⟩ hs
    · cases ht
  · cases e <;> simp only [opT] at ht <;> try (cases ht)
    simp only [Option.map_eq_some_iff] at ht
    obtain ⟨k, hk, rfl⟩ := ht
    obtain ⟨p, vs, rfl, ep, x⟩ := hd.list
    cases he.int
    obtain ⟨w, hw, hv⟩ := atI_dn x hk
    exact ix_list a b pins s σ H _ _ v u Q I rx ry ⟨_, _, _, _, rfl, rfl, .of ep, hw, q _ _ (Same.refl _) hv⟩ hs
  · cases e <;> simp only [opT] at ht <;> try (cases ht)
    simp only [Option.map_eq_some_iff] at ht
    obtain ⟨k, hk, rfl⟩ := ht
    obtain ⟨p, vs, rfl, ep, x⟩ := hd.tup
    cases he.int
    obtain ⟨w, hw, hv⟩ := atI_dn x hk
    exact ix_tup a b pins s σ H _ _ v u Q I rx ry ⟨_, _, _, _, rfl, rfl, ep, hw, q _ _ (Same.refl _) hv⟩ hs
  · rename_i kvs
    simp only [opT] at ht
    cases e1 : unD e with
    | none => rw [e1] at ht; cases ht
    | some k =>
      cases e2 : undic kvs with
      | none => rw [e1, e2] at ht; cases ht
      | some kds =>
        rw [e1, e2] at ht
        simp only [Option.map_eq_some_iff] at ht
        obtain ⟨z, hz, rfl⟩ := ht
        obtain ⟨a', o, rfl, g, hg, _⟩ := dget_of he hd e1 e2
        obtain ⟨w, rfl, hv⟩ := hg z hz
        cases rx
        exact tail_any (dict_typeIs I g) PySem.F.slot_dict_getitem.lookup (d_getItem hu I g ry fun w' s3 I3 rw' => ⟨w, H, I3, rw', q _ _ (Same.refl _) hv⟩) hs
def rSl (K : PySem.W.Frag) : V → Option Int → Option Int → Hp → VK → Prop := fun x lo hi H Q => ∃ (B : Av) (d : D) (t : T), DO K B H x d ∧ (∀ a, B a → ∃ o, H a = some o) ∧ slT d lo hi = some t ∧ ∀ v H', Same H H' → RN K B H H' v t → Q v H'
theorem cutL_all {α : Type} {xs : List α} {lo hi : Option Int} (h1 : HT.sIx xs.length 0 lo = 0) (h2 : HT.sIx xs.length xs.length hi = xs.length) : cutL xs lo hi = xs := by
  unfold cutL
  rw [h1, h2]
  simp
theorem o_sl : L2.SlR X (rSl X.K) := SlR.mono (SlR.or sl_list (SlR.or sl_tupA sl_str)) fun x lo hi H Q h => by
  obtain ⟨B, d, t, hd, tr, ht, q⟩ := h
  unfold slT at ht
  split at ht
  · cases ht
    obtain ⟨p, vs, rfl, ep, x⟩ := hd.list
    exact .inl ⟨p, vs, rfl, .of ep, fun p' hp => q _ _ (same_new hp) (.newL hp (x.cut lo hi))⟩
  · cases ht
    obtain ⟨p, vs, rfl, ep, x⟩ := hd.tup
    refine .inr (.inl ⟨p, vs, rfl, ep, fun z => ?_, fun _ p' hp => q _ _ (same_new hp) (.newT tr hp (x.cut lo hi))⟩)
    rw [x.len] at z
    have e := cutL_all z.1 z.2
    rw [e] at q
    refine q _ _ (Same.refl _) ?_
    rcases hd with he | ⟨t, o, e', _⟩
    · exact he
    · rcases toD_own o with ⟨_, z⟩ | ⟨_, z⟩ <;> (rw [z] at e'; cases e')
  · split at ht
    · rename_i c
      cases ht
      cases hd.str
      exact .inr (.inr ⟨_, rfl, c, q _ _ (Same.refl _) (.str _)⟩)
    · cases ht
  · cases ht
    obtain ⟨p, vs, rfl, ep, x⟩ := DO.scr hd
    exact .inl ⟨p, vs, rfl, ep, fun p' hp => q _ _ (same_new hp) (.newL hp (x.cut lo hi))⟩
  · cases ht
theorem o_isN : OpR X (compareOp .Is) (fun x y H Q => y = .non ∧ r1 X.K .isN x H Q) := OpR.mono op_isN fun x y H Q ⟨e, h⟩ => by
  obtain ⟨B, d, t, hd, tr, ht, q⟩ := r1.open h
  simp only [opT] at ht
  cases ht
  exact ⟨e, by rw [isNone_iff hd]; exact q _ _ (Same.refl _) (.bl _)⟩
theorem o_notN : OpR X (compareOp .IsNot) (fun x y H Q => y = .non ∧ r1 X.K .notN x H Q) := OpR.mono op_notN fun x y H Q ⟨e, h⟩ => by
  obtain ⟨B, d, t, hd, tr, ht, q⟩ := r1.open h
  simp only [opT] at ht
  cases ht
  exact ⟨e, by rw [isNone_iff hd]; exact q _ _ (Same.refl _) (.bl _)⟩
theorem o_neg : UnR X (unaryOp .USub) (r1 X.K .neg) := UnR.mono un_neg fun x H Q h => by
  obtain ⟨B, d, t, hd, tr, ht, q⟩ := r1.open h
  cases d <;> simp only [opT] at ht <;> try (cases ht)
  cases hd.int
  exact ⟨_, rfl, q _ _ (Same.refl _) (.int _)⟩
/-- built-in functions of one value -/
theorem rN.one {K : PySem.W.Frag} {op : Op} {xs : List V} {H : Hp} {Q : VK} (h : rN K op xs H Q) (n : ∀ ds t, opT op ds = some t → ∃ d, ds = [d]) :
    ∃ x B d t, xs = [x] ∧ DO K B H x d ∧ (∀ a, B a → ∃ o, H a = some o) ∧ opT op [d] = some t ∧ ∀ v H', Same H H' → RN K B H H' v t → Q v H' := by
  obtain ⟨B, ds, t, h1, tr, h2, q⟩ := h
  obtain ⟨d, rfl⟩ := n ds t h2
  cases h1 with
  | cons a u => cases u; exact ⟨_, B, d, t, rfl, a, tr, h2, q⟩
theorem c_len : CallR X (.builtin "len") (rN X.K .len) := CallR.mono (CallR.or call_len_seq (CallR.or call_len_str call_lenD)) fun xs H Q h => by
  obtain ⟨x, B, d, t, rfl, hd, tr, ht, q⟩ := rN.one h fun ds t e => by
    rcases ds with _ | ⟨d, _ | ⟨d2, r⟩⟩ <;> first | exact ⟨d, rfl⟩ | simp [opT] at e
  simp only [opT, Option.map_eq_some_iff] at ht
  obtain ⟨n, hn, rfl⟩ := ht
  have q1 := q _ _ (Same.refl _) (.int n)
  cases d <;> simp only [lenT] at hn <;> try (cases hn)
  · split at hn
    · rename_i c
      cases hn
      cases hd.str
      exact .inr (.inl ⟨_, rfl, c, q1⟩)
    · cases hn
  · obtain ⟨p, vs, rfl, ep, x⟩ := hd.list
    exact .inl ⟨p, vs, rfl, .inl (.of ep), by rw [x.len]; exact q1⟩
  · obtain ⟨p, vs, rfl, ep, x⟩ := hd.tup
    exact .inl ⟨p, vs, rfl, .inr ep, by rw [x.len]; exact q1⟩
  · obtain ⟨kds, hk, rfl⟩ := Option.map_eq_some_iff.mp hn
    obtain ⟨a, vs, rfl, e, x⟩ := hd.dic hk
    refine .inr (.inr ⟨a, _, rfl, e, ?_⟩)
    have l : (List.zip (kds.map (·.1)) vs).length = kds.length := by
      rw [List.length_zip, x.len, List.length_map, List.length_map]
      exact Nat.min_self _
    rw [l]
    exact q1
theorem c_isi {ty : String} : CallR X (.builtin "isinstance") (fun xs H Q => ∃ x, xs = [x, .ty ty] ∧ r1 X.K (.isi ty) x H Q) := CallR.mono call_isi fun xs H Q ⟨x, e, h⟩ => by
  obtain ⟨B, d, t, hd, tr, ht, q⟩ := r1.open h
  simp only [opT, Option.map_eq_some_iff] at ht
  obtain ⟨b, hb, rfl⟩ := ht
  exact ⟨x, .ty ty, _, _, b, e, .ty ty, tyX hd, kit_ty hb, q _ _ (Same.refl _) (.bl _)⟩
theorem c_tuple : CallR X (.type "tuple") (rN X.K .tuple) := CallR.mono call_tuple_of fun xs H Q h => by
  obtain ⟨x, B, d, t, rfl, hd, tr, ht, q⟩ := rN.one h fun ds t e => by
    rcases ds with _ | ⟨d, _ | ⟨d2, r⟩⟩ <;> first | exact ⟨d, rfl⟩ | simp [opT] at e
  cases d <;> simp only [opT] at ht <;> try (cases ht)
  · obtain ⟨p, vs, rfl, ep, x⟩ := hd.list
    exact ⟨p, vs, rfl, .inl ⟨.of ep, fun l hl => q _ _ (same_new hl) (.newT tr hl x)⟩⟩
  · obtain ⟨p, vs, rfl, ep, x⟩ := hd.tup
    refine ⟨p, vs, rfl, .inr ⟨ep, q _ _ (Same.refl _) ?_⟩⟩
    rcases hd with he | ⟨t, o, e', _⟩
    · exact he
    · rcases toD_own o with ⟨_, z⟩ | ⟨_, z⟩ <;> (rw [z] at e'; cases e')
theorem keys_dn {K : PySem.W.Frag} {B : Av} {H : Hp} : ∀ ks : List Key, DnAll K B H (ks.map kV) (ks.map kD)
  | [] => .nil
  | .inl i :: r => .cons (.int i) (keys_dn r)
  | .inr s :: r => .cons (.str s) (keys_dn r)
theorem c_list (hc : X.calm = true) : CallR X (.type "list") (rN X.K .list) := CallR.mono (CallR.or call_list_of (call_list_dK hc)) fun xs H Q h => by
  obtain ⟨x, B, d, t, rfl, hd, tr, ht, q⟩ := rN.one h fun ds t e => by
    rcases ds with _ | ⟨d, _ | ⟨d2, r⟩⟩ <;> first | exact ⟨d, rfl⟩ | simp [opT] at e
  cases d <;> simp only [opT] at ht <;> try (cases ht)
  · obtain ⟨p, vs, rfl, ep, x⟩ := hd.list
    exact .inl ⟨p, vs, rfl, .inl (.of ep), fun l hl => q _ _ (same_new hl) (.newL hl x)⟩
  · obtain ⟨p, vs, rfl, ep, x⟩ := hd.tup
    exact .inl ⟨p, vs, rfl, .inr ep, fun l hl => q _ _ (same_new hl) (.newL hl x)⟩
  · simp only [Option.map_eq_some_iff] at ht
    obtain ⟨kds, hk, rfl⟩ := ht
    obtain ⟨a, vs, rfl, e, x⟩ := hd.dic hk
    refine .inr ⟨a, _, rfl, e, fun l hl => q _ _ (same_new hl) ?_⟩
    have l2 : (List.zip (kds.map (·.1)) vs).map (fun kv => kV kv.1) = (kds.map (·.1)).map kV := by
      rw [show (List.zip (kds.map (·.1)) vs).map (fun kv => kV kv.1) = ((List.zip (kds.map (·.1)) vs).map (·.1)).map kV by rw [List.map_map]; rfl, zip_fst (by rw [List.length_map, x.len, List.length_map])]
    rw [l2, show (kds.map fun p => kD p.1) = (kds.map (·.1)).map kD by rw [List.map_map]; rfl]
    exact .newL hl (keys_dn _)
theorem c_int : CallR X (.type "int") (rN X.K .int) := CallR.mono (CallR.or call_int1 call_int_str) fun xs H Q h => by
  obtain ⟨x, B, d, t, rfl, hd, tr, ht, q⟩ := rN.one h fun ds t e => by
    rcases ds with _ | ⟨d, _ | ⟨d2, r⟩⟩ <;> first | exact ⟨d, rfl⟩ | simp [opT] at e
  simp only [opT, Option.map_eq_some_iff] at ht
  obtain ⟨n, hn, rfl⟩ := ht
  have q1 := q _ _ (Same.refl _) (.int n)
  cases d <;> simp only [intT] at hn <;> try (cases hn)
  · cases hd.bool
    exact .inl (.inr ⟨_, rfl, q1⟩)
  · cases hd.int
    exact .inl (.inl ⟨_, rfl, q1⟩)
  · split at hn
    · rename_i c
      cases hd.str
      exact .inr ⟨_, n, rfl, hn, c, q1⟩
    · cases hn
theorem c_str : CallR X (.type "str") (rN X.K .str) := CallR.mono (CallR.or call_str_int SkE.call_str_str) fun xs H Q h => by
  obtain ⟨x, B, d, t, rfl, hd, tr, ht, q⟩ := rN.one h fun ds t e => by
    rcases ds with _ | ⟨d, _ | ⟨d2, r⟩⟩ <;> first | exact ⟨d, rfl⟩ | simp [opT] at e
  cases d <;> simp only [opT] at ht <;> try (cases ht)
  · split at ht
    · rename_i c
      cases ht
      cases hd.int
      exact .inl ⟨_, rfl, c, q _ _ (Same.refl _) (.str _)⟩
    · cases ht
  · cases hd.str
    exact .inr ⟨_, rfl, q _ _ (Same.refl _) (.str _)⟩
theorem c_bool : CallR X (.type "bool") (rN X.K .bool) := CallR.mono call_bool1 fun xs H Q h => by
  obtain ⟨x, B, d, t, rfl, hd, tr, ht, q⟩ := rN.one h fun ds t e => by
    rcases ds with _ | ⟨d, _ | ⟨d2, r⟩⟩ <;> first | exact ⟨d, rfl⟩ | simp [opT] at e
  cases d <;> simp only [opT] at ht <;> try (cases ht)
  · cases hd.bool
    exact .inr ⟨_, rfl, q _ _ (Same.refl _) (.bl _)⟩
  · cases hd.int
    exact .inl ⟨_, rfl, q _ _ (Same.refl _) (.bl _)⟩
theorem c_abs : CallR X (.builtin "abs") (rN X.K .abs) := CallR.mono call_abs fun xs H Q h => by
  obtain ⟨x, B, d, t, rfl, hd, tr, ht, q⟩ := rN.one h fun ds t e => by
    rcases ds with _ | ⟨d, _ | ⟨d2, r⟩⟩ <;> first | exact ⟨d, rfl⟩ | simp [opT] at e
  cases d <;> simp only [opT] at ht <;> try (cases ht)
  cases hd.int
  exact ⟨_, rfl, q _ _ (Same.refl _) (.int _)⟩
theorem c_any (hc : X.calm = true) : CallR X (.builtin "any") (rN X.K .any) := CallR.mono (cr_any hc) fun xs H Q h => by
  obtain ⟨x, B, d, t, rfl, hd, tr, ht, q⟩ := rN.one h fun ds t e => by
    rcases ds with _ | ⟨d, _ | ⟨d2, r⟩⟩ <;> first | exact ⟨d, rfl⟩ | simp [opT] at e
  cases d <;> simp only [opT] at ht <;> try (cases ht)
  simp only [Option.map_eq_some_iff] at ht
  obtain ⟨bs, hb, rfl⟩ := ht
  obtain ⟨p, vs, rfl, ep, x⟩ := hd.list
  exact ⟨p, bs, rfl, by rw [← x.bits hb]; exact .of ep, q _ _ (Same.refl _) (.bl _)⟩
theorem c_all (hc : X.calm = true) : CallR X (.builtin "all") (rN X.K .all) := CallR.mono (cr_all hc) fun xs H Q h => by
  obtain ⟨x, B, d, t, rfl, hd, tr, ht, q⟩ := rN.one h fun ds t e => by
    rcases ds with _ | ⟨d, _ | ⟨d2, r⟩⟩ <;> first | exact ⟨d, rfl⟩ | simp [opT] at e
  cases d <;> simp only [opT] at ht <;> try (cases ht)
  simp only [Option.map_eq_some_iff] at ht
  obtain ⟨bs, hb, rfl⟩ := ht
  obtain ⟨p, vs, rfl, ep, x⟩ := hd.list
  exact ⟨p, bs, rfl, by rw [← x.bits hb]; exact .of ep, q _ _ (Same.refl _) (.bl _)⟩
theorem c_sum (hc : X.calm = true) : CallR X (.builtin "sum") (rN X.K .sum) := CallR.mono (cr_sum hc) fun xs H Q h => by
  obtain ⟨x, B, d, t, rfl, hd, tr, ht, q⟩ := rN.one h fun ds t e => by
    rcases ds with _ | ⟨d, _ | ⟨d2, r⟩⟩ <;> first | exact ⟨d, rfl⟩ | simp [opT] at e
  cases d <;> simp only [opT] at ht <;> try (cases ht)
  simp only [Option.map_eq_some_iff] at ht
  obtain ⟨ns, hb, rfl⟩ := ht
  obtain ⟨p, vs, rfl, ep, x⟩ := hd.list
  exact ⟨p, ns, rfl, by rw [← x.ints hb]; exact .of ep, q _ _ (Same.refl _) (.int _)⟩
end
end VS
set_option Elab.async false
set_option linter.all false
set_option maxRecDepth 100000
set_option maxHeartbeats 1000000
/-! The VS layer, part D2: sorted, repr, [::-1]. -/
namespace VS
open PySem PySem.Spec PyProof.Rows L2
section
variable {X : Cx}
theorem DnAll.mem {K : PySem.W.Frag} {B : Av} {H : Hp} : ∀ {vs : List V} {ds : List D} {p : V × D}, DnAll K B H vs ds → p ∈ vs.zip ds → Dn K B H p.1 p.2
  | _, _, _, .cons h t, hp => by
    rcases List.mem_cons.mp hp with e | e
    · rw [e]; exact h
    · exact DnAll.mem t e
theorem DnAll.of_pairs {K : PySem.W.Frag} {B : Av} {H : Hp} : ∀ {ps : List (V × D)}, (∀ p ∈ ps, Dn K B H p.1 p.2) → DnAll K B H (ps.map (·.1)) (ps.map (·.2))
  | [], _ => .nil
  | p :: ps, h => .cons (h p (.head _)) (DnAll.of_pairs fun q hq => h q (.tail _ hq))
theorem sort_snd (ps : List (V × D)) : (ps.mergeSort (PySem.W.dataLe false (·.2))).map (·.2) = sortD (ps.map (·.2)) := by
  unfold sortD
  rw [List.map_mergeSort (s := PySem.W.dataLe false id)]
  intro a _ b _
  rfl
theorem alikes_ok {xs : List D} (h : alikes xs = true) : PySem.W.AllAlike xs := fun d hd e he => List.all_eq_true.mp (List.all_eq_true.mp h d hd) e he
theorem sortable_ok {xs : List D} (h : sortable xs = true) : PySem.W.Sortable xs := by
  unfold sortable at h
  rw [Bool.or_eq_true] at h
  rcases h with h | h
  · refine .inl fun d hd => ?_
    have := List.all_eq_true.mp h d hd
    unfold tupNE at this
    split at this
    · exact ⟨_, _, rfl⟩
    · cases this
  · refine .inr fun d hd => ?_
    have := List.all_eq_true.mp h d hd
    refine ⟨fun e => ?_, fun xs e => ?_⟩ <;> (rw [e] at this; cases this)
theorem each_zip : ∀ {vs : List V} {us : List Value} {ds : List D}, Vals vs us → vs.length = ds.length → PySem.W.EachIs (fun (u : Value) (p : V × D) => RelV p.1 u) us (vs.zip ds)
  | [], _, [], .nil, _ => .nil
  | v :: vs, _, d :: ds, .cons h t, l => .cons h (each_zip t (Nat.succ.inj l))
  | [], _, _ :: _, _, l => by cases l
  | _ :: _, _, [], _, l => by cases l
theorem each_reads {K : PySem.W.Frag} {B : Av} {H : Hp} {pins : List (Addr × Obj)} {σ : L2.St} {s : Shared} (I : Inv X pins σ H s) : ∀ {vs : List V} {us : List Value} {ds : List D}, DnAll X.K B H vs ds → Vals vs us → ds.all okD = true → PySem.W.EachIs (fun (u : Value) (p : V × D) => ∃ as, Reads s.heap u p.2 as) us (vs.zip ds)
  | _, _, _, .nil, .nil, _ => .nil
  | _, _, _, .cons h t, .cons r rs, k => by
    rw [List.all_cons, Bool.and_eq_true] at k
    exact .cons (Dp.reads I _ _ _ (h.dp (okD_lay k.1)) r) (each_reads (K := K) I t rs k.2)
theorem each_vals : ∀ {out : List Value} {ps : List (V × D)}, PySem.W.EachIs (fun (u : Value) (p : V × D) => RelV p.1 u) out ps → Vals (ps.map (·.1)) out
  | _, _, .nil => .nil
  | _, _, .cons h t => .cons h (each_vals t)
theorem zip_snd' {α β : Type} : ∀ {xs : List α} {ys : List β}, xs.length = ys.length → (xs.zip ys).map (·.2) = ys := fun h => zip_snd h
theorem c_sortedL (hu : X.A.units + 70 < cLine) : CallR X (.builtin "sorted") (fun xs H Q => ∃ x, xs = [x] ∧ ∃ B a vs ds ys, x = .ref a ∧ H a = some (.lst vs) ∧ DnAll X.K B H vs ds ∧ (∀ a, B a → ∃ o, H a = some o) ∧ sortT ds = some ys ∧ ∀ v H', Same H H' → RN X.K B H H' v (.lst ys) → Q v H') := fun pins s σ H xs us Q I r h => by
  obtain ⟨x, rfl, B, a, vs, ds, ys, rfl, ea, dn, tr, hs, q⟩ := h
  unfold sortT at hs
  split at hs
  · rename_i c
    cases hs
    simp only [Bool.and_eq_true, decide_eq_true_eq] at c
    obtain ⟨⟨⟨c1, c2⟩, c3⟩, c4⟩ := c
    obtain ⟨its, rv, hl, hz⟩ := I.list (.of ea)
    rw [Vals.ref1 r]
    have hlen : vs.length = ds.length := dn.len
    have hm : (vs.zip ds).map (·.2) = ds := zip_snd hlen
    refine PySem.W.sorted_data (bs := vs.zip ds) (enc := (·.2)) (R := fun (u : Value) (p : V × D) => RelV p.1 u) hl.isList (each_zip rv hlen) (each_reads (K := X.K) I dn rv c3) (by rw [hm]; exact alikes_ok c1) (by rw [hm]; exact sortable_ok c2)
      (by rw [List.length_zip, hlen, Nat.min_self]; exact c4) (fun p hp => ?_) fun out hlo eo => ?_
    · have hd : p.2 ∈ ds := (List.of_mem_zip hp).2
      have := (okAt_lay (List.all_eq_true.mp c3 _ hd)).2
      omega
    · obtain ⟨ep, he'⟩ := PyProof.Rows.sortedAll_at s.heap its out.toArray
      have pm : ((vs.zip ds).mergeSort (PySem.W.dataLe false (·.2))).Perm (vs.zip ds) := List.mergeSort_perm _ _
      have hz2 : (((vs.zip ds).mergeSort (PySem.W.dataLe false (·.2))).map (·.1)).length ≤ sizeLine := by
        rw [List.length_map, pm.length_eq, List.length_zip, hlen, Nat.min_self]
        exact c4
      have hp : H (s.heap.objs.size + 1) = none := I.hok.fresh (Nat.le_succ _)
      refine ⟨.ref _, upd H (s.heap.objs.size + 1) (.lst (((vs.zip ds).mergeSort (PySem.W.dataLe false (·.2))).map (·.1))), I.laid (t' := s.toks) (fun _ _ => PyProof.Rows.sortedAll_old) (Nat.le_succ _) ⟨hz2, out, ep, each_vals eo, he'⟩, rfl, q _ _ (same_new hp) (.newL hp ?_)⟩
      have e2 : sortD ds = ((vs.zip ds).mergeSort (PySem.W.dataLe false (·.2))).map (·.2) := by rw [sort_snd, hm]
      rw [e2]
      exact DnAll.of_pairs fun p hp => dn.mem (pm.mem_iff.mp hp)
  · cases hs
theorem eq_of_sorted : ∀ {xs ys : List Int}, xs.Perm ys → xs.Pairwise (· ≤ ·) → ys.Pairwise (· ≤ ·) → xs = ys := fun p h1 h2 => List.Perm.eq_of_pairwise (fun a b _ _ x y => Int.le_antisymm x y) h1 h2 p
theorem sortD_ints {ns ys : List Int} (p : ys.Perm ns) (h : ys.Pairwise (· ≤ ·)) : sortD (ns.map .int) = ys.map .int := by
  unfold sortD
  have e : ((ns.mergeSort (fun a b => decide (a ≤ b))).map PyData.int) = (ns.map .int).mergeSort (PySem.W.dataLe false id) := by
    apply List.map_mergeSort
    intro a _ b _
    have := congrFun (congrFun (PySem.W.dataLe_int (fun (b : Int) => b)) a) b
    rw [← this]
    rfl
  rw [← e]
  congr 1
  refine eq_of_sorted ((List.mergeSort_perm _ _).trans p.symm) ?_ h
  have := List.pairwise_mergeSort (le := fun (a b : Int) => decide (a ≤ b)) (fun a b c x y => by simp at *; omega) (fun a b => by simp; omega) ns
  exact this.imp fun z => by simpa using z
theorem int_keys : ∀ {kds : List (Key × D)} {ns : List Int}, mapO int? (kds.map fun p => kD p.1) = some ns → kds.map (·.1) = ns.map Sum.inl
  | [], _, e => by cases e; rfl
  | (k, d) :: r, ns, e => by
    cases k with
    | inr z => simp [mapO, kD, int?] at e
    | inl i =>
      simp only [List.map_cons, mapO, kD, int?] at e
      cases e2 : mapO int? (r.map fun p => kD p.1) with
      | none =>
        have e3 : mapO int? (List.map (fun (p : Key × D) => match p.1 with | .inl i => PyData.int i | .inr s => PyData.str s) r) = none := e2
        simp only [kD] at e2
        rw [e2] at e
        cases e
      | some ms =>
        have ih := int_keys e2
        simp only [kD] at e2
        rw [e2] at e
        cases e
        simp only [List.map_cons, ih]
theorem vals_ints {K : PySem.W.Frag} {B : Av} {H : Hp} : ∀ ns : List Int, DnAll K B H (ns.map V.int) (ns.map .int)
  | [] => .nil
  | n :: ns => .cons (.int n) (vals_ints ns)
theorem c_sorted (hc : X.calm = true) (hu : X.A.units + 70 < cLine) : CallR X (.builtin "sorted") (rN X.K .sorted) := CallR.mono (CallR.or (c_sortedL hu) (call_sortedDI hc)) fun xs H Q h => by
  obtain ⟨x, B, d, t, rfl, hd, tr, e, q⟩ := rN.one h fun ds t e => by
    rcases ds with _ | ⟨d, _ | ⟨d2, r⟩⟩ <;> first | exact ⟨d, rfl⟩ | simp [opT] at e
  cases d <;> simp only [opT] at e <;> try (cases e)
  · rename_i ds
    simp only [Option.map_eq_some_iff] at e
    obtain ⟨ys, hs, rfl⟩ := e
    obtain ⟨a, vs, rfl, ea, dn⟩ := hd.list
    exact .inl ⟨_, rfl, B, a, vs, ds, ys, rfl, ea, dn, tr, hs, q⟩
  · rename_i kvs
    cases eu : undic kvs with
    | none => simp only [eu] at e; cases e
    | some kds =>
      simp only [eu] at e
      cases ek : mapO int? (kds.map fun p => kD p.1) with
      | none => simp only [ek] at e; cases e
      | some ns =>
        simp only [ek] at e
        split at e
        · rename_i l
          cases e
          obtain ⟨a, vs, rfl, ea, dn⟩ := hd.dic eu
          refine .inr ⟨a, _, ns, rfl, .inl ea, ?_, l, fun ys p pm pw hp => ?_⟩
          · rw [zip_fst (by rw [dn.len, List.length_map, List.length_map])]
            exact int_keys ek
          · rw [sortD_ints pm pw] at q
            exact q _ _ (same_new hp) (.newL hp (vals_ints ys))
        · cases e
theorem noDict_all : ∀ {xs : List D}, (∀ x ∈ xs, PyData.hasDict x = false) → PyData.hasDictAll xs = false
  | [], _ => by rw [PyData.hasDictAll]
  | x :: xs, h => by
    rw [PyData.hasDictAll, h x (.head _), noDict_all fun y hy => h y (.tail _ hy)]
    rfl
theorem okAt_noDict : ∀ {n : Nat} {d : D}, okAt n d = true → PyData.hasDict d = false := by
  intro n
  induction n with
  | zero =>
    intro d h
    cases d <;> first | (simp [PyData.hasDict]; done) | exact absurd h (by simp [okAt])
  | succ n ih =>
    intro d h
    cases d with
    | list xs =>
      rw [PyData.hasDict]
      exact noDict_all fun x hx => ih (List.all_eq_true.mp (show xs.all (okAt n) = true from h) x hx)
    | tuple xs =>
      rw [PyData.hasDict]
      exact noDict_all fun x hx => ih (List.all_eq_true.mp (show xs.all (okAt n) = true from h) x hx)
    | dict _ => exact absurd h (by simp [okAt])
    | _ => simp [PyData.hasDict]
theorem DO.ref {K : PySem.W.Frag} {B : Av} {H : Hp} {v : V} {xs : List D} (h : DO K B H v (.list xs) ∨ DO K B H v (.tuple xs)) : ∃ a, v = .ref a := by
  rcases h with h | h
  · obtain ⟨a, _, e, _⟩ := h.list
    exact ⟨a, e⟩
  · obtain ⟨a, _, e, _⟩ := h.tup
    exact ⟨a, e⟩
theorem c_repr (hg : X.A.guards = some []) (hu : X.A.units + 66 < cLine) : CallR X (.builtin "repr") (rN X.K .repr) := fun pins s σ H xs us Q I r h => by
  obtain ⟨x, B, d, t, rfl, hd, tr, e, q⟩ := rN.one h fun ds t e => by
    rcases ds with _ | ⟨d, _ | ⟨d2, r⟩⟩ <;> first | exact ⟨d, rfl⟩ | simp [opT] at e
  have key : ∀ {d : D} {a : Addr}, x = .ref a → DO X.K B H x d → okD d = true → d.showable = true → d.shown.length ≤ sizeLine → (∀ v H', Same H H' → RN X.K B H H' v (.shr (.str d.shown)) → Q v H') → wpAny (model X.prog X.w) X.A (call (.builtin "repr") us) (EP X pins σ Q) X.xe s := by
    intro d a ex hd ok hs hz q
    subst ex
    rw [Vals.ref1 r]
    obtain ⟨as, rd⟩ := Dp.reads I _ _ (.ref a) (hd.dp ok) rfl
    have dp := (okAt_lay ok).2
    refine repr_of_reads' rd hs (fun z => by rw [okAt_noDict ok] at z; cases z) hg (by omega) (fun _ _ e => e) (fun h' u tk hk => ?_) hz
    exact ⟨.str d.shown, H, I.kept hk, ⟨_, rfl⟩, q _ _ (Same.refl _) (.str _)⟩
  cases d <;> simp only [opT] at e <;> (try (cases e)) <;> (split at e <;> (try (cases e))) <;> rename_i c <;> simp only [Bool.and_eq_true, decide_eq_true_eq] at c
  · obtain ⟨a, vs, ex, _⟩ := hd.list
    exact key ex hd c.1.1 c.1.2 c.2 q
  · obtain ⟨a, vs, ex, _⟩ := hd.tup
    exact key ex hd c.1.1 c.1.2 c.2 q
end
end VS
set_option Elab.async false
set_option linter.all false
set_option maxRecDepth 100000
set_option maxHeartbeats 1000000
/-! The VS layer, part E: expressions. -/
namespace VS
open PySem PySem.Spec PyProof.Rows L2

def gets (ρ : Env) : List O → Option (List D) := mapO (O.get ρ)
/-- the operation, its operands at hand -/
def fin (op : Op) (os : List O) : M T := fun ρ => match gets ρ os with
  | some ds => match opT op ds with
    | some t => .ok t ρ
    | none => .stk
  | none => .stk
def mApp (op : Op) (ms : List (M O)) : M T := bnd (mOs ms) (fin op)
/-- the truth of data -/
def truth : D → Option Bool
  | .none => some false
  | .bool b => some b
  | .int i => some (i != 0)
  | .str s => if s.length ≤ sizeLine then some ((s.length : Int) != 0) else none
  | .list xs => some (!xs.isEmpty)
  | .tuple xs => some (!xs.isEmpty)
  | .dict kvs => (undic kvs).map fun kds => !kds.isEmpty
def valO : O → Option D
  | .val d => some d
  | .ref _ => none
def vals : List O → Option (List D) := mapO valO
/-- displays: what is stored is data -/
def mkTup (os : List O) : M T := match vals os with
  | some ds => if ds.length ≤ sizeLine then ret (.shr (.tuple ds)) else fun _ => .stk
  | none => fun _ => .stk
def mkLst (os : List O) : M T := match vals os with
  | some ds => if ds.length ≤ sizeLine then ret (.lst ds) else fun _ => .stk
  | none => fun _ => .stk
def mTup (ms : List (M O)) : M T := bnd (mOs ms) mkTup
def mLst (ms : List (M O)) : M T := bnd (mOs ms) mkLst
def mTruth (m : M O) : M Bool := bnd m fun o ρ => match (o.get ρ).bind truth with
  | some b => .ok b ρ
  | none => .stk
def mNot (m : M Bool) : M Bool := bnd m fun b => ret (!b)
def mAndT (m n : M Bool) : M Bool := bnd m fun b => if b then n else ret false
def mOrT (m n : M Bool) : M Bool := bnd m fun b => if b then ret true else n
def stuck {α : Type} : M α := fun _ => .stk
/-- and, or, not, if as values -/
def mNotV (m : M O) : M T := bnd (mTruth m) fun b => ret (.shr (.bool (!b)))
def mAndV (m n : M T) : M T := bnd m fun t => match truth t.toD with
  | some true => n
  | some false => ret (.shr t.toD)
  | none => stuck
def mOrV (m n : M T) : M T := bnd m fun t => match truth t.toD with
  | some true => ret (.shr t.toD)
  | some false => n
  | none => stuck
def mIf {α : Type} (c : M Bool) (m n : M α) : M α := bnd c fun b => if b then m else n
/-- a < b < c -/
def mChain (op op' : Op) (ma mb mc : M O) : M T := bnd ma fun a => bnd mb fun b => bnd (fin op [a, b]) fun t => match t.toD with
  | .bool true => bnd mc fun c => fin op' [b, c]
  | .bool false => ret (.shr (.bool false))
  | _ => stuck

section
variable {C : Wd} {U : Av} {σ : L2.St} {H H' : Hp} {ρ ρ' : Env}
theorem get_do {v : V} {o : O} {d : D} (R : Rel C.K U H σ ρ) (r : RO C.K U σ H ρ v o) (e : o.get ρ = some d) : DO C.K (Both U (Own σ ρ)) H v d := by
  cases o with
  | val d' => cases e; exact .inl r
  | ref i =>
    unfold O.get at e
    cases q : ρ[i]? with
    | none => simp only [q] at e; cases e
    | some w =>
      cases w with
      | none => simp only [q] at e; cases e
      | some t =>
        simp only [q] at e
        cases e
        obtain ⟨v', e1, rt⟩ := R.slot i t q
        have r' : σ[i]? = some (some v) := r
        rw [r'] at e1
        cases e1
        cases t with
        | shr d => exact .inl rt
        | lst ds => exact .inr ⟨_, rfl, rfl, rt⟩
        | dic ds => exact .inr ⟨_, rfl, rfl, rt⟩
theorem gets_do : ∀ {vs : List V} {os : List O} {ds : List D}, Rel C.K U H σ ρ → ROs C.K U σ H ρ vs os → gets ρ os = some ds → DOs C.K (Both U (Own σ ρ)) H vs ds
  | _, _, ds, R, .nil, e => by cases e; exact .nil
  | _, _, ds, R, .cons (o := o) (os := os) h t, e => by
    unfold gets at e
    cases e1 : o.get ρ with
    | none => simp only [mapO, e1] at e; cases e
    | some d =>
      cases e2 : mapO (O.get ρ) os with
      | none => simp only [mapO, e1, e2] at e; cases e
      | some ds' =>
        simp only [mapO, e1, e2] at e
        cases e
        exact .cons (get_do R h e1) (gets_do R t e2)
theorem tracked_both (R : Rel C.K U H σ ρ) : ∀ a, Both U (Own σ ρ) a → ∃ o, H a = some o := fun a z => z.elim (R.tr a) R.tracked
theorem mv_own {W : Av} {a : Addr} (s : Same H H') (hn : H a = none) : Mv W H (Both W (· = a)) H' := fun b o e n => ⟨s b o e, fun z => z.elim n fun q => by
  rw [q, hn] at e; cases e⟩
/-- a new value -/
theorem RelR.new {v : V} {t : T} (R : Rel C.K U H σ ρ) (s : Same H H') (r : RN C.K (Both U (Own σ ρ)) H H' v t) : RelR C.K U σ H' ρ v t ∧ Ext (Own σ ρ) H (Both (Own σ ρ) (OwnT t v)) H' := by
  have key : ∀ a, v = .ref a → H a = none → (∃ o, H' a = some o) → t.own = true → RT C.K (Both (Both U (Own σ ρ)) (· = a)) H' v t → RelR C.K U σ H' ρ v t ∧ Ext (Own σ ρ) H (Both (Own σ ρ) (OwnT t v)) H' := by
    intro a ev hn ho own rt
    have one : ∀ b, OwnT t v b → b = a := fun b z => by
      have := z.2.symm.trans ev
      cases this
      rfl
    refine ⟨⟨R.grow s (fun b z => z.elim .inl fun q => .inr (by rw [one b q]; exact hn)) fun b z => ?_, ?_, fun b z u => ?_⟩, ⟨fun b o e n => ⟨s b o e, fun z => z.elim n fun q => ?_⟩, fun b o e => ⟨o, s b o e⟩⟩⟩
    · rcases z with z | z
      · obtain ⟨o, e⟩ := R.tr b z
        exact ⟨o, s b o e⟩
      · rw [one b z]; exact ho
    · exact rt.mv (Mv.less fun b z => by
        rcases z with (z | z) | z
        · exact .inl (.inl z)
        · exact .inr (one b z)
        · exact .inl (.inr z)) fun _ _ _ _ h => h
    · obtain ⟨o, e⟩ := R.tr b u
      rw [one b z, hn] at e
      cases e
    · rw [one b q, hn] at e
      cases e
  cases t with
  | shr d =>
    have R' : Rel C.K U H' σ ρ := R.grow s (fun _ z => .inl z) fun b z => by
      obtain ⟨o, e⟩ := R.tr b z
      exact ⟨o, s b o e⟩
    exact ⟨RelR.shr R' r, (Ext.of_same s).less fun a z => z.elim id fun w => by cases w.1⟩
  | lst ds =>
    obtain ⟨a, vs, rfl, hn, e, x⟩ := r
    exact key a rfl hn ⟨_, e⟩ rfl ⟨a, vs, rfl, e, x.mv (mv_own s hn)⟩
  | dic kds =>
    obtain ⟨a, vs, rfl, hn, e, x⟩ := r
    exact key a rfl hn ⟨_, e⟩ rfl ⟨a, vs, rfl, e, x.mv (mv_own s hn)⟩
theorem fin_ok {op : Op} {vs : List V} {os : List O} {Q : VK} (R : Rel C.K U H σ ρ) (r : ROs C.K U σ H ρ vs os) (p : Post C U σ (RelR C.K U σ) (fun v t => OwnT t v) H ρ Q (fin op os ρ)) : rN C.K op vs H Q := by
  unfold fin at p
  cases e1 : gets ρ os with
  | none => rw [e1] at p; exact p.elim
  | some ds =>
    rw [e1] at p
    cases e2 : opT op ds with
    | none => simp only [e2] at p; exact p.elim
    | some t =>
      simp only [e2] at p
      exact ⟨Both U (Own σ ρ), ds, t, gets_do R r e1, tracked_both R, e2, fun v H' s rn => p v H' (RelR.new R s rn).1 (RelR.new R s rn).2⟩
theorem truth_do {K : PySem.W.Frag} {B : Av} {v : V} {d : D} {b : Bool} (h : DO K B H v d) (e : truth d = some b) : TruV K v H b := by
  cases d with
  | none =>
    cases e
    rcases h with h | ⟨t, o, e, _⟩
    · cases h; exact rfl
    · rcases toD_own o with ⟨_, q⟩ | ⟨_, q⟩ <;> (rw [q] at e; cases e)
  | bool b => cases e; cases h.bool; exact rfl
  | int i => cases e; cases h.int; exact rfl
  | str s =>
    simp only [truth] at e
    split at e
    · rename_i c
      cases e
      cases h.str
      exact ⟨c, rfl⟩
    · cases e
  | list xs =>
    cases e
    obtain ⟨a, vs, rfl, ea, x⟩ := h.list
    refine .inl ⟨vs, .of ea, ?_⟩
    cases x <;> rfl
  | tuple xs =>
    cases e
    obtain ⟨a, vs, rfl, ea, x⟩ := h.tup
    refine .inr (.inl ⟨vs, ea, ?_⟩)
    cases x <;> rfl
  | dict kvs =>
    simp only [truth] at e
    obtain ⟨kds, hk, rfl⟩ := Option.map_eq_some_iff.mp e
    obtain ⟨a, vs, rfl, ea, x⟩ := h.dic hk
    refine .inr (.inr ⟨_, ea, ?_⟩)
    cases kds with
    | nil => rfl
    | cons p r =>
      cases x
      rfl
end
section
variable {X : Cx} {C : Wd} {a b c : Expr} {ma mb mc : M O} {op op' : Op} {pos : Pos}
theorem noOw_refl {σ : L2.St} {ρ : Env} {H : Hp} {α β : Type} {x : α} {y : β} : Ext (Own σ ρ) H (Both (Own σ ρ) (noOw x y)) H := Ext.refl.less fun _ z => z.elim id False.elim
theorem Ext.drop {W W' W2 : Av} {H H' : Hp} (x : Ext W H (Both W' W2) H') : Ext W H W' H' := x.less fun _ z => .inl z
/-- two operands, from the left -/
theorem two_of {σ : L2.St} {H : Hp} {Q : VK} (h : tE C (mApp op [ma, mb]) σ H Q) : tOp (r2 C.K op) (tO C ma) (tO C mb) σ H Q := by
  obtain ⟨U, ρ, R, p⟩ := h
  unfold mApp at p
  have p := Post.seq (RR1 := fun H' ρ' vs os => Rel C.K U H' σ ρ' ∧ ROs C.K U σ H' ρ' vs os) (OW1 := noOw) (Q1 := fun vs H1 => rN C.K op vs H1 Q) p fun os ρ1 vs H1 rr x q => fin_ok rr.1 rr.2 q
  refine ⟨U, ρ, R, p.seq fun o1 ρ1 v H1 rr x q => ?_⟩
  refine ⟨U, ρ1, rr.1, ?_⟩
  have q := Post.seq (RR1 := fun H' ρ' vs os => Rel C.K U H' σ ρ' ∧ ROs C.K U σ H' ρ' vs os) (OW1 := noOw) (Q1 := fun vs H2 => rN C.K op (v :: vs) H2 Q) q
    fun os ρ2 vs H2 rs y z => z (v :: vs) H2 ⟨rs.1, .cons (rr.2.ext y.drop) rs.2⟩ noOw_refl
  refine Post.seq q fun o2 ρ2 w H2 rs y z => ?_
  exact z [w] H2 ⟨rs.1, .cons rs.2 .nil⟩ noOw_refl
theorem one_of {σ : L2.St} {H : Hp} {Q : VK} (h : tE C (mApp op [ma]) σ H Q) : tO C ma σ H fun x H1 => r1 C.K op x H1 Q := by
  obtain ⟨U, ρ, R, p⟩ := h
  unfold mApp at p
  have p := Post.seq (RR1 := fun H' ρ' vs os => Rel C.K U H' σ ρ' ∧ ROs C.K U σ H' ρ' vs os) (OW1 := noOw) (Q1 := fun vs H1 => rN C.K op vs H1 Q) p fun os ρ1 vs H1 rr x q => fin_ok rr.1 rr.2 q
  refine ⟨U, ρ, R, p.seq fun o1 ρ1 v H1 rr x q => ?_⟩
  exact q [v] H1 ⟨rr.1, .cons rr.2 .nil⟩ noOw_refl
theorem many_of {ms : List (M O)} {σ : L2.St} {H : Hp} {Q : VK} (h : tE C (mApp op ms) σ H Q) : tOs C (mOs ms) σ H fun vs H1 => rN C.K op vs H1 Q := by
  obtain ⟨U, ρ, R, p⟩ := h
  exact ⟨U, ρ, R, Post.seq p fun os ρ1 vs H1 rr x q => fin_ok rr.1 rr.2 q⟩
theorem se_bin {bop : Operator} (ho : OpR X (binaryOp bop) (r2 C.K op)) (ha : PE X a (tO C ma)) (hb : PE X b (tO C mb)) : PE X (.BinOp a bop b pos) (tE C (mApp op [ma, mb])) := (pe_op ho ha hb).mono fun _ _ _ h => two_of h
theorem se_cmp {cop : CmpOp} (ho : OpR X (compareOp cop) (r2 C.K op)) (ha : PE X a (tO C ma)) (hb : PE X b (tO C mb)) (hm : behindInMarks cop b = false) : PE X (.Compare a [cop] [b] pos) (tE C (mApp op [ma, mb])) := (pe_cmpR ho ha hb hm).mono fun _ _ _ h => two_of h
theorem se_isN {j : Nat} {cop : CmpOp} {p : Pos} (ho : OpR X (compareOp cop) (fun x y H Q => y = .non ∧ r1 C.K op x H Q)) (ha : PE X a (tO C ma)) (hm : behindInMarks cop (.Constant .none j p) = false) : PE X (.Compare a [cop] [.Constant .none j p] pos) (tE C (mApp op [ma])) :=
  (pe_cmpR ho ha pe_non hm).mono fun σ H Q h => by
    obtain ⟨U, ρ, R, p⟩ := one_of h
    exact ⟨U, ρ, R, p.imp fun o ρ' v H' rr x k => ⟨rfl, k v H' rr x⟩⟩
theorem se_neg (ho : UnR X (unaryOp .USub) (r1 C.K op)) (ha : PE X a (tO C ma)) : PE X (.UnaryOp .USub a pos) (tE C (mApp op [ma])) := (pe_un ho ha).mono fun _ _ _ h => one_of h
theorem se_idx (ho : IxR X (r2 C.K op)) (ha : PE X a (tO C ma)) (hb : PE X b (tO C mb)) (hs : PlainIx b) : PE X (.Subscript a b pos) (tE C (mApp op [ma, mb])) := (pe_ix ho ha hb hs).mono fun _ _ _ h => two_of h
theorem vals_dn {U : Av} {σ : L2.St} {H : Hp} {ρ : Env} : ∀ {vs : List V} {os : List O} {ds : List D}, ROs C.K U σ H ρ vs os → vals os = some ds → DnAll C.K (Both U (Own σ ρ)) H vs ds
  | _, _, ds, .nil, e => by cases e; exact .nil
  | _, _, ds, .cons (o := o) (os := os) h t, e => by
    unfold vals at e
    cases o with
    | ref i => simp only [mapO, valO] at e; cases e
    | val d =>
      cases e2 : mapO valO os with
      | none => simp only [mapO, valO, e2] at e; cases e
      | some ds' =>
        simp only [mapO, valO, e2] at e
        cases e
        exact .cons h (vals_dn t e2)
theorem se_tup {es : List Expr} {ms : List (M O)} {x1 : Nat} (h : PA X es (tOs C (mOs ms))) : PE X (.Tuple es x1 pos) (tE C (mTup ms)) := (pe_tup h).mono fun σ H Q ⟨U, ρ, R, p⟩ => by
  refine ⟨U, ρ, R, p.seq fun os ρ' vs H' rr x k => ?_⟩
  unfold mkTup at k
  cases e : vals os with
  | none => simp only [e] at k; exact k.elim
  | some ds =>
    simp only [e] at k
    split at k
    · rename_i c
      have dn := vals_dn rr.2 e
      refine ⟨by rw [dn.len]; exact c, fun p hp => ?_⟩
      have rn : RN C.K (Both U (Own σ ρ')) H' (upd H' p (.tup vs)) (.ref p) (.shr (.tuple ds)) := .newT (tracked_both rr.1) hp dn
      exact k _ _ (RelR.new rr.1 (same_new hp) rn).1 (RelR.new rr.1 (same_new hp) rn).2
    · exact k.elim
theorem se_lst {es : List Expr} {ms : List (M O)} (h : PA X es (tOs C (mOs ms))) : PE X (.List es pos) (tE C (mLst ms)) := (pe_lst h).mono fun σ H Q ⟨U, ρ, R, p⟩ => by
  refine ⟨U, ρ, R, p.seq fun os ρ' vs H' rr x k => ?_⟩
  unfold mkLst at k
  cases e : vals os with
  | none => simp only [e] at k; exact k.elim
  | some ds =>
    simp only [e] at k
    split at k
    · rename_i c
      have dn := vals_dn rr.2 e
      refine ⟨by rw [dn.len]; exact c, fun p hp => ?_⟩
      have rn : RN C.K (Both U (Own σ ρ')) H' (upd H' p (.lst vs)) (.ref p) (.lst ds) := .newL hp dn
      exact k _ _ (RelR.new rr.1 (same_new hp) rn).1 (RelR.new rr.1 (same_new hp) rn).2
    · exact k.elim
theorem se_dict0 : PE X (.Dict [] [] pos) (tE C (ret (.dic []))) := pe_dnewK.mono fun σ H Q ⟨U, ρ, R, p⟩ => fun d hd => by
  have rn : RN C.K (Both U (Own σ ρ)) H (upd H d (.dK [])) (.ref d) (.dic []) := ⟨d, [], rfl, hd, upd_same, .nil⟩
  exact p _ _ (RelR.new R (same_new hd) rn).1 (RelR.new R (same_new hd) rn).2
/-- calls of what is built in -/
theorem se_callB {x : Str} {p : Pos} {id : String} {e : Expr} {es : List Expr} {ms : List (M O)} (hc : CallR X (.builtin id) (rN C.K op)) (hg : Gl X x) (hm : X.mg x = none) (hv : bootBuiltins x = some (.builtin id)) (ha : PA X (e :: es) (tOs C (mOs ms))) (hn : x ≠ "__name__") (hdb : (x == ("__debug__" : Str)) = false)
    (he : starEach (e :: es) X.env = (false, eval e X.env) :: starEach es X.env) (hpl : (backTo pos (starEach es X.env)).any (·.1) = false) : PE X (.Call (.Name x p) (e :: es) [] pos) (tE C (mApp op ms)) :=
  (pe_callB hc hg hm hv ha hn hdb he hpl).mono fun _ _ _ h => many_of h
theorem se_callTy {x : Str} {p : Pos} {ty : String} {e : Expr} {es : List Expr} {ms : List (M O)} (hc : CallR X (.type ty) (rN C.K op)) (hg : Gl X x) (hm : X.mg x = none) (hv : bootBuiltins x = some (.type ty)) (ha : PA X (e :: es) (tOs C (mOs ms))) (hn : x ≠ "__name__") (hdb : (x == ("__debug__" : Str)) = false)
    (he : starEach (e :: es) X.env = (false, eval e X.env) :: starEach es X.env) (hpl : (backTo pos (starEach es X.env)).any (·.1) = false) : PE X (.Call (.Name x p) (e :: es) [] pos) (tE C (mApp op ms)) :=
  (pe_callTy hc hg hm hv ha hn hdb he hpl).mono fun _ _ _ h => many_of h
theorem se_isi {p p2 : Pos} {x : Str} {ty : String} (hc : CallR X (.builtin "isinstance") (fun xs H Q => ∃ x, xs = [x, .ty ty] ∧ r1 C.K (.isi ty) x H Q)) (hg : Gl X "isinstance") (hm : X.mg "isinstance" = none) (ha : PE X a (tO C ma)) (hg2 : Gl X x) (hm2 : X.mg x = none) (hv2 : bootBuiltins x = some (.type ty))
    (hn : x ≠ "__name__") (hdb : (x == ("__debug__" : Str)) = false) (hs : starEach [a, .Name x p2] X.env = [(false, eval a X.env), (false, eval (.Name x p2) X.env)]) : PE X (.Call (.Name "isinstance" p) [a, .Name x p2] [] pos) (tE C (mApp (.isi ty) [ma])) := by
  have h2 : starEach [Expr.Name x p2] X.env = [(false, eval (.Name x p2) X.env)] := rfl
  have hb : PE X (.Name x p2) (tC (.ty ty)) := pe_bltn hg2 hm2 hv2 rfl hn hdb
  refine (pe_callB hc hg hm (by decide +kernel) (pa_cons ha (pa_cons hb pa_nil rfl) (by rw [h2]; exact hs)) (by decide) (by decide) (by rw [h2]; exact hs) (by rw [h2]; rfl)).mono fun σ H Q h => ?_
  obtain ⟨U, ρ, R, p⟩ := one_of h
  exact ⟨U, ρ, R, p.imp fun o ρ' v H' rr x k => ⟨v, rfl, k v H' rr x⟩⟩

/-! ### truth -/
theorem st_truth (ha : PE X a (tO C ma)) (hK : C.K = X.K) (he : ∀ whole, isTrue a X.env whole = (do let v ← whole; standAt a.pos; holding [v] (truthy v))) : PT X a (tT C (mTruth ma)) := (pt_truth ha he).mono fun σ H Q ⟨U, ρ, R, p⟩ => by
  refine ⟨U, ρ, R, p.seq fun o ρ1 v H1 rr x q => ?_⟩
  cases e : (o.get ρ1).bind truth with
  | none => simp only [e] at q; exact q.elim
  | some b =>
    simp only [e] at q
    obtain ⟨d, e1, e2⟩ := Option.bind_eq_some_iff.mp e
    rw [hK] at rr
    exact ⟨b, truth_do (get_do (C := { C with K := X.K }) rr.1 rr.2 e1) e2, q b H1 ⟨by rw [hK]; exact rr.1, rfl⟩ noOw_refl⟩
theorem of_bool {K : PySem.W.Frag} {U : Av} {σ : L2.St} {H : Hp} {ρ : Env} {v : V} {t : T} {b : Bool} (r : RelR K U σ H ρ v t) (e : t.toD = .bool b) : v = .bl b := by
  have := r.frz
  rw [e] at this
  cases this
  rfl
/-- a comparison as a test -/
def mBool (m : M T) : M Bool := bnd m fun t => match t.toD with
  | .bool b => ret b
  | _ => stuck
theorem test_of {m : M T} {t : TE} (h : ∀ σ H Q, tE C m σ H Q → t σ H Q) : ∀ σ H Q, tT C (mBool m) σ H Q → tTest t σ H Q := fun σ H Q ⟨U, ρ, R, p⟩ => by
  refine h σ H _ ⟨U, ρ, R, Post.seq p fun t ρ1 v H1 rr x q => ?_⟩
  cases e : t.toD with
  | bool b =>
    simp only [e] at q
    exact ⟨b, of_bool rr e, q b H1 ⟨rr.drop, rfl⟩ noOw_refl⟩
  | _ => simp only [e] at q; exact q.elim
theorem st_cmp {cop : CmpOp} (ho : OpR X (compareOp cop) (r2 C.K op)) (ha : PE X a (tO C ma)) (hb : PE X b (tO C mb)) (hm : behindInMarks cop b = false) : PT X (.Compare a [cop] [b] pos) (tT C (mBool (mApp op [ma, mb]))) := (pt_cmpR ho ha hb hm).mono (test_of fun _ _ _ h => two_of h)
theorem st_isN {j : Nat} {cop : CmpOp} {p : Pos} (ho : OpR X (compareOp cop) (fun x y H Q => y = .non ∧ r1 C.K op x H Q)) (ha : PE X a (tO C ma)) (hm : behindInMarks cop (.Constant .none j p) = false) : PT X (.Compare a [cop] [.Constant .none j p] pos) (tT C (mBool (mApp op [ma]))) :=
  (pt_cmpR ho ha pe_non hm).mono (test_of fun σ H Q h => by
    obtain ⟨U, ρ, R, p⟩ := one_of h
    exact ⟨U, ρ, R, p.imp fun o ρ' v H' rr x k => ⟨rfl, k v H' rr x⟩⟩)
theorem chain_of {σ : L2.St} {H : Hp} {Q : VK} (h : tE C (mChain op op' ma mb mc) σ H Q) : tChain (r2 C.K op) (r2 C.K op') (tO C ma) (tO C mb) (tO C mc) σ H Q := by
  obtain ⟨U, ρ, R, p⟩ := h
  refine ⟨U, ρ, R, p.seq fun o1 ρ1 v H1 rr x q => ?_⟩
  refine ⟨U, ρ1, rr.1, q.seq fun o2 ρ2 w H2 rs y z => ?_⟩
  have z := Post.seq (RR1 := RelR C.K U σ) (OW1 := fun v t => OwnT t v) (Q1 := fun z H3 => ∃ k, z = .bl k ∧ (if k = true then tO C mc σ H3 (fun w' H4 => r2 C.K op' w w' H4 Q) else Q (.bl false) H3)) z fun t ρ3 u H3 rt y2 z2 => ?_
  · exact fin_ok rs.1 (.cons (rr.2.ext y.drop) (.cons rs.2 .nil)) z
  · cases e : t.toD with
    | bool b =>
      simp only [e] at z2
      refine ⟨b, of_bool rt e, ?_⟩
      cases b with
      | true =>
        simp only at z2
        rw [if_pos rfl]
        refine ⟨U, ρ3, rt.drop, z2.seq fun o3 ρ4 u2 H4 ru y3 z3 => ?_⟩
        exact fin_ok ru.1 (.cons ((rs.2.ext y2.drop).ext y3.drop) (.cons ru.2 .nil)) z3
      | false =>
        simp only at z2
        rw [if_neg Bool.false_ne_true]
        exact z2 _ _ (RelR.shr rt.drop (.bl false)) (Ext.refl.less fun a z => z.elim id fun w => by cases w.1)
    | _ => simp only [e] at z2; exact z2.elim
theorem se_chain {c1 c2 : CmpOp} (ho : OpR X (compareOp c1) (r2 C.K op)) (ho' : OpR X (compareOp c2) (r2 C.K op')) (ha : PE X a (tO C ma)) (hb : PE X b (tO C mb)) (hc : PE X c (tO C mc)) (hm : lastMarks [c1, c2] [b, c] = false) :
    PE X (.Compare a [c1, c2] [b, c] pos) (tE C (mChain op op' ma mb mc)) := (pe_chain ho ho' ha hb hc hm).mono fun _ _ _ h => chain_of h
theorem st_chain {c1 c2 : CmpOp} (ho : OpR X (compareOp c1) (r2 C.K op)) (ho' : OpR X (compareOp c2) (r2 C.K op')) (ha : PE X a (tO C ma)) (hb : PE X b (tO C mb)) (hc : PE X c (tO C mc)) (hm : lastMarks [c1, c2] [b, c] = false) :
    PT X (.Compare a [c1, c2] [b, c] pos) (tT C (mBool (mChain op op' ma mb mc))) := (pt_chain ho ho' ha hb hc hm).mono (test_of fun _ _ _ h => chain_of h)
variable {na nb : M Bool} {m n : M T} {rest : List Expr}
theorem st_not (h : PT X a (tT C na)) : PT X (.UnaryOp .Not a pos) (tT C (mNot na)) := (pt_not h).mono fun σ H Q ⟨U, ρ, R, p⟩ =>
  ⟨U, ρ, R, p.seq fun b ρ1 c H1 rr x q => by rw [rr.2]; exact q _ _ ⟨rr.1, rfl⟩ noOw_refl⟩
theorem st_and (ha : PT X a (tT C na)) (hb : PW X (.BoolOp .And (b :: rest) pos) (tT C nb)) : PW X (.BoolOp .And (a :: b :: rest) pos) (tT C (mAndT na nb)) := (pw_and ha hb).mono fun σ H Q ⟨U, ρ, R, p⟩ => by
  refine ⟨U, ρ, R, p.seq fun b ρ1 c H1 rr x q => ?_⟩
  obtain ⟨R1, rfl⟩ := rr
  cases c with
  | true => rw [if_pos rfl]; exact ⟨U, ρ1, R1, q⟩
  | false => rw [if_neg Bool.false_ne_true]; exact q _ _ ⟨R1, rfl⟩ noOw_refl
theorem st_or (ha : PT X a (tT C na)) (hb : PW X (.BoolOp .Or (b :: rest) pos) (tT C nb)) : PW X (.BoolOp .Or (a :: b :: rest) pos) (tT C (mOrT na nb)) := (pw_or ha hb).mono fun σ H Q ⟨U, ρ, R, p⟩ => by
  refine ⟨U, ρ, R, p.seq fun b ρ1 c H1 rr x q => ?_⟩
  obtain ⟨R1, rfl⟩ := rr
  cases c with
  | true => rw [if_pos rfl]; exact q _ _ ⟨R1, rfl⟩ noOw_refl
  | false => rw [if_neg Bool.false_ne_true]; exact ⟨U, ρ1, R1, q⟩
theorem truth_R {U : Av} {σ : L2.St} {H : Hp} {ρ : Env} {v : V} {t : T} {k : Bool} (r : RelR C.K U σ H ρ v t) (e : truth t.toD = some k) : TruV C.K v H k := truth_do (.inl r.frz) e
theorem se_and (hK : C.K = X.K) (ha : PE X a (tE C m)) (hb : PE X (.BoolOp .And (b :: rest) pos) (tE C n)) : PE X (.BoolOp .And (a :: b :: rest) pos) (tE C (mAndV m n)) := (pe_andT ha hb).mono fun σ H Q ⟨U, ρ, R, p⟩ => by
  refine ⟨U, ρ, R, p.seq fun t ρ1 v H1 rr x q => ?_⟩
  cases e : truth t.toD with
  | none => simp only [e] at q; exact q.elim
  | some k =>
    simp only [e] at q
    refine ⟨k, by rw [← hK]; exact truth_R rr e, ?_⟩
    cases k with
    | true => rw [if_pos rfl]; exact ⟨U, ρ1, rr.drop, q⟩
    | false => rw [if_neg Bool.false_ne_true]; exact q v H1 (RelR.shr rr.drop rr.frz) (Ext.refl.less fun a z => z.elim id fun w => by cases w.1)
theorem se_or (hK : C.K = X.K) (ha : PE X a (tE C m)) (hb : PE X (.BoolOp .Or (b :: rest) pos) (tE C n)) : PE X (.BoolOp .Or (a :: b :: rest) pos) (tE C (mOrV m n)) := (pe_orT ha hb).mono fun σ H Q ⟨U, ρ, R, p⟩ => by
  refine ⟨U, ρ, R, p.seq fun t ρ1 v H1 rr x q => ?_⟩
  cases e : truth t.toD with
  | none => simp only [e] at q; exact q.elim
  | some k =>
    simp only [e] at q
    refine ⟨k, by rw [← hK]; exact truth_R rr e, ?_⟩
    cases k with
    | true => rw [if_pos rfl]; exact q v H1 (RelR.shr rr.drop rr.frz) (Ext.refl.less fun a z => z.elim id fun w => by cases w.1)
    | false => rw [if_neg Bool.false_ne_true]; exact ⟨U, ρ1, rr.drop, q⟩
theorem se_not (hK : C.K = X.K) (ha : PE X a (tO C ma)) : PE X (.UnaryOp .Not a pos) (tE C (mNotV ma)) := (pe_notT ha).mono fun σ H Q ⟨U, ρ, R, p⟩ => by
  have p := Post.seq (RR1 := fun H' ρ' b c => Rel C.K U H' σ ρ' ∧ b = c) (OW1 := noOw) (Q1 := fun b H1 => Q (.bl (!b)) H1) p fun b ρ1 c H1 rr x q => by
    rw [rr.2]
    exact q _ _ (RelR.shr rr.1 (.bl _)) (Ext.refl.less fun a z => z.elim id fun w => by cases w.1)
  refine ⟨U, ρ, R, p.seq fun o ρ1 v H1 rr x q => ?_⟩
  cases e : (o.get ρ1).bind truth with
  | none => simp only [e] at q; exact q.elim
  | some b =>
    simp only [e] at q
    obtain ⟨d, e1, e2⟩ := Option.bind_eq_some_iff.mp e
    exact ⟨b, by rw [← hK]; exact truth_do (get_do rr.1 rr.2 e1) e2, q b H1 ⟨rr.1, rfl⟩ noOw_refl⟩
theorem se_if {nc : M Bool} (hc : PT X c (tT C nc)) (ha : PE X a (tE C m)) (hb : PE X b (tE C n)) : PE X (.IfExp c a b pos) (tE C (mIf nc m n)) := (pe_ifExp hc ha hb).mono fun σ H Q ⟨U, ρ, R, p⟩ => by
  refine ⟨U, ρ, R, p.seq fun b ρ1 k H1 rr x q => ?_⟩
  obtain ⟨R1, rfl⟩ := rr
  cases k with
  | true => rw [if_pos rfl]; exact ⟨U, ρ1, R1, q⟩
  | false => rw [if_neg Bool.false_ne_true]; exact ⟨U, ρ1, R1, q⟩
/-! ### slices -/
def getI (o : O) : M Int := fun ρ => match o.get ρ with
  | some (.int i) => .ok i ρ
  | _ => .stk
def finSl (o : O) (lo hi : Option Int) : M T := fun ρ => match o.get ρ with
  | some d => match slT d lo hi with
    | some t => .ok t ρ
    | none => .stk
  | none => .stk
/-- a part of a slice: None, or an int -/
def mPart : Option (M O) → M (Option Int)
  | none => ret none
  | some m => bnd m fun o => bnd (getI o) fun i => ret (some i)
def mSl (m : M O) (lo hi : Option (M O)) : M T := bnd m fun o => bnd (mPart lo) fun l => bnd (mPart hi) fun h => finSl o l h
def tP (C : Wd) (m : M (Option Int)) : TO := fun σ H Q => ∃ U ρ, Rel C.K U H σ ρ ∧ Post C U σ (fun H' ρ' l i => Rel C.K U H' σ ρ' ∧ l = i) noOw H ρ Q (m ρ)
theorem _root_.L2.PO.mono {e : Option Expr} {t t' : TO} (h : PO X e t) (k : ∀ σ H Q, t' σ H Q → t σ H Q) : PO X e t' := ⟨fun pins s σ H Q I q => h.run pins s σ H Q I (k σ H Q q)⟩
theorem sp_none : PO X none (tP C (mPart none)) := po_none.mono fun σ H Q ⟨U, ρ, R, p⟩ => p none H ⟨R, rfl⟩ noOw_refl
theorem sp_some (ha : PE X a (tO C ma)) : PO X (some a) (tP C (mPart (some ma))) := (po_some ha).mono fun σ H Q ⟨U, ρ, R, p⟩ => by
  refine ⟨U, ρ, R, p.seq fun o ρ1 v H1 rr x q => ?_⟩
  have e0 : ∃ i, o.get ρ1 = some (.int i) := by
    unfold bnd getI at q
    split at q
    · rename_i h; split at h
      · exact ⟨_, by assumption⟩
      · cases h
    · rename_i h; split at h <;> cases h
    · exact q.elim
  obtain ⟨i, e⟩ := e0
  have q' : Post C U σ (fun H' ρ' l i => Rel C.K U H' σ ρ' ∧ l = i) noOw H1 ρ1 Q (.ok (some i) ρ1) := by
    have z : bnd (getI o) (fun i => ret (some i)) ρ1 = .ok (some i) ρ1 := by
      unfold bnd getI
      rw [e]
      rfl
    rw [z] at q
    exact q
  exact ⟨i, (get_do rr.1 rr.2 e).int, q' (some i) H1 ⟨rr.1, rfl⟩ noOw_refl⟩
theorem se_sl {lo hi : Option Expr} {ml mh : Option (M O)} {p2 : Pos} (hr : L2.SlR X (rSl C.K)) (ha : PE X a (tO C ma)) (hl : PO X lo (tP C (mPart ml))) (hh : PO X hi (tP C (mPart mh))) : PE X (.Subscript a (.Slice lo hi none p2) pos) (tE C (mSl ma ml mh)) :=
  (pe_slice hr ha hl hh).mono fun σ H Q ⟨U, ρ, R, p⟩ => by
  refine ⟨U, ρ, R, p.seq fun o ρ1 v H1 rr x q => ?_⟩
  refine ⟨U, ρ1, rr.1, q.seq fun l ρ2 l' H2 rs y z => ?_⟩
  obtain ⟨R2, rfl⟩ := rs
  refine ⟨U, ρ2, R2, z.seq fun h ρ3 h' H3 rt y2 z2 => ?_⟩
  obtain ⟨R3, rfl⟩ := rt
  unfold finSl at z2
  cases e : o.get ρ3 with
  | none => simp only [e] at z2; exact z2.elim
  | some d =>
    simp only [e] at z2
    cases e2 : slT d l' h' with
    | none => simp only [e2] at z2; exact z2.elim
    | some t =>
      simp only [e2] at z2
      exact ⟨Both U (Own σ ρ3), d, t, get_do R3 ((rr.2.ext y.drop).ext y2.drop) e, tracked_both R3, e2, fun w H' s rn => z2 w H' (RelR.new R3 s rn).1 (RelR.new R3 s rn).2⟩
end
end VS
set_option Elab.async false
set_option linter.all false
set_option maxRecDepth 100000
set_option maxHeartbeats 1000000
/-! The VS layer, part E2: turned round. -/
namespace VS
open PySem PySem.Spec PyProof.Rows L2
section
variable {prog : Program} {w : World} {A : Around} {E : Value → Shared → Prop} {s : Shared}
theorem turned_pick (xs : Array Value) : ((List.range xs.size).filterMap fun (k : Nat) => xs[(((xs.size : Int) - 1) + (k : Int) * (-1)).toNat]?).toArray = xs.toList.reverse.toArray := by
  congr 1
  apply List.ext_getElem?
  intro j
  have e : (fun (k : Nat) => xs[(((xs.size : Int) - 1) + (k : Int) * (-1)).toNat]?) = fun (k : Nat) => xs.toList[((xs.size : Int) - 1 - (k : Int)).toNat]? := by
    funext k
    rw [Array.getElem?_toList]
    congr 1
    omega
  rw [e]
  have all : ∀ k ∈ List.range xs.size, ∃ y, xs.toList[((xs.size : Int) - 1 - (k : Int)).toNat]? = some y := fun k hk => by
    rw [List.mem_range] at hk
    exact ⟨_, List.getElem?_eq_getElem (by rw [Array.length_toList]; omega)⟩
  have e2 : ∀ l : List Nat, (∀ k ∈ l, ∃ y, xs.toList[((xs.size : Int) - 1 - (k : Int)).toNat]? = some y) → ∀ j : Nat, (l.filterMap fun (k : Nat) => xs.toList[((xs.size : Int) - 1 - (k : Int)).toNat]?)[j]? = l[j]?.bind fun (k : Nat) => xs.toList[((xs.size : Int) - 1 - (k : Int)).toNat]? := by
    intro l
    induction l with
    | nil => intro _ j; simp
    | cons k l ih =>
      intro h j
      obtain ⟨y, hy⟩ := h k (.head _)
      rw [List.filterMap_cons_some (f := fun (k : Nat) => xs.toList[((xs.size : Int) - 1 - (k : Int)).toNat]?) hy]
      cases j with
      | zero => exact hy.symm
      | succ j => simpa using ih (fun k' hk' => h k' (.tail _ hk')) j
  rw [e2 _ all j]
  by_cases c : j < xs.size
  · rw [List.getElem?_range c]
    show xs.toList[((xs.size : Int) - 1 - (j : Int)).toNat]? = _
    rw [List.getElem?_reverse (by rw [Array.length_toList]; exact c)]
    congr 1
    rw [Array.length_toList]
    omega
  · rw [List.getElem?_eq_none (by simpa using c), List.getElem?_eq_none (by simpa using c)]
    rfl
theorem getItem_tuple_back {t sl : Addr} {items : Array Value} {u : Tok} {Q : Value → Shared → Prop} (ht : IsTup s.heap t items) (hs : s.heap.IsSliceOf sl .none .none (.int (-1) u))
    (h : Q (.ref s.heap.objs.size) { s with heap := s.heap.push { cls := .type "tuple", data := .seq items.toList.reverse.toArray } }) (hsz : items.size ≤ sizeLine) : wpAny (model prog w) A (getItem (.ref t) (.ref sl)) Q E s := by
  have hfit : sizeOk (.seq items.toList.reverse.toArray) := by
    show items.toList.reverse.toArray.size ≤ sizeLine
    simpa using hsz
  obtain ⟨os, hos, hcs, hds⟩ := id hs
  have hTs : s.TypeIs (.ref sl) "slice" := ⟨os, hos, hcs⟩
  unfold getItem
  try with_reducible refine wpAny_holding ?_
  first | refine wpAny_bind (wpAny_pure ?_) | skip
  refine wpAny_bind (wpAny_sequenceKey ht.typeIs (by decide) (wpAny_bind (wpAny_callSpecial?_slot (name := Str.ofString "__getitem__") ht.typeIs PyProof.Rows.slot_tuple_getitem
    (wpAny_call_entry PyProof.Rows.slot_tuple_getitem ht.typeIs entry_tuple_getitem ?_ (args_tuple_getitem _ _)))))
  show wpAny _ _ (Builtin.Tuple.tupleItemsOf (.ref t) >>= _) _ _ s
  refine wpAny_bind (tupleItemsOf_ ht (wpAny_bind (wpAny_typeOf hTs ?_)))
  rw [if_pos (by decide)]
  refine wpAny_bind ?_
  unfold Builtin.Slice.sliceApplied Builtin.Slice.sliceFields
  refine wpAny_bind (wpAny_bind (wpAny_field hos hds (x := .none) rfl (wpAny_bind (wpAny_field hos hds (x := .none) rfl (wpAny_bind (wpAny_field hos hds (x := .int (-1) u) rfl (wpAny_pure ?_)))))))
  refine wpAny_bind (slicePart_int ?_)
  show wpAny _ _ (if ((-1 : Int) == 0) = true then _ else _) _ _ s
  rw [if_neg (by decide)]
  refine wpAny_bind (slicePart_none (wpAny_bind (slicePart_none (wpAny_bind (wpAny_pure ?_)))))
  have e1 : Builtin.Slice.sliceAdjust none none (-1) (items.size : Int) = ((items.size : Int) - 1, -1) := rfl
  show wpAny _ _ (match Builtin.Slice.sliceAdjust none none (-1) (items.size : Int) with | (lo, hi) => pure (lo, (-1 : Int), Builtin.Slice.slicePlaces lo hi (-1))) _ _ s
  rw [e1]
  have e2 : Builtin.Slice.slicePlaces ((items.size : Int) - 1) (-1) (-1) = items.size := by
    unfold Builtin.Slice.slicePlaces
    rw [if_neg (by decide)]
    split
    · have : ((items.size : Int) - 1 - -1 - 1) / (- -1) = (items.size : Int) - 1 := by
        rw [show (- -1 : Int) = 1 from rfl, Int.ediv_one]; omega
      rw [this]; omega
    · omega
  show wpAny _ _ (pure ((items.size : Int) - 1, (-1 : Int), Builtin.Slice.slicePlaces ((items.size : Int) - 1) (-1) (-1))) _ _ s
  rw [e2]
  refine wpAny_pure ?_
  have hno : ¬ ((((items.size : Int) - 1) == 0 && (-1 : Int) == 1 && items.size == items.size) = true) := by
    simp
  show wpAny _ _ (if (((items.size : Int) - 1) == 0 && (-1 : Int) == 1 && items.size == items.size) = true then _ else _) _ _ s
  rw [if_neg hno, turned_pick]
  first
    | exact wpAny_bind (m := Builtin.Tuple.tupleExact _) (wpAny_newObj_type (wpAny_pure ⟨_, rfl, wpAny_pure h⟩) hfit)
    | exact wpAny_bind (m := Builtin.Tuple.tupleExact _) (wpAny_newObj_type (wpAny_bind (wpAny_pure (wpAny_pure ⟨_, rfl, wpAny_pure h⟩))) hfit)
    | exact wpAny_bind (wpAny_bind (m := Builtin.Tuple.tupleExact _) (wpAny_newObj_type (wpAny_pure (wpAny_pure ⟨_, rfl, wpAny_pure h⟩)) hfit))
    | exact wpAny_bind (wpAny_bind (m := Builtin.Tuple.tupleExact _) (wpAny_newObj_type (wpAny_pure ⟨_, rfl, wpAny_pure h⟩) hfit))
end
section
variable {X : Cx} {C : Wd} {a : Expr} {ma : M O} {pos p1 p2 p3 : Pos} {j : Nat}
/-- x[::-1] -/
theorem pe_turn {te : TE} (he : PE X a te) : PE X (.Subscript a (.Slice none none (some (.UnaryOp .USub (.Constant (.int 1) j p1) p2)) p3) pos) (fun σ H Q => te σ H fun x H1 => ∃ B ds t, DO X.K B H1 x ds ∧ (∀ a, B a → ∃ o, H1 a = some o) ∧ opT .rev [ds] = some t ∧ ∀ v H', Same H1 H' → RN X.K B H1 H' v t → Q v H') := by
  refine ⟨fun pins s σ H Q I h => ?_⟩
  refine Subscript_ (thn (he.run pins s σ H _ I h) fun v s1 ⟨x, H1, I1, r1, B, d, t, hd, tr, e, q⟩ => ?_)
  have hst : PO X (some (.UnaryOp .USub (.Constant (.int 1) j p1) p2)) (tPart (tUn (rU fun i => .int (-i)) (tC (.int 1)))) := po_some (pe_un un_neg pe_int)
  refine wpAny_Slice (thn (po_none.run pins s1 σ H1 (fun o H2 => o = none ∧ H2 = H1) I1 ⟨rfl, rfl⟩) fun vl s2 ⟨l, H2, I2, pl, el, e2⟩ => ?_)
  subst el e2
  refine thn (po_none.run pins s2 σ H2 (fun o H3 => o = none ∧ H3 = H2) I2 ⟨rfl, rfl⟩) fun vu s3 ⟨u, H3, I3, pu, eu, e3⟩ => ?_
  subst eu e3
  refine thn (hst.run pins s3 σ H3 (fun o H4 => o = some (-1) ∧ H4 = H3) I3 ⟨1, rfl, -1, rfl, rfl, rfl⟩) fun vs s4 ⟨o, H4, I4, ps, eo, e4⟩ => ?_
  subst eo e4
  have I5 : Inv X pins σ H4 { s4 with heap := s4.heap.push { cls := .type "slice", data := .fields #[vl, vu, vs] } } := I4.kept (t' := s4.toks) fun b ob q => Heap.get?_push_of_some _ q
  cases d <;> simp only [opT] at e <;> cases e
  · rename_i xs
    obtain ⟨p, ws, ex, ea, dn⟩ := hd.list
    subst ex
    cases r1
    obtain ⟨its, r, ht, hz⟩ := I5.list (.of ea)
    have hlen := r.length
    refine tail_any (ops := [.ref p, .ref s4.heap.objs.size]) ht.isList.typeIs (PySem.slot_list_getitem.lookup) ?_ (by with_unfolding_all rfl)
    refine wpAny_getItem_list_slice ht.isList (Heap.IsSliceOf.new _ vl vu vs) pl pu ps (by decide) ?_ (by rw [List.size_toArray]; omega)
    rw [PySem.W.krv_pick]
    have hn := I5.hok.fresh (Nat.le_refl _)
    refine ⟨.ref _, _, I5.laid (t' := s4.toks) (o := .lst ws.reverse) (fun b ob q => Heap.get?_push_of_some _ q) (Nat.le_refl _) ?_, rfl, q _ _ (same_new hn) (.newL hn dn.rev)⟩
    exact ⟨by rw [List.length_reverse]; exact hz, _, 0, r.reverse, Heap.get?_push_size _ rfl⟩
  · rename_i xs
    obtain ⟨p, ws, ex, ea, dn⟩ := hd.tup
    subst ex
    cases r1
    obtain ⟨its, r, ht, hz⟩ := I5.tuple ea
    have hlen := r.length
    cases pl
    cases pu
    cases ps
    refine tail_any (ops := [.ref p, .ref s4.heap.objs.size]) ht.typeIs (PyProof.Rows.slot_tuple_getitem.lookup) ?_ (by with_unfolding_all rfl)
    have hn := I5.hok.fresh (Nat.le_refl _)
    refine getItem_tuple_back ht (Heap.IsSliceOf.new _ _ _ _) ?_ (by rw [List.size_toArray]; omega)
    refine ⟨.ref _, _, I5.laid (t' := s4.toks) (o := .tup ws.reverse) (fun b ob q => Heap.get?_push_of_some _ q) (Nat.le_refl _) ?_, rfl, q _ _ (same_new hn) (.newT tr hn dn.rev)⟩
    exact ⟨by rw [List.length_reverse]; exact hz, _, r.reverse, IsTup.new _ _⟩
theorem se_turn (hK : C.K = X.K) (ha : PE X a (tO C ma)) : PE X (.Subscript a (.Slice none none (some (.UnaryOp .USub (.Constant (.int 1) j p1) p2)) p3) pos) (tE C (mApp .rev [ma])) := (pe_turn ha).mono fun σ H Q h => by
  have z := one_of h
  rw [hK] at z
  obtain ⟨U, ρ, R, p⟩ := z
  refine ⟨U, ρ, R, p.imp fun o ρ' v H' rr x k => ?_⟩
  exact (k v H' rr x).open
end
end VS
set_option Elab.async false
set_option linter.all false
set_option maxRecDepth 100000
set_option maxHeartbeats 2000000
/-! The VS layer, part E3: sum(lists, []). -/
namespace VS
open PySem PySem.Spec PyProof.Rows L2
def rest {α : Type} (its : Nat → List α) (i n : Nat) : List α := ((List.range' i (n - i)).map its).flatten
theorem rest_end {α : Type} {its : Nat → List α} {n : Nat} : rest its n n = [] := by unfold rest; rw [Nat.sub_self]; rfl
theorem rest_next {α : Type} {its : Nat → List α} {i n : Nat} (h : i < n) : rest its i n = its i ++ rest its (i + 1) n := by
  unfold rest
  have : n - i = (n - (i + 1)) + 1 := by omega
  rw [this, List.range'_succ, List.map_cons, List.flatten_cons]
section
variable {prog : Program} {w : World} {A : Around} {R : Result → Shared → Prop} {I : Addr} {fp wr : List Addr} {n : Nat} {P : Nat → Value → Prop} {St : Nat → Heap → Prop}
theorem cat_loop (W : Walks prog w A.in1 I fp wr n P St) (hex : ∀ i h, St i h → ∀ b ∈ wr, ∃ o, h.get? b = some o) (val : Nat → Addr) (its : Nat → List Value) (hval : ∀ i v, P i v → v = .ref (val i)) (S : Addr) (hSf : S ∉ fp) :
    ∀ (k i : Nat) (s : Shared) (T : Addr) (c nT : Nat) (acc : List Value), n - i = k → i ≤ n → St i s.heap → s.heap.get? S = some (seqObj "list" #[.ref T] c) → T ≠ S → T ∉ wr → s.heap.get? T = some (seqObj "list" acc.toArray nT) →
      (∀ j, j < n → val j ∉ wr ∧ val j ≠ S ∧ ∃ m, s.heap.get? (val j) = some (seqObj "list" (its j).toArray m)) → acc.length + (rest its i n).length ≤ sizeLine →
      (∀ h' tk T' n', (∀ b o, b ∉ wr → b ≠ S → s.heap.get? b = some o → h'.get? b = some o) → (i = n → T' = T) → (i < n → s.heap.get? T' = none) → h'.get? T' = some (seqObj "list" (acc ++ rest its i n).toArray n') →
        R (.ok (.ret (.ref T'))) { s with heap := h', toks := tk }) →
      codeAny (model prog w) A (.builtin "sum.loop" ⟨[.ref I, .ref S, rawInt 2, rawInt 0], []⟩) R s := by
  have hSw : S ∉ wr := fun h => hSf (W.sub _ h)
  intro k
  induction k with
  | zero =>
    intro i s T c nT acc hk hi hst hS hTS hTw hT hv hz hR
    have hin : i = n := by omega
    subst hin
    refine codeAny_builtin F.entry_sum_loop ?_
    rw [Around.under_plainId F.plain_sum_loop _]
    show wpAny _ A.in1 (seqItems? (.ref S) >>= _) _ _ s
    refine wpAny_bind (wpAny_seqItems hS rfl ?_)
    show wpAny _ A.in1 (tryCatch (pyNext (.ref I)) _ >>= _) _ _ s
    refine wpAny_bind (wpAny_tryCatch (W.done s _ _ hst fun h' tk hk' => ?_))
    refine wpAny_pure (hR h' tk T nT (fun b o hb _ e => hk' b o hb e) (fun _ => rfl) (fun z => absurd z (Nat.lt_irrefl _)) ?_)
    rw [rest_end, List.append_nil]
    exact hk' T _ hTw hT
  | succ k ih =>
    intro i s T c nT acc hk hi hst hS hTS hTw hT hv hz hR
    have hlt : i < n := by omega
    refine codeAny_builtin F.entry_sum_loop ?_
    rw [Around.under_plainId F.plain_sum_loop _]
    show wpAny _ A.in1 (seqItems? (.ref S) >>= _) _ _ s
    refine wpAny_bind (wpAny_seqItems hS rfl ?_)
    show wpAny _ A.in1 (tryCatch (pyNext (.ref I)) _ >>= _) _ _ s
    refine wpAny_bind (wpAny_tryCatch (W.item i s _ _ hlt hst fun v h' tk hP hst' hk' => ?_))
    obtain rfl := hval i v hP
    obtain ⟨v1, v2, m, v3⟩ := hv i hlt
    have hS' := hk' S _ hSw hS
    have hT' := hk' T _ hTw hT
    have v3' := hk' (val i) _ v1 v3
    rw [rest_next hlt, List.length_append] at hz
    show wpAny _ A.in1 ((holding [Value.ref (val i)] (binaryOp .Add (.ref T) (.ref (val i)))).attempt >>= _) _ _ _
    refine wpAny_bind (wpAny_attempt (wpAny_holding (PySem.P.add_list (s := { s with heap := h', toks := tk }) hT' v3' ?_ (by rw [List.size_toArray, List.size_toArray]; omega))))
    -- the new total
    generalize hT1 : h'.objs.size = T1
    generalize hh1 : h'.push { cls := .type "list", data := .seq (acc.toArray ++ (its i).toArray) } = h1
    have k1 : ∀ b o, h'.get? b = some o → h1.get? b = some o := fun b o e => by rw [← hh1]; exact Heap.get?_push_of_some _ e
    have g1 : h1.get? T1 = some (seqObj "list" (acc ++ its i).toArray 0) := by
      rw [← hh1, ← hT1]
      have := Heap.get?_push_size h' (o := { cls := .type "list", data := .seq (acc.toArray ++ (its i).toArray) }) rfl
      rw [this]
      simp
    have f1 : ∀ b o, h'.get? b = some o → b ≠ T1 := fun b o e z => by
      have := Heap.lt_size e
      rw [z, ← hT1] at this
      exact Nat.lt_irrefl _ this
    have n1 : s.heap.get? T1 = none := by
      cases e : s.heap.get? T1 with
      | none => rfl
      | some o =>
        by_cases hw : T1 ∈ wr
        · obtain ⟨o', eo⟩ := hex _ _ hst' T1 hw
          exact absurd rfl (f1 T1 o' eo)
        · exact absurd rfl (f1 T1 o (hk' T1 o hw e))
    have hS1 := k1 S _ hS'
    refine wpAny_bind (wpAny_updateSeq (s := { s with heap := h1, toks := tk }) hS1 rfl ?_)
    have hS2 : (h1.update S (Obj.mapSeq fun _ => #[Value.ref T1])).get? S = some _ := Heap.get?_update_self (Obj.mapSeq fun _ => #[Value.ref T1]) hS1 rfl
    refine wpAny_bind (wpAny_letGo ?_)
    refine wpAny_bind (wpAny_updateSeq (s := { s with heap := h1.update S (Obj.mapSeq fun _ => #[Value.ref T1]), toks := tk }) hS2 rfl ?_)
    have hS3 := Heap.get?_update_self (Obj.mapSeq fun _ => #[Value.ref T1]) hS2 rfl
    generalize hh3 : (h1.update S (Obj.mapSeq fun _ => #[Value.ref T1])).update S (Obj.mapSeq fun _ => #[Value.ref T1]) = h3 at hS3
    have k3 : ∀ b o, b ≠ S → h1.get? b = some o → h3.get? b = some o := fun b o hb e => by
      rw [← hh3]
      exact (Heap.get?_update_other _ _ hb.symm).trans ((Heap.get?_update_other _ _ hb.symm).trans e)
    have T1S : T1 ≠ S := fun z => f1 S _ hS' z.symm
    have T1w : T1 ∉ wr := fun z => by
      obtain ⟨o', eo⟩ := hex _ _ hst' T1 z
      exact f1 T1 o' eo rfl
    refine wpAny_pure ⟨plainId_quiet F.plain_sum_loop _, ih (i + 1) { s with heap := h3, toks := tk } T1 _ 0 (acc ++ its i) (by omega) hlt ?_ hS3 T1S T1w (k3 _ _ T1S g1) (fun j hj => ?_) (by rw [List.length_append]; omega) fun h'' tk'' T' n' hk'' e1 e2 e3 => ?_⟩
    · exact W.frame _ h' _ hst' fun b hb o e => k3 b o (fun z => hSf (by rw [← z]; exact hb)) (k1 b o e)
    · obtain ⟨a1, a2, m, a3⟩ := hv j hj
      exact ⟨a1, a2, m, k3 _ _ a2 (k1 _ _ (hk' _ _ a1 a3))⟩
    · refine hR h'' tk'' T' n' (fun b o hb hbS e => hk'' b o hb hbS (k3 b o hbS (k1 b o (hk' b o hb e)))) (fun z => absurd z (by omega)) (fun _ => ?_) (by rw [rest_next hlt, ← List.append_assoc]; exact e3)
      by_cases hin : i + 1 = n
      · rw [e1 hin]; exact n1
      · have q := e2 (by omega)
        cases e : s.heap.get? T' with
        | none => rfl
        | some o =>
          exfalso
          by_cases hbS : T' = S
          · rw [hbS] at q
            have q : h3.get? S = none := q
            rw [hS3] at q
            cases q
          · by_cases hw : T' ∈ wr
            · obtain ⟨o', eo⟩ := hex _ _ hst' T' hw
              have q : h3.get? T' = none := q
              rw [k3 _ _ hbS (k1 _ _ eo)] at q
              cases q
            · have q : h3.get? T' = none := q
              rw [k3 _ _ hbS (k1 _ _ (hk' _ _ hw e))] at q
              cases q
end
theorem args_sum2 (a b : Value) : argsOk "sum" ⟨[a, b], []⟩ := by unfold argsOk; kernel_rfl
theorem list_str : isSubtype (.type "list") (.type "str") = pure false := by rw [isSubtype_type]; kernel_rfl
theorem list_bytes : isSubtype (.type "list") (.type "bytes") = pure false := by rw [isSubtype_type]; kernel_rfl
theorem list_bytearray : isSubtype (.type "list") (.type "bytearray") = pure false := by rw [isSubtype_type]; kernel_rfl
section
variable {prog : Program} {w : World} {A : Around} {E : Value → Shared → Prop} {s : Shared}
theorem call_sum2 {l b : Addr} {items : Array Value} {nb : Nat} {Q : Value → Shared → Prop} (hh : A.handled = none) (val : Nat → Addr) (its : Nat → List Value) (hl : s.heap.IsList l items) (hb : s.heap.get? b = some (seqObj "list" #[] nb))
    (hval : ∀ (i : Nat) (v : Value), items[i]? = some v → v = .ref (val i)) (hv : ∀ j, j < items.size → ∃ m, s.heap.get? (val j) = some (seqObj "list" (its j).toArray m)) (hz : (rest its 0 items.size).length ≤ sizeLine)
    (h : ∀ h' tk T n, (∀ c o, s.heap.get? c = some o → h'.get? c = some o) → (items.size = 0 → T = b) → (0 < items.size → s.heap.get? T = none) → h'.get? T = some (seqObj "list" (rest its 0 items.size).toArray n) → Q (.ref T) { s with heap := h', toks := tk }) :
    wpAny (model prog w) A (call (.builtin "sum") [.ref l, .ref b]) Q E s := by
  refine call_function_tree F.kind_sum F.plain_sum F.entry_sum (args_sum2 _ _) ?_
  unfold Builtin.«sum»
  simp only [List.length_cons, List.length_nil]
  rw [if_neg (by decide)]
  refine wpAny_bind (wpAny_of_eq (show Builtin.Builtins.bindParams "sum" ["start"] 0 ⟨[.ref b], []⟩ = pure [some (Value.ref b)] from rfl) ?_)
  refine wpAny_bind (wpAny_pyIter_list hl ?_)
  have kp : ∀ c o, s.heap.get? c = some o → (s.heap.push { cls := .type "list_iterator", data := .fields #[.ref l, .int 0 0] }).get? c = some o := fun c o e => Heap.get?_push_of_some _ e
  have hT : ∀ h' tk, (∀ c o, s.heap.get? c = some o → h'.get? c = some o) → Shared.TypeIs { s with heap := h', toks := tk } (.ref b) "list" := fun h' tk k => ⟨_, k _ _ hb, rfl⟩
  refine wpAny_bind (wpAny_pure ?_)
  simp only [List.forIn_cons, List.forIn_nil]
  refine wpAny_bind (wpAny_bind (wpAny_bind (wpAny_isInstance (T := "list") (b := false) (hT _ _ kp) list_str ?_)))
  simp only [Bool.false_eq_true, if_false]
  refine wpAny_pure (wpAny_bind (wpAny_bind (wpAny_isInstance (T := "list") (b := false) (hT _ _ kp) list_bytes ?_)))
  simp only [Bool.false_eq_true, if_false]
  refine wpAny_pure (wpAny_bind (wpAny_bind (wpAny_isInstance (T := "list") (b := false) (hT _ _ kp) list_bytearray ?_)))
  simp only [Bool.false_eq_true, if_false]
  refine wpAny_pure (wpAny_pure ?_)
  refine wpAny_bind (wpAny_newObj_type ?_)
  generalize hI : s.heap.objs.size = I
  generalize hh1 : s.heap.push { cls := .type "list_iterator", data := .fields #[.ref l, .int 0 0] } = h1 at kp
  have gI : h1.get? I = some { cls := .type "list_iterator", data := .fields #[.ref l, .int 0 0] } := by rw [← hh1, ← hI]; exact Heap.get?_push_size _ rfl
  generalize hS : h1.objs.size = S
  generalize hh2 : h1.push { cls := .type "list", data := .seq [Value.ref b].toArray } = h2
  have k2 : ∀ c o, h1.get? c = some o → h2.get? c = some o := fun c o e => by rw [← hh2]; exact Heap.get?_push_of_some _ e
  have gS : h2.get? S = some (seqObj "list" #[Value.ref b] 0) := by rw [← hh2, ← hS]; exact Heap.get?_push_size _ rfl
  have lt1 : ∀ c o, h1.get? c = some o → c ≠ S := fun c o e z => by
    have := Heap.lt_size e
    rw [z, ← hS] at this
    exact Nat.lt_irrefl _ this
  have lt0 : ∀ c o, s.heap.get? c = some o → c ≠ I := fun c o e z => by
    have := Heap.lt_size e
    rw [z, ← hI] at this
    exact Nat.lt_irrefl _ this
  obtain ⟨ol, hol, hcl⟩ := id hl
  have hlI : l ≠ I := lt0 _ _ hol
  have hfp : S ∉ [I, l] := by
    simp only [List.mem_cons, List.not_mem_nil, or_false, not_or]
    exact ⟨(lt1 _ _ gI).symm, (lt1 _ _ (kp _ _ hol)).symm⟩
  have hli : h2.IsList l items := ⟨ol, k2 _ _ (kp _ _ hol), hcl⟩
  refine wpAny_pure ⟨plainId_quiet F.plain_sum_loop _, cat_loop (Walks.list (by simp [hh]) I l hlI items) (fun i h st b hb => ?_) val its hval S hfp items.size 0 { s with heap := h2 } b 0 nb [] (by omega) (Nat.zero_le _) ⟨⟨_, k2 _ _ gI, rfl, rfl⟩, hli⟩ gS (lt1 _ _ (kp _ _ hb)) (by simpa using lt0 _ _ hb) (k2 _ _ (kp _ _ hb)) (fun j hj => ?_) (by simpa using hz) fun h' tk T n hk e1 e2 e3 => ?_⟩
  · obtain ⟨⟨o, ho, _⟩, _⟩ := st
    rw [List.mem_singleton] at hb
    subst hb
    exact ⟨o, ho⟩
  · obtain ⟨m, e⟩ := hv j hj
    exact ⟨by simpa using lt0 _ _ e, lt1 _ _ (kp _ _ e), m, k2 _ _ (kp _ _ e)⟩
  · refine h h' tk T n (fun c o e => hk c o (by simpa using lt0 _ _ e) (lt1 _ _ (kp _ _ e)) (k2 _ _ (kp _ _ e))) (fun z => e1 z.symm) (fun z => ?_) (by simpa using e3)
    have q : h2.get? T = none := e2 z
    cases e : s.heap.get? T with
    | none => rfl
    | some o =>
      rw [k2 _ _ (kp _ _ e)] at q
      cases q
end
/-- lists, each at its place -/
inductive LsAt (H : Hp) : List V → List (List V) → Prop where
  | nil : LsAt H [] []
  | cons {a : Addr} {xs : List V} {vs : List V} {ls : List (List V)} : H a = some (.lst xs) → LsAt H vs ls → LsAt H (.ref a :: vs) (xs :: ls)
theorem LsAt.keep {H H' : Hp} (k : ∀ c o, H c = some o → H' c = some o) {vs : List V} {ls : List (List V)} (h : LsAt H vs ls) : LsAt H' vs ls := by
  induction h with
  | nil => exact .nil
  | cons e _ ih => exact .cons (k _ _ e) ih
theorem LsAt.len {H : Hp} {vs : List V} {ls : List (List V)} (h : LsAt H vs ls) : vs.length = ls.length := by
  induction h with
  | nil => rfl
  | cons _ _ ih => exact congrArg (· + 1) ih
theorem LsAt.get {H : Hp} {vs : List V} {ls : List (List V)} (h : LsAt H vs ls) : ∀ {j : Nat}, j < vs.length → ∃ a xs, vs[j]? = some (.ref a) ∧ ls[j]? = some xs ∧ H a = some (.lst xs) := by
  induction h with
  | nil => intro j hj; cases hj
  | cons e _ ih =>
    intro j hj
    cases j with
    | zero => exact ⟨_, _, rfl, rfl, e⟩
    | succ j => exact ih (Nat.lt_of_succ_lt_succ hj)
section
variable {X : Cx} {C : Wd} {a : Expr} {ma : M O} {q pos p2 : Pos}
theorem vals_rest {ls : List (List V)} {its : Nat → List Value} : ∀ {k : Nat}, (∀ j xs, ls[j]? = some xs → Vals xs (its (k + j))) → Vals ls.flatten (rest its k (k + ls.length)) := by
  induction ls with
  | nil => intro k h; rw [List.length_nil, Nat.add_zero, rest_end]; exact .nil
  | cons xs ls ih =>
    intro k h
    rw [rest_next (by rw [List.length_cons]; omega), List.flatten_cons]
    refine (h 0 xs rfl).append ?_
    have := ih (k := k + 1) fun j ys e => by
      have := h (j + 1) ys e
      rw [show k + 1 + j = k + (j + 1) by omega]
      exact this
    rw [show k + (xs :: ls).length = k + 1 + ls.length by rw [List.length_cons]; omega]
    exact this
def rSum2 : List V → Hp → VK → Prop := fun xs H Q => ∃ (a b : Addr) (vs : List V) (ls : List (List V)), xs = [.ref a, .ref b] ∧ H a = some (.lst vs) ∧ H b = some (.lst []) ∧ LsAt H vs ls ∧ ls.flatten.length ≤ sizeLine ∧
  (vs = [] → Q (.ref b) H) ∧ (vs ≠ [] → ∀ p, H p = none → Q (.ref p) (upd H p (.lst ls.flatten)))
theorem c_sum2 (hc : X.calm = true) : CallR X (.builtin "sum") rSum2 := fun pins s σ H xs us Q I r ⟨a, b, vs, ls, ex, ea, eb, hl, hz, q0, q1⟩ => by
  subst ex
  obtain ⟨u1, u2, rfl, r1, r2⟩ : ∃ u1 u2, us = [u1, u2] ∧ RelV (.ref a) u1 ∧ RelV (.ref b) u2 := by
    cases r with
    | cons x y =>
      cases y with
      | cons x2 y2 => cases y2; exact ⟨_, _, rfl, x, x2⟩
  cases r1
  cases r2
  obtain ⟨z1, its, n, rv, hlen, e1⟩ := I.lstM ea
  obtain ⟨z2, its2, nb, rv2, hlen2, e2⟩ := I.lstM eb
  have : its2 = [] := List.length_eq_zero_iff.mp (by rw [← hlen2]; rfl)
  subst this
  let val : Nat → Addr := fun j => match its[j]? with
    | some (.ref c) => c
    | _ => 0
  let cont : Nat → List Value := fun j => match s.heap.get? (val j) with
    | some ⟨_, _, .seq xs _, _⟩ => xs.toList
    | _ => []
  have at_ : ∀ j, j < its.length → its[j]? = some (.ref (val j)) ∧ ∃ xs m, ls[j]? = some xs ∧ Vals xs (cont j) ∧ s.heap.get? (val j) = some (seqObj "list" (cont j).toArray m) := fun j hj => by
    obtain ⟨c, xs, g1, g2, g3⟩ := hl.get (j := j) (by rw [hlen]; exact hj)
    obtain ⟨u, g4, g5⟩ := rv.get g1
    cases g5
    have ev : val j = c := by show (match its[j]? with | some (.ref c) => c | _ => 0) = c; rw [g4]
    obtain ⟨zj, itsj, m, rj, lj, ej⟩ := I.lstM g3
    have ec : cont j = itsj := by
      show (match s.heap.get? (val j) with | some ⟨_, _, .seq xs _, _⟩ => xs.toList | _ => []) = itsj
      rw [ev, ej]
    exact ⟨by rw [ev]; exact g4, xs, m, g2, by rw [ec]; exact rj, by rw [ev, ec]; exact ej⟩
  have hn : its.toArray.size = ls.length := by rw [List.size_toArray, ← hlen]; exact hl.len
  have vr : Vals ls.flatten (rest cont 0 its.toArray.size) := by
    have := vals_rest (its := cont) (ls := ls) (k := 0) fun j xs e => by
      obtain ⟨_, ys, m, h1, h2, h3⟩ := at_ j (by rw [← hlen, hl.len]; exact (List.getElem?_eq_some_iff.mp e).1)
      rw [e] at h1
      cases h1
      rw [Nat.zero_add]
      exact h2
    rw [Nat.zero_add] at this
    rw [hn]
    exact this
  refine call_sum2 (I.ok.hd hc) val cont (items := its.toArray) ⟨_, e1, rfl, n, rfl⟩ e2 (fun i v e => ?_) (fun j hj => ?_) (by rw [← vr.length]; exact hz) fun h' tk T m hk t0 t1 t2 => ?_
  · have e : its[i]? = some v := by simpa using e
    have := (at_ i (List.getElem?_eq_some_iff.mp e).1).1
    rw [e] at this
    exact Option.some.inj this
  · obtain ⟨_, xs, m, _, _, e⟩ := at_ j (by simpa using hj)
    exact ⟨m, e⟩
  · by_cases hv : vs = []
    · subst hv
      have : T = b := t0 (by rw [List.size_toArray, ← hlen]; rfl)
      subst this
      exact ⟨.ref T, H, I.kept hk, rfl, q0 rfl⟩
    · have hT := t1 (by rw [List.size_toArray, ← hlen]; exact List.length_pos_iff.mpr hv)
      have hH : H T = none := I.hok.gone hT
      exact ⟨.ref T, upd H T (.lst ls.flatten), I.laidN hk hT hH ⟨hz, rest cont 0 its.toArray.size, m, vr, t2⟩, rfl, q1 hv T hH⟩
theorem lists_dn {K : PySem.W.Frag} {B : Av} {H : Hp} : ∀ {vs : List V} {xs : List D} {dss : List (List D)}, DnAll K B H vs xs → mapO list? xs = some dss → ∃ ls, LsAt H vs ls ∧ DnAll K B H ls.flatten dss.flatten
  | _, _, _, .nil, e => by cases e; exact ⟨[], .nil, .nil⟩
  | _, _, dss, .cons (d := d) (ds := ds) h t, e => by
    cases d <;> simp only [mapO, list?] at e <;> try (cases e)
    cases e2 : mapO list? ds with
    | none => rw [e2] at e; cases e
    | some es =>
      rw [e2] at e
      cases e
      obtain ⟨ls, h1, h2⟩ := lists_dn t e2
      obtain ⟨a, ws, rfl, ea, dn⟩ := DO.list (.inl h)
      exact ⟨ws :: ls, .cons ea h1, dn.app h2⟩
/-- sum(x, []) -/
theorem se_sumL (hK : C.K = X.K) (hc : X.calm = true) (hg : Gl X "sum") (hm : X.mg "sum" = none) (ha : PE X a (tO C ma)) (hs : starEach [a, .List [] p2] X.env = [(false, eval a X.env), (false, eval (.List [] p2) X.env)]) :
    PE X (.Call (.Name "sum" q) [a, .List [] p2] [] pos) (tE C (mApp .sumL [ma])) := by
  have h2 : starEach [Expr.List [] p2] X.env = [(false, eval (.List [] p2) X.env)] := rfl
  refine (pe_callB (c_sum2 hc) hg hm (by decide +kernel) (pa_cons ha (pa_cons (pe_lst pa_nil) pa_nil rfl) (by rw [h2]; exact hs)) (by decide) (by decide) (by rw [h2]; exact hs) (by rw [h2]; rfl)).mono fun σ H Q h => ?_
  obtain ⟨U, ρ, R, p⟩ := one_of h
  refine ⟨U, ρ, R, p.imp fun o ρ' v H' rr x k => ?_⟩
  obtain ⟨B, d, t, hd, tr, e, qq⟩ := (k v H' rr x).open
  refine ⟨Nat.zero_le _, fun b hb => ?_⟩
  cases d <;> simp only [opT] at e <;> try (cases e)
  rename_i xs
  cases em : mapO list? xs with
  | none => rw [em] at e; cases e
  | some dss =>
    rw [em] at e
    simp only at e
    split at e
    · rename_i lz
      cases e
      obtain ⟨a1, vs, rfl, ea, dn⟩ := hd.list
      obtain ⟨ls, h1, h3⟩ := lists_dn dn em
      have kp : ∀ c o, H' c = some o → upd H' b (.lst []) c = some o := same_new hb
      have h1' : LsAt (upd H' b (.lst [])) vs ls := h1.keep kp
      refine ⟨a1, b, vs, ls, rfl, kp _ _ ea, upd_same, h1', by rw [h3.len]; exact lz, fun z => ?_, fun z pp hp => ?_⟩
      · subst z
        cases h1
        cases dn
        cases em
        exact qq _ _ (same_new hb) (.newL hb .nil)
      · have hp' : H' pp = none := by
          cases e : H' pp with
          | none => rfl
          | some o => rw [kp _ _ e] at hp; cases hp
        have sm : Same H' (upd (upd H' b (.lst [])) pp (.lst ls.flatten)) := fun c o e => same_new hp c o (kp c o e)
        exact qq _ _ sm ⟨pp, ls.flatten, rfl, hp', upd_same, h3⟩
    · cases e
end
end VS
set_option Elab.async false
set_option linter.all false
set_option maxRecDepth 100000
set_option maxHeartbeats 2000000
/-! The VS layer, part E4: list(range(n)); a dict of the top. -/
namespace VS
open PySem PySem.Spec PyProof.Rows L2
section
variable {X : Cx} {C : Wd} {a : Expr} {ma : M O} {q q2 pos p2 : Pos} {x : Str}
theorem rg_dn {K : PySem.W.Frag} {B : Av} {H : Hp} {n : Int} : DnAll K B H (rgV 0 n) ((List.range n.toNat).map fun (k : Nat) => .int k) := by
  unfold rgV
  rw [Int.sub_zero]
  generalize List.range n.toNat = l
  induction l with
  | nil => exact .nil
  | cons k l ih =>
    rw [List.map_cons, List.map_cons, Int.zero_add]
    exact .cons (.int _) ih
theorem se_listRg (hc : X.calm = true) (hg : Gl X "list") (hm : X.mg "list" = none) (hg2 : Gl X "range") (hm2 : X.mg "range" = none) (ha : PE X a (tO C ma)) (hs : starEach [a] X.env = (false, eval a X.env) :: starEach [] X.env) :
    PE X (.Call (.Name "list" q) [.Call (.Name "range" q2) [a] [] p2] [] pos) (tE C (mApp .rngL [ma])) := (pe_listRg hc hg hm (prg_1 hg2 hm2 ha hs) rfl).mono fun σ H Q h => by
  obtain ⟨U, ρ, R, p⟩ := one_of h
  refine ⟨U, ρ, R, p.imp fun o ρ' v H' rr x k => ?_⟩
  obtain ⟨B, d, t, hd, tr, e, qq⟩ := (k v H' rr x).open
  cases d <;> simp only [opT] at e <;> try (cases e)
  rename_i n
  split at e
  · rename_i c
    cases e
    cases hd.int
    simp only [Bool.and_eq_true, decide_eq_true_eq] at c
    exact ⟨n, rfl, .of_le (by omega) (by omega) (by omega) (by omega), fun p hp => qq _ _ (same_new hp) (.newL hp rg_dn)⟩
  · cases e
/-! ### a dict of the top, text keys -/
abbrev Tb := List (Str × D)
def mKix (tab : Tb) (m : M O) : M T := bnd m fun o ρ => match o.get ρ with
  | some (.str z) => match tab.lookup z with
    | some d => .ok (.shr d) ρ
    | none => .stk
  | _ => .stk
def mKin (neg : Bool) (tab : Tb) (m : M O) : M T := bnd m fun o ρ => match o.get ρ with
  | some (.str z) => .ok (.shr (.bool (neg != (tab.lookup z).isSome))) ρ
  | _ => .stk
/-- what such a dict holds -/
structure TabOk (K : PySem.W.Frag) (w : World) (d : Addr) (tab : Tb) : Prop where
  kd : ∃ es n, KDict K w d es n
  get : ∀ z e, tab.lookup z = some e → ∃ u v, PySem.W.nsIn K d z = some (some u) ∧ RelV v u ∧ ∀ B H, Dn K B H v e
  no : ∀ z, tab.lookup z = none → PySem.W.nsIn K d z = some none
theorem kin_of {neg : Bool} {d : Addr} {tab : Tb} (hK : C.K = X.K) (T : TabOk X.K X.w d tab) {σ : L2.St} {H : Hp} {Q : VK} (h : tE C (mKin neg tab ma) σ H Q) :
    tO C ma σ H fun v H1 => ∃ (z : Str) (r : Option Value), v = .str z ∧ PySem.W.nsIn X.K d z = some r ∧ Q (.bl (neg != r.isSome)) H1 := by
  obtain ⟨U, ρ, R, p⟩ := h
  refine ⟨U, ρ, R, p.seq fun o ρ1 v H1 rr x q => ?_⟩
  cases e : o.get ρ1 with
  | none => simp only [e] at q; exact q.elim
  | some d0 =>
    cases d0 <;> simp only [e] at q <;> (try (exact q.elim))
    rename_i z
    have hv := (get_do rr.1 rr.2 e).str
    have q1 := q _ _ (RelR.shr rr.1 (.bl _)) (Ext.refl.less fun a z => z.elim id fun w => by cases w.1)
    cases el : tab.lookup z with
    | none =>
      rw [el] at q1
      exact ⟨z, none, hv, T.no z el, q1⟩
    | some d1 =>
      rw [el] at q1
      obtain ⟨u, v1, g1, g2, g3⟩ := T.get z d1 el
      exact ⟨z, some u, hv, g1, q1⟩
theorem se_kix {d : Addr} {tab : Tb} (hK : C.K = X.K) (T : TabOk X.K X.w d tab) (hg : Gl X x) (hm : X.mg x = some (.ref d)) (hdb : (x == ("__debug__" : Str)) = false) (ha : PE X a (tO C ma)) (hs : PlainIx a) : PE X (.Subscript (.Name x q) a pos) (tE C (mKix tab ma)) :=
  (pe_ix ix_kdict (pe_glob hg hm (v := .ref d) rfl hdb) ha hs).mono fun σ H Q ⟨U, ρ, R, p⟩ => by
  refine ⟨U, ρ, R, p.seq fun o ρ1 v H1 rr x q => ?_⟩
  cases e : o.get ρ1 with
  | none => simp only [e] at q; exact q.elim
  | some d0 =>
    cases d0 <;> simp only [e] at q <;> (try (exact q.elim))
    rename_i z
    have hv := (get_do rr.1 rr.2 e).str
    cases el : tab.lookup z with
    | none => simp only [el] at q; exact q.elim
    | some d1 =>
      simp only [el] at q
      obtain ⟨u, v1, g1, g2, g3⟩ := T.get z d1 el
      obtain ⟨es, n, kd⟩ := T.kd
      exact ⟨d, z, v1, rfl, hv, ⟨es, n, u, kd.at_, kd.lit, g1, g2⟩, q v1 _ (RelR.shr rr.1 (by rw [hK]; exact g3 _ _)) (Ext.refl.less fun a z => z.elim id fun w => by cases w.1)⟩
theorem se_kin {neg : Bool} {d : Addr} {tab : Tb} {cop : CmpOp} (hc : cop = (if neg then .NotIn else .In)) (hK : C.K = X.K) (T : TabOk X.K X.w d tab) (hg : Gl X x) (hm : X.mg x = some (.ref d)) (hdb : (x == ("__debug__" : Str)) = false) (ha : PE X a (tO C ma)) :
    PE X (.Compare a [cop] [.Name x q] pos) (tE C (mKin neg tab ma)) ∧ PT X (.Compare a [cop] [.Name x q] pos) (tT C (mBool (mKin neg tab ma))) := by
  obtain ⟨es, n, kd⟩ := T.kd
  have hb : PE X (.Name x q) (tC (.ref d)) := pe_glob hg hm (v := .ref d) rfl hdb
  cases neg with
  | false =>
    subst hc
    have key : ∀ σ H Q, tE C (mKin false tab ma) σ H Q → tOp (fun x y H Q => ∃ (z : Str) (r : Option Value), x = .str z ∧ y = .ref d ∧ PySem.W.nsIn X.K d z = some r ∧ Q (.bl r.isSome) H) (tO C ma) (tC (.ref d)) σ H Q := fun σ H Q h => by
      obtain ⟨U, ρ, R, p⟩ := kin_of hK T h
      refine ⟨U, ρ, R, p.imp fun o ρ' v H' rr x k => ?_⟩
      obtain ⟨z, r, e1, e2, qq⟩ := k v H' rr x
      refine ⟨z, r, e1, rfl, e2, ?_⟩
      cases r <;> exact qq
    exact ⟨(pe_cmpR (op_in_kd kd) ha hb rfl).mono key, (pt_cmpR (op_in_kd kd) ha hb rfl).mono (test_of key)⟩
  | true =>
    subst hc
    have key : ∀ σ H Q, tE C (mKin true tab ma) σ H Q → tOp (fun x y H Q => ∃ (z : Str) (r : Option Value), x = .str z ∧ y = .ref d ∧ PySem.W.nsIn X.K d z = some r ∧ Q (.bl (!r.isSome)) H) (tO C ma) (tC (.ref d)) σ H Q := fun σ H Q h => by
      obtain ⟨U, ρ, R, p⟩ := kin_of hK T h
      refine ⟨U, ρ, R, p.imp fun o ρ' v H' rr x k => ?_⟩
      obtain ⟨z, r, e1, e2, qq⟩ := k v H' rr x
      refine ⟨z, r, e1, rfl, e2, ?_⟩
      cases r <;> exact qq
    exact ⟨(pe_cmpR (op_notIn_kd kd) ha hb rfl).mono key, (pt_cmpR (op_notIn_kd kd) ha hb rfl).mono (test_of key)⟩
end
end VS
set_option Elab.async false
set_option linter.all false
set_option maxRecDepth 100000
set_option maxHeartbeats 2000000
/-! The VS layer, part E5a: sets of tuples of any make (keys nested), in the model. -/
namespace VS
open PySem PySem.Spec PyProof.Rows L2
/-- a member: its key, where it stands -/
abbrev Rw := NestedKey × Addr
def NkAt (h : Heap) (r : Rw) : Prop := NestedIs h r.1 (.ref r.2) ∧ r.1.depth ≤ 8
theorem NkAt.keep {h h' : Heap} {r : Rw} (x : NkAt h r) (k : ∀ b o, h.get? b = some o → h'.get? b = some o) : NkAt h' r :=
  ⟨NestedIs.at (fun a o _ _ e _ => k a o e) _ _ x.1, x.2⟩
theorem NkAt.but {h h' : Heap} {r : Rw} {a : Addr} {o : Obj} {es : Array (Int × Value)} {ep : Nat} {t : SetTable} (x : NkAt h r) (ho : h.get? a = some o) (hd : o.data = .set es ep t) (b : Heap.SameBut a h h') : NkAt h' r :=
  ⟨NestedIs.at (fun c u vs n e ed => by
    refine (b.2 c fun z => ?_).trans e
    rw [z, ho] at e
    cases e
    rw [hd] at ed
    cases ed) _ _ x.1, x.2⟩
section
variable {P : Program} {w : World} {A : Around} {E : Value → Shared → Prop} {s : Shared}
theorem nall_mem {h : Heap} {n : Nat} : ∀ {ks : List NestedKey} {vs : List Value}, NestedAll h ks vs → NestedKey.depthAll ks ≤ n → ∀ v ∈ vs, ∃ k, NestedIs h k v ∧ k.depth ≤ n
  | _, _, .nil, _, v, hv => by cases hv
  | _, _, .cons (k := k) x xs, d, v, hv => by
    simp only [NestedKey.depthAll] at d
    rcases List.mem_cons.mp hv with e | e
    · rw [e]; exact ⟨k, x, by omega⟩
    · exact nall_mem xs (by omega) v e
/-- no member is a class's statement -/
theorem cls_no : ∀ (n : Nat) (k : NestedKey) (v : Value) {Q : Bool → Shared → Prop}, NestedIs s.heap k v → k.depth ≤ n → Q false s → wpAny (model P w) A (ofAClassStatement n v) Q E s := by
  intro n
  induction n with
  | zero =>
    intro k v Q x d q
    cases x with
    | tup _ _ _ _ => simp [NestedKey.depth] at d
    | _ => exact wpAny_pure q
  | succ n ih =>
    intro k v Q x d q
    cases x with
    | @tup a o vs m ks ho hc hd hk =>
      simp only [NestedKey.depth] at d
      have ts : s.TypeIs (.ref a) "tuple" := ⟨o, ho, hc⟩
      have mem := nall_mem hk (show NestedKey.depthAll ks ≤ n by omega)
      unfold ofAClassStatement
      refine wpAny_bind (wpAny_typeOf ts ?_)
      dsimp only
      simp only [show (("tuple" : String) == "tuple") = true from by decide, if_true, Bool.not_true, Bool.false_eq_true, if_false]
      try refine wpAny_bind (wpAny_pure ?_)
      try simp only [Bool.not_true, Bool.false_eq_true, if_false]
      show wpAny _ _ (seqItems? (.ref a) >>= _) _ _ s
      refine wpAny_bind (wpAny_seqItems ho hd ?_)
      dsimp only
      refine wpAny_bind ?_
      show wpAny _ _ (forIn vs _ _) _ _ s
      rw [← Array.forIn_toList]
      refine wpAny_forIn_list _ (fun left r u => r.1 = none ∧ u = s ∧ ∀ y ∈ left, ∃ k, NestedIs s.heap k y ∧ k.depth ≤ n) _ ?_ ?_ _ _ ⟨rfl, rfl, mem⟩
      · rintro y left r u ⟨er, rfl, hy⟩
        obtain ⟨k', y1, y2⟩ := hy y (.head _)
        refine wpAny_bind (ih k' y y1 y2 ?_)
        simp only [Bool.false_eq_true, if_false]
        exact wpAny_pure ⟨rfl, rfl, fun z hz => hy z (.tail _ hz)⟩
      · rintro ⟨r1, r2⟩ u ⟨er, rfl, _⟩
        simp only at er
        subst er
        exact wpAny_pure q
    | _ => exact wpAny_pure q
/-- whether its hash is told by its value -/
theorem hbv_any : ∀ (n : Nat) (k : NestedKey) (v : Value) {Q : Bool → Shared → Prop}, NestedIs s.heap k v → k.depth ≤ n → (∀ b, Q b s) → wpAny (model P w) A (hashByValue n v) Q E s := by
  intro n
  induction n with
  | zero =>
    intro k v Q x d q
    cases x with
    | tup _ _ _ _ => simp [NestedKey.depth] at d
    | _ => exact wpAny_pure (q _)
  | succ n ih =>
    intro k v Q x d q
    cases x with
    | @tup a o vs m ks ho hc hd hk =>
      simp only [NestedKey.depth] at d
      have ts : s.TypeIs (.ref a) "tuple" := ⟨o, ho, hc⟩
      have mem := nall_mem hk (show NestedKey.depthAll ks ≤ n by omega)
      unfold hashByValue
      refine wpAny_bind (wpAny_specialOf ts F.slot_tuple_hash.lookup ?_)
      show wpAny _ _ (seqItems? (.ref a) >>= _) _ _ s
      refine wpAny_bind (wpAny_seqItems ho hd ?_)
      refine wpAny_bind ?_
      show wpAny _ _ (forIn vs _ _) _ _ s
      rw [← Array.forIn_toList]
      refine wpAny_forIn_list _ (fun left r u => u = s ∧ ∀ y ∈ left, ∃ k, NestedIs s.heap k y ∧ k.depth ≤ n) _ ?_ ?_ _ _ ⟨rfl, mem⟩
      · rintro y left r u ⟨rfl, hy⟩
        obtain ⟨k', y1, y2⟩ := hy y (.head _)
        refine wpAny_bind (ih k' y y1 y2 fun b => ?_)
        cases b with
        | true =>
          simp only [Bool.not_true, Bool.false_eq_true, if_false]
          exact wpAny_pure ⟨rfl, fun z hz => hy z (.tail _ hz)⟩
        | false =>
          simp only [Bool.not_false, if_true]
          exact wpAny_pure (wpAny_pure (q false))
      · rintro ⟨r1, r2⟩ u ⟨rfl, _⟩
        cases r1 with
        | none => exact wpAny_pure (q _)
        | some b => exact wpAny_pure (q _)
    | _ => exact wpAny_pure (q _)
/-- a search among them shows nothing -/
theorem seen_no {k : Rw} (hk : NkAt s.heap k) {ys : List Value} (hy : ∀ y ∈ ys, ∃ r, y = Value.ref r.2 ∧ NkAt s.heap r) {Q : Bool → Shared → Prop} (q : Q false s) :
    wpAny (model P w) A (searchCouldBeSeen (.ref k.2) ys) Q E s := by
  unfold searchCouldBeSeen
  refine wpAny_bind ?_
  refine wpAny_forIn_list _ (fun left r u => r.1 = none ∧ u = s ∧ ∀ y ∈ left, ∃ r, y = Value.ref r.2 ∧ NkAt s.heap r) _ ?_ ?_ _ _ ⟨rfl, rfl, hy⟩
  · rintro y left r u ⟨er, rfl, all⟩
    obtain ⟨c, rfl, hc⟩ := all y (.head _)
    have more : ∀ y ∈ left, ∃ r, y = Value.ref r.2 ∧ NkAt u.heap r := fun z hz => all z (.tail _ hz)
    dsimp only
    by_cases v : (k.2 == c.2 || (carriedByValue (.ref k.2) && carriedByValue (.ref c.2))) = true
    · exact wp_if_pos v (wpAny_pure ⟨rfl, rfl, more⟩)
    · refine wp_if_neg v ?_
      refine wpAny_bind (quiet_key k.1 _ 8 _ hk.1 hk.2 _ _ _ ?_)
      simp only [Bool.not_true, Bool.false_eq_true, if_false]
      refine wpAny_bind (quiet_key c.1 _ 8 _ hc.1 hc.2 _ _ _ ?_)
      simp only [Bool.not_true, Bool.false_eq_true, if_false]
      refine wpAny_bind (cls_no 8 k.1 _ hk.1 hk.2 ?_)
      simp only [Bool.false_eq_true, if_false]
      refine wpAny_bind (cls_no 8 c.1 _ hc.1 hc.2 ?_)
      simp only [Bool.false_eq_true, if_false]
      exact wpAny_pure ⟨rfl, rfl, more⟩
  · rintro ⟨r1, r2⟩ u ⟨er, rfl, _⟩
    simp only at er
    subst er
    exact wpAny_pure q
/-- the set at a has the members L -/
structure NSet (w : World) (h : Heap) (a : Addr) (L : List Rw) (es : Array (Int × Value)) (ep : Nat) (t : SetTable) : Prop where
  obj : ∃ o, h.get? a = some o ∧ o.ExactSet ∧ o.data = .set es ep t
  row : es.toList = L.map fun r => (r.1.hash w, Value.ref r.2)
  tab : L2.TabOk t (L.map fun r => r.1.hash w)
  nd : (L.map (·.1)).Nodup
  at_ : ∀ r ∈ L, NkAt h r
  led : w.params.followText "set-order" = true ∨ t.led = true
  spare : L.length * 5 < t.mask * 3
  few : L.length < 64
variable {a : Addr} {L : List Rw} {es : Array (Int × Value)} {ep : Nat} {t : SetTable}
theorem NSet.size (R : NSet w s.heap a L es ep t) : es.size = L.length := by
  rw [← Array.length_toList, R.row, List.length_map]
theorem NSet.fit (R : NSet w s.heap a L es ep t) : t.fits es.size = true := by
  have h1 := R.tab.sz
  have h2 := R.spare
  have h3 := R.size
  rw [List.length_map] at h1
  unfold SetTable.fits SetTable.fill
  rw [R.tab.dm, Bool.and_eq_true, beq_iff_eq, decide_eq_true_eq]
  refine ⟨by omega, ?_⟩
  show t.place.size + 0 ≤ t.mask
  omega
theorem NSet.ent (R : NSet w s.heap a L es ep t) {i : Nat} {r : Rw} (h : L[i]? = some r) : es[i]? = some (r.1.hash w, Value.ref r.2) := by
  rw [← Array.getElem?_toList, R.row, List.getElem?_map, h]
  rfl
theorem NSet.stays (R : NSet w s.heap a L es ep t) : ¬ t.gaveWay = true := by
  unfold SetTable.gaveWay
  rw [mask_odd R.tab.mok]
  decide
end
end VS
set_option Elab.async false
set_option linter.all false
set_option maxRecDepth 100000
set_option maxHeartbeats 4000000
/-! The VS layer, part E5b: looking for a member, adding one. -/
namespace VS
open PySem PySem.Spec PyProof.Rows L2
section
variable {P : Program} {w : World} {A : Around} {E : Value → Shared → Prop} {s : Shared} {a : Addr} {L : List Rw} {es : Array (Int × Value)} {ep : Nat} {t : SetTable}
/-- the way's c-th state -/
abbrev wy (t : SetTable) (h : Int) (c : Nat) : SetTable.Probe := nth t.mask (runAt t.mask (SetTable.bits h % (t.mask + 1)) (SetTable.bits h)) c
theorem wy_more (t : SetTable) (h : Int) (c q : Nat) : nth t.mask (wy t h c) q = wy t h (c + q) := (nth_add t.mask c _ q).symm
theorem wy_dummy (t : SetTable) (h : Int) (c : Nat) : (wy t h c).dummy = none := by
  induction c with
  | zero => rfl
  | succ c ih =>
    show (nth t.mask _ (c + 1)).dummy = none
    rw [nth_succ]
    unfold adv
    split <;> exact ih
/-- what a search from the c-th state on finds -/
theorem look_from (R : NSet w s.heap a L es ep t) {x : Rw} (hx : NkAt s.heap x) (hu : A.units + 8 < cLine) {n : Nat} (nf : n < 10 * SetTable.turns t.mask)
    (free : (wy t (x.1.hash w) n).j ∉ t.place.toList) (taken : ∀ c, c < n → (wy t (x.1.hash w) c).j ∈ t.place.toList) {Q : SetFound → Shared → Prop}
    (is : x.1 ∈ L.map (·.1) → Q (.there none) s) (not : x.1 ∉ L.map (·.1) → Q (.free (wy t (x.1.hash w) n).j false) s) :
    ∀ (g c : Nat) (st : Option SetTable.Probe), st.getD (t.probeStart (x.1.hash w)) = wy t (x.1.hash w) c → c ≤ n → n < g + c →
      (∀ (i : Nat) r, L[i]? = some r → r.1 = x.1 → ∃ d, c ≤ d ∧ d < n ∧ t.place.toList[i]? = some (wy t (x.1.hash w) d).j) →
      wpAny (model P w) A (setSearchFrom a (.ref x.2) (x.1.hash w) true g st) Q E s
  | 0, c, _, _, l, l2, _ => by omega
  | g + 1, c, st, est, l, l2, ahead => by
    obtain ⟨o, ho, ex, hd⟩ := R.obj
    generalize eh : x.1.hash w = h at *
    rw [setSearchFrom_succ]
    refine wpAny_bind (wpAny_setState_of ho hd R.fit ?_)
    dsimp only
    refine wp_if_neg R.stays ?_
    try refine wpAny_bind (wpAny_pure ?_)
    rw [est]
    have hashAt : ∀ (i : Nat) r, L[i]? = some r → (es[i]?.map (·.1)).getD 0 = r.1.hash w := fun i r e => by rw [R.ent e]; rfl
    have ans := go_spec t R.tab.ris R.tab.dm (fun i => (es[i]?.map (·.1)).getD 0) h (10 * SetTable.turns t.mask) (n - c) (wy t h c) (wy_dummy t h c) (by omega)
      (fun q hq => by rw [wy_more]; exact taken _ (by omega)) (by rw [wy_more, show c + (n - c) = n by omega]; exact free)
    simp only [wy_more] at ans
    rcases ans with ⟨q, i, hq, hi, _, before, e⟩ | ⟨before, e⟩
    · -- a member of this hash
      have e' : t.probe (fun i => (es[i]?.map (·.1)).getD 0) h (wy t h c) = some (.candidate (wy t h (c + q)).j i (wy t h (c + (q + 1)))) := e
      rw [e']
      dsimp only
      have il : i < L.length := by
        have h1 := (List.getElem?_eq_some_iff.mp hi).1
        have h2 := R.tab.sz
        rw [List.length_map] at h2
        rw [Array.length_toList] at h1
        omega
      obtain ⟨r, er⟩ : ∃ r, L[i]? = some r := ⟨_, List.getElem?_eq_getElem il⟩
      have rm : r ∈ L := List.mem_of_getElem? er
      have tail : wpAny (model P w) A (searchRest a (.ref x.2) h true g es t (wy t h (c + q)).j i (wy t h (c + (q + 1)))) Q E s := by
        unfold searchRest
        rw [R.ent er]
        dsimp only
        refine wpAny_bind (wpAny_holding ((nestedKind P w).eqBool hu (R.at_ r rm) hx ?_))
        refine wpAny_bind (wpAny_setState_of ho hd R.fit ?_)
        dsimp only
        by_cases eq : r.1 = x.1
        · exact wp_if_pos (by simp [eq]) (wpAny_pure (is (List.mem_map.mpr ⟨r, rm, eq⟩)))
        · refine wp_if_neg (by simp [eq]) ?_
          try refine wpAny_bind (wpAny_pure ?_)
          have live : t.slot (wy t h (c + q)).j = .live i := slot_live R.tab.ris hi
          rw [sameMem]
          dsimp only
          simp only [if_true, live, R.ent er]
          refine wpAny_bind (wpAny_isSame_ref_self (wpAny_bind (wpAny_pure ?_)))
          simp only [if_true]
          refine wp_if_neg (by simp [eq]) ?_
          subst eh
          refine look_from R hx hu nf free taken is not g (c + (q + 1)) _ rfl (by omega) (by omega) fun i2 r2 e2 k2 => ?_
          obtain ⟨d, d1, d2, d3⟩ := ahead i2 r2 e2 k2
          refine ⟨d, ?_, d2, d3⟩
          rcases Nat.lt_trichotomy d (c + q) with z | z | z
          · refine absurd ((hashAt i2 r2 e2).trans (congrArg (NestedKey.hash w) k2)) (before (d - c) i2 (by omega) ?_)
            rw [show c + (d - c) = d by omega]
            exact d3
          · rw [z] at d3
            have l3 := slot_live R.tab.ris d3
            rw [live] at l3
            injection l3 with l3
            rw [← l3, er] at e2
            exact absurd ((congrArg Prod.fst (Option.some.inj e2)).trans k2) eq
          · omega
      by_cases ld : t.led = true
      · refine wp_if_neg (by simp [ld]) ?_
        try refine wpAny_bind (wpAny_pure ?_)
        exact tail
      · refine wp_if_pos (by simp [ld]) (wpAny_bind (seen_no hx (fun y hy => ?_) ?_))
        · obtain ⟨f, hf, ef⟩ := List.mem_map.mp hy
          have f1 : f ∈ es ∧ f.1 = h := by simpa using hf
          have f2 : f ∈ es.toList := by simpa using f1.1
          rw [R.row] at f2
          obtain ⟨r2, m2, q2⟩ := List.mem_map.mp f2
          exact ⟨r2, by rw [← ef, ← q2], R.at_ r2 m2⟩
        · refine wp_if_neg (by decide) ?_
          try refine wpAny_bind (wpAny_pure ?_)
          exact tail
    · -- none
      rw [show c + (n - c) = n by omega] at e
      have e' : t.probe (fun i => (es[i]?.map (·.1)).getD 0) h (wy t h c) = some (.empty (wy t h n).j none) := e
      rw [e']
      dsimp only
      refine wpAny_pure (not fun m => ?_)
      obtain ⟨r, rm, rk⟩ := List.mem_map.mp m
      obtain ⟨i, il, er⟩ := List.getElem_of_mem rm
      have ei : L[i]? = some r := by rw [List.getElem?_eq_getElem il, er]
      obtain ⟨d, d1, d2, d3⟩ := ahead i r ei rk
      refine before (d - c) i (by omega) (by rw [show c + (d - c) = d by omega]; exact d3) ?_
      have z := hashAt i r ei
      rw [rk, eh] at z
      exact z
theorem look_at (R : NSet w s.heap a L es ep t) {x : Rw} (hx : NkAt s.heap x) (hu : A.units + 8 < cLine) {Q : SetFound → Shared → Prop} (is : x.1 ∈ L.map (·.1) → Q (.there none) s)
    (not : ∀ n, x.1 ∉ L.map (·.1) → (wy t (x.1.hash w) n).j ∉ t.place.toList → (∀ c, c < n → (wy t (x.1.hash w) c).j ∈ t.place.toList) → Q (.free (wy t (x.1.hash w) n).j false) s) :
    wpAny (model P w) A (setSearch a (.ref x.2) (x.1.hash w) true) Q E s := by
  have sp := R.spare
  obtain ⟨n, n1, n2, n3⟩ := R.tab.first (by rw [List.length_map]; omega) (x.1.hash w)
  have big : n < 100000 := by
    have : 10 * SetTable.turns t.mask ≤ 1420 := by
      unfold SetTable.turns
      rcases R.tab.mok with e | e | e <;> omega
    omega
  unfold setSearch
  refine look_from R hx hu n1 n2 n3 is (fun m => not n m n2 n3) 100000 0 none rfl (Nat.zero_le _) (by omega) fun i r e k => ?_
  have il := (List.getElem?_eq_some_iff.mp e).1
  have pl : i < t.place.toList.length := by
    have h2 := R.tab.sz
    rw [List.length_map] at h2
    rw [Array.length_toList]
    omega
  obtain ⟨d, d1, d2⟩ := R.tab.before n2 (h := x.1.hash w) (i := i) (by rw [List.getElem?_map, e, ← k]; rfl) (List.getElem?_eq_getElem pl)
  exact ⟨d, Nat.zero_le _, d1, by rw [List.getElem?_eq_getElem pl]; exact congrArg some d2.symm⟩
end
end VS
set_option Elab.async false
set_option linter.all false
set_option maxRecDepth 100000
set_option maxHeartbeats 4000000
/-! The VS layer, part E5c: a member added. -/
namespace VS
open PySem PySem.Spec PyProof.Rows L2
theorem all_range {α : Type} (L : List α) : (List.range L.length).filterMap (fun i => L[i]?) = L := by
  have e : (List.range L.length).map (fun i => L[i]?) = L.map some := by
    apply List.ext_getElem <;> simp
  have q := congrArg (List.filterMap id) e
  rw [List.filterMap_map, List.filterMap_map] at q
  simpa [Function.comp_def] using q
theorem pick_rows {w : World} (L : List Rw) (es : Array (Int × Value)) (er : es.toList = L.map fun r => (r.1.hash w, Value.ref r.2)) (l : List Nat) (h : ∀ i ∈ l, i < L.length) :
    l.filterMap (es[·]?) = (l.filterMap fun i => L[i]?).map (fun r => (r.1.hash w, Value.ref r.2)) ∧ ((l.filterMap fun i => L[i]?).map fun r => r.1.hash w) = l.map fun i => (es.map (·.1)).getD i 0 := by
  have one : ∀ i, i < L.length → ∃ r, L[i]? = some r ∧ es[i]? = some (r.1.hash w, Value.ref r.2) := fun i hi =>
    ⟨L[i], List.getElem?_eq_getElem hi, by rw [← Array.getElem?_toList, er, List.getElem?_map, List.getElem?_eq_getElem hi]; rfl⟩
  induction l with
  | nil => exact ⟨rfl, rfl⟩
  | cons i l ih =>
    obtain ⟨r, e1, e2⟩ := one i (h i (.head _))
    obtain ⟨i1, i2⟩ := ih fun j hj => h j (.tail _ hj)
    have e3 : (es.map (·.1)).getD i 0 = r.1.hash w := by
      have : (es.map (·.1))[i]? = some (r.1.hash w) := by rw [Array.getElem?_map, e2]; rfl
      simp [Array.getD_eq_getD_getElem?, this]
    refine ⟨?_, ?_⟩
    · rw [List.filterMap_cons_some e2, List.filterMap_cons_some (f := fun i => L[i]?) e1, i1]
      rfl
    · rw [List.filterMap_cons_some (f := fun i => L[i]?) e1, List.map_cons, List.map_cons, i2, e3]
section
variable {P : Program} {w : World} {A : Around} {E : Value → Shared → Prop} {s : Shared} {a : Addr} {L : List Rw} {es : Array (Int × Value)} {ep : Nat} {t : SetTable}
/-- the table laid out anew with more room -/
theorem laid_new {o : Obj} (ho : s.heap.get? a = some o) (ex : o.ExactSet) (hd : o.data = .set es ep t) (row : es.toList = L.map fun r => (r.1.hash w, Value.ref r.2)) (sz : t.place.size = es.size) (dm : t.dummies = #[]) (le : es.size ≤ t.mask)
    (nd : (L.map (·.1)).Nodup) (at_ : ∀ r ∈ L, NkAt s.heap r) (led : w.params.followText "set-order" = true ∨ t.led = true) (few : L.length < 64) {wish M : Nat}
    (e1 : SetTable.sizeAbove wish - 1 = M) (e2 : MaskOk M) (e3 : SetTable.sizeAbove wish ≤ 128) (e4 : L.length * 5 < M * 3) {Q : Unit → Shared → Prop}
    (q : ∀ h' L' es' ep' t', Heap.SameBut a s.heap h' → NSet w h' a L' es' ep' t' → L'.Perm L → Q () { s with heap := h' }) : wpAny (model P w) A (setRelay a wish) Q E s := by
  have n1 : es.size = L.length := by rw [← Array.length_toList, row, List.length_map]
  have fit : t.fits es.size = true := by
    unfold SetTable.fits SetTable.fill
    rw [dm, Bool.and_eq_true, beq_iff_eq, decide_eq_true_eq]
    refine ⟨sz, ?_⟩
    show t.place.size + 0 ≤ t.mask
    omega
  obtain ⟨t', ord, e, pm, T, em, el, _, _⟩ := relaid_ok t (hs := es.map (·.1)) (wanted := wish) e1 e2 (by rw [Array.size_map]; omega)
  rw [Array.size_map, n1] at pm
  obtain ⟨r1, r2⟩ := pick_rows L es row ord.toList fun i hi => List.mem_range.mp (pm.mem_iff.mp hi)
  have p2 : (ord.toList.filterMap fun i => L[i]?).Perm L := by
    have z := pm.filterMap (fun i => L[i]?)
    rw [all_range] at z
    exact z
  rw [← r2] at T
  generalize ord.toList.filterMap (fun i => L[i]?) = L' at r1 p2 T
  have r3 : (ord.filterMap (es[·]?)).toList = L'.map fun r => (r.1.hash w, Value.ref r.2) := by
    first | (rw [Array.toList_filterMap]; exact r1) | simpa using r1
  have n2 : (ord.filterMap (es[·]?)).size = es.size := by rw [← Array.length_toList, r3, List.length_map, p2.length_eq, n1]
  rw [setRelay_eq]
  refine wpAny_bind (wpAny_setState_of ho hd fit ?_)
  dsimp only
  refine wp_if_neg (by rw [sizeLine_eq]; omega) ?_
  try refine wpAny_bind (wpAny_pure ?_)
  rw [e]
  dsimp only
  refine wpAny_bind ?_
  refine wp_if_neg (by rw [n2]; simp) ?_
  try refine wpAny_bind (wpAny_pure ?_)
  refine wpAny_pure ?_
  dsimp only
  refine wpAny_storeSet_of ho hd ?_ (by rw [n2, n1, sizeLine_eq]; omega)
  have sb : Heap.SameBut a s.heap (s.heap.update a (Obj.putSet (ord.filterMap (es[·]?)) t')) := Heap.SameBut.update ..
  refine q _ L' _ (ep + 1) t' sb ⟨⟨_, store_at ho hd, ⟨ex.1, ex.2.1, ex.2.2⟩, rfl⟩, r3, T, (p2.map (·.1)).nodup_iff.mpr nd, fun r hr => (at_ r (p2.mem_iff.mp hr)).but ho hd sb, by rw [el]; exact led, ?_, ?_⟩ p2
  · rw [p2.length_eq, em]; exact e4
  · rw [p2.length_eq]; exact few
/-- behind the search: nobody is lost -/
theorem put_one (R : NSet w s.heap a L es ep t) {x : Rw} (hx : NkAt s.heap x) (hu : A.units + 8 < cLine) (room : L.length + 1 < 64) {Q : Bool → Shared → Prop}
    (q : ∀ b h' L' es' ep' t', Heap.SameBut a s.heap h' → NSet w h' a L' es' ep' t' → (x.1 ∈ L.map (·.1) → L' = L) → (x.1 ∉ L.map (·.1) → L'.Perm (x :: L)) → Q b { s with heap := h' }) :
    wpAny (model P w) A (setAddHashed a (.ref x.2) (x.1.hash w)) Q E s := by
  obtain ⟨o, ho, ex, hd⟩ := R.obj
  have n1 := R.size
  have sp := R.spare
  unfold setAddHashed
  refine wpAny_holding ?_
  rw [show (100000 : Nat) = 99999 + 1 from rfl, setAddHashedIn_succ]
  refine wpAny_bind (wpAny_setState_of ho hd R.fit ?_)
  dsimp only
  refine wp_if_neg (by simp [byScan, Value.scannable]) ?_
  try refine wpAny_bind (wpAny_pure ?_)
  refine wpAny_bind (look_at R hx hu (fun m => ?_) fun n m free taken => ?_)
  · dsimp only
    exact wpAny_pure (q false s.heap L es ep t (Heap.SameBut.refl a s.heap) R (fun _ => rfl) fun z => absurd m z)
  · dsimp only
    refine wpAny_bind (wpAny_setState_of ho hd R.fit ?_)
    dsimp only
    obtain ⟨q1, q2, q3, q4, q5, q6, q7, q8, q9⟩ := R.tab.put free taken
    generalize ept : t.put (way t.mask (x.1.hash w) n) = pt at q1 q3 q4 q5 q6 q7 q8 q9
    obtain ⟨t1, p⟩ := pt
    dsimp only at q1 q3 q4 q5 q6 q7 q8 q9 ⊢
    subst q1
    rw [List.length_map] at q2
    have pm : (L.take (SetTable.below t.place (way t.mask (x.1.hash w) n)) ++ x :: L.drop (SetTable.below t.place (way t.mask (x.1.hash w) n))).Perm (x :: L) := by
      have z : (L.take (SetTable.below t.place (way t.mask (x.1.hash w) n)) ++ x :: L.drop (SetTable.below t.place (way t.mask (x.1.hash w) n))).Perm (x :: (L.take _ ++ L.drop _)) := List.perm_middle
      rwa [List.take_append_drop] at z
    have row : (SetTable.insertAt es (SetTable.below t.place (way t.mask (x.1.hash w) n)) (x.1.hash w, Value.ref x.2)).toList = (L.take (SetTable.below t.place (way t.mask (x.1.hash w) n)) ++ x :: L.drop (SetTable.below t.place (way t.mask (x.1.hash w) n))).map fun r => (r.1.hash w, Value.ref r.2) := by
      rw [SetTable.toList_insertAt, R.row, List.map_append, List.map_cons, List.map_take, List.map_drop]
    have q3' : L2.TabOk t1 ((L.take (SetTable.below t.place (way t.mask (x.1.hash w) n)) ++ x :: L.drop (SetTable.below t.place (way t.mask (x.1.hash w) n))).map fun r => r.1.hash w) := by
      rw [List.map_append, List.map_cons, List.map_take, List.map_drop]
      exact q3
    generalize L.take (SetTable.below t.place (way t.mask (x.1.hash w) n)) ++ x :: L.drop (SetTable.below t.place (way t.mask (x.1.hash w) n)) = L1 at pm row q3'
    clear q3
    have len : L1.length = L.length + 1 := pm.length_eq
    -- whatever is told of its hash
    have go : ∀ t2 : SetTable, L2.TabOk t2 (L1.map fun r => r.1.hash w) → t2.mask = t1.mask → t2.led = t1.led → t2.fill = t1.fill → wpAny (model P w) A (do
        storeSet a (SetTable.insertAt es (SetTable.below t.place (way t.mask (x.1.hash w) n)) (x.1.hash w, Value.ref x.2)) t2
        if !false && t2.tooFull then setRelay a (SetTable.grown (es.size + 1))
        return true) Q E s := by
      intro t2 T2 m2 l2 f2
      generalize SetTable.insertAt es (SetTable.below t.place (way t.mask (x.1.hash w) n)) (x.1.hash w, Value.ref x.2) = es1 at row
      have n2 : es1.size = L.length + 1 := by rw [← Array.length_toList, row, List.length_map, len]
      refine wpAny_bind (wpAny_storeSet_of ho hd ?_ (by rw [n2, sizeLine_eq]; omega))
      have sb : Heap.SameBut a s.heap (s.heap.update a (Obj.putSet es1 t2)) := Heap.SameBut.update ..
      have ho1 := store_at (es' := es1) (t' := t2) ho hd
      generalize s.heap.update a (Obj.putSet es1 t2) = h1 at sb ho1 ⊢
      have at1 : ∀ r ∈ L1, NkAt h1 r := fun r hr => by
        rcases List.mem_cons.mp (pm.mem_iff.mp hr) with e | e
        · rw [e]; exact hx.but ho hd sb
        · exact (R.at_ r e).but ho hd sb
      have nd1 : (L1.map (·.1)).Nodup := (pm.map (·.1)).nodup_iff.mpr (List.nodup_cons.mpr ⟨m, R.nd⟩)
      have led1 : w.params.followText "set-order" = true ∨ t2.led = true := by rw [l2, q5]; exact R.led
      by_cases full : t2.tooFull = true
      · have bd : (L.length + 1) * 5 ≥ t.mask * 3 := by
          unfold SetTable.tooFull at full
          rw [decide_eq_true_eq, f2, q9, m2, q4, List.length_map] at full
          exact full
        have sz1 : t2.place.size = es1.size := by rw [T2.sz, List.length_map, len, n2]
        have two : (t.mask = 7 ∧ L.length = 4) ∨ (t.mask = 31 ∧ L.length = 18) := by
          rcases R.tab.mok with e | e | e
          · exact .inl ⟨e, by omega⟩
          · exact .inr ⟨e, by omega⟩
          · omega
        have anew : ∀ M, SetTable.sizeAbove (SetTable.grown (L.length + 1)) - 1 = M → MaskOk M → SetTable.sizeAbove (SetTable.grown (L.length + 1)) ≤ 128 → (L.length + 1) * 5 < M * 3 →
            wpAny (model P w) A (setRelay a (SetTable.grown (L.length + 1))) (fun _ u => wpAny (model P w) A (pure true) Q E u) E { s with heap := h1 } := fun M a1 a2 a3 a4 =>
          laid_new (s := { s with heap := h1 }) ho1 ⟨ex.1, ex.2.1, ex.2.2⟩ rfl row sz1 T2.dm (by rw [n2, m2, q4]; rcases two with ⟨u, v⟩ | ⟨u, v⟩ <;> omega) nd1 at1 led1 (by rw [len]; exact room) a1 a2 a3 (by rw [len]; exact a4)
            fun h2 L2 es2 ep2 t2 sb2 R2 pm2 => wpAny_pure (q true h2 L2 es2 ep2 t2 (sb.trans sb2) R2 (fun z => absurd z m) fun _ => pm2.trans pm)
        have fin : wpAny (model P w) A (setRelay a (SetTable.grown (es.size + 1))) (fun _ u => wpAny (model P w) A (pure true) Q E u) E { s with heap := h1 } := by
          rw [n1]
          rcases two with ⟨_, v⟩ | ⟨_, v⟩
          · exact anew 31 (by rw [v, size_20]) (.inr (.inl rfl)) (by rw [v, size_20]; decide) (by omega)
          · exact anew 127 (by rw [v, size_76]) (.inr (.inr rfl)) (by rw [v, size_76]; decide) (by omega)
        first
          | exact wpAny_bind (wp_if_pos (by simp [full]) fin)
          | exact wp_if_pos (by simp [full]) (wpAny_bind fin)
      · have fin : Q true { s with heap := h1 } := q true h1 L1 es1 (ep + 1) t2 sb ⟨⟨_, ho1, ⟨ex.1, ex.2.1, ex.2.2⟩, rfl⟩, row, T2, nd1, at1, led1, (by
          unfold SetTable.tooFull at full
          rw [decide_eq_true_eq, f2, q9, m2, q4, List.length_map] at full
          rw [len, m2, q4]
          omega), by rw [len]; exact room⟩ (fun z => absurd z m) fun _ => pm
        first
          | exact wp_if_neg (by simp [full]) (wpAny_pure fin)
          | exact wpAny_bind (wp_if_neg (by simp [full]) (wpAny_pure (wpAny_pure fin)))
    have both : ∀ b : Bool, wpAny (model P w) A (do
        storeSet a (SetTable.insertAt es (SetTable.below t.place (way t.mask (x.1.hash w) n)) (x.1.hash w, Value.ref x.2)) (if b = true then t1 else { t1 with plain := false })
        if !false && (if b = true then t1 else { t1 with plain := false } : SetTable).tooFull then setRelay a (SetTable.grown (es.size + 1))
        return true) Q E s := fun b => by
      cases b with
      | true => exact go t1 q3' rfl rfl rfl
      | false => exact go { t1 with plain := false } ⟨q3'.ris, q3'.dm, q3'.sz, q3'.mok, q3'.bd, q3'.reach⟩ rfl rfl rfl
    by_cases pl : t1.plain = true
    · first
        | exact wpAny_bind (wp_if_pos pl (hbv_any 8 x.1 _ hx.1 hx.2 both))
        | exact wp_if_pos pl (wpAny_bind (hbv_any 8 x.1 _ hx.1 hx.2 both))
    · first
        | exact wpAny_bind (wp_if_neg pl (wpAny_pure (both true)))
        | exact wp_if_neg pl (wpAny_bind (wpAny_pure (both true)))
        | exact wp_if_neg pl (both true)
end
end VS
set_option Elab.async false
set_option linter.all false
set_option maxRecDepth 100000
set_option maxHeartbeats 4000000
/-! The VS layer, part E5d: set(xs), xs a list of tuples. -/
namespace VS
open PySem PySem.Spec PyProof.Rows L2
/-- what the first i put in -/
structure Hs (ks : List Rw) (i : Nat) (L : List Rw) : Prop where
  sub : ∀ r ∈ L, r ∈ ks.take i
  all : ∀ r ∈ ks.take i, r.1 ∈ L.map (·.1)
  len : L.length ≤ i
theorem Hs.nil (ks : List Rw) : Hs ks 0 [] := ⟨fun _ h => (nomatch h), fun r h => (by simp at h), Nat.le_refl _⟩
theorem take_one {α : Type} {l : List α} {i : Nat} {x : α} (h : l[i]? = some x) : l.take (i + 1) = l.take i ++ [x] := by rw [List.take_succ, h]; rfl
theorem Hs.old {ks L : List Rw} {i : Nat} {x : Rw} (g : Hs ks i L) (h : ks[i]? = some x) (m : x.1 ∈ L.map (·.1)) : Hs ks (i + 1) L := by
  refine ⟨fun r hr => ?_, fun r hr => ?_, Nat.le_succ_of_le g.len⟩ <;> rw [take_one h] at *
  · exact List.mem_append_left _ (g.sub r hr)
  · rcases List.mem_append.mp hr with z | z
    · exact g.all r z
    · cases List.mem_singleton.mp z; exact m
theorem Hs.new {ks L L' : List Rw} {i : Nat} {x : Rw} (g : Hs ks i L) (h : ks[i]? = some x) (p : L'.Perm (x :: L)) : Hs ks (i + 1) L' := by
  refine ⟨fun r hr => ?_, fun r hr => ?_, ?_⟩
  · rw [take_one h]
    rcases List.mem_cons.mp (p.mem_iff.mp hr) with z | z
    · rw [z]; simp
    · exact List.mem_append_left _ (g.sub r z)
  · rw [take_one h] at hr
    rw [(p.map (·.1)).mem_iff, List.map_cons]
    rcases List.mem_append.mp hr with z | z
    · exact .tail _ (g.all r z)
    · cases List.mem_singleton.mp z; exact .head _
  · have := g.len
    rw [p.length_eq, List.length_cons]
    omega
/-- a new set, as it is laid -/
abbrev sNew (w : World) : Obj := { cls := .type "set", dict := none, data := .set #[] 0 (.fresh 0 0 (!w.params.followText "set-order")) }
theorem ints_len : ∀ {vs : List Value} {ns : List Int}, IntsAre vs ns → vs.length = ns.length
  | _, _, .nil => rfl
  | _, _, .cons _ _ t => congrArg (· + 1) (ints_len t)
theorem ints_get : ∀ {vs : List Value} {ns : List Int} {i : Nat} {v : Value}, IntsAre vs ns → vs[i]? = some v → ∃ k t, ns[i]? = some k ∧ v = .int k t
  | _, _, _, _, .nil, e => by simp at e
  | _, _, 0, _, .cons k t _, e => ⟨k, t, rfl, by simpa using e.symm⟩
  | _, _, i + 1, _, .cons _ _ r, e => by
    obtain ⟨k, t, h1, h2⟩ := ints_get (i := i) r (by simpa using e)
    exact ⟨k, t, by simpa using h1, h2⟩
section
variable {P : Program} {w : World} {A : Around} {E : Value → Shared → Prop} {s : Shared}
theorem NSet.keep {h h' : Heap} {a : Addr} {L : List Rw} {es : Array (Int × Value)} {ep : Nat} {t : SetTable} (R : NSet w h a L es ep t) (k : ∀ o, h.get? a = some o → h'.get? a = some o) (m : ∀ r ∈ L, NkAt h' r) : NSet w h' a L es ep t :=
  let ⟨o, ho, z⟩ := R.obj
  ⟨⟨o, k o ho, z⟩, R.row, R.tab, R.nd, m, R.led, R.spare, R.few⟩
theorem nset_new {h : Heap} {a : Addr} (ho : h.get? a = some (sNew w)) : NSet w h a [] #[] 0 (.fresh 0 0 (!w.params.followText "set-order")) where
  obj := ⟨_, ho, ⟨rfl, rfl, rfl⟩, rfl⟩
  row := rfl
  tab := ⟨List.Pairwise.nil, rfl, rfl, .inl rfl, fun x hx => (nomatch hx), fun i h j hi => (by simp at hi)⟩
  nd := List.nodup_nil
  at_ := fun _ h => nomatch h
  led := by
    show _ ∨ (!w.params.followText "set-order") = true
    cases w.params.followText "set-order"
    · exact .inr rfl
    · exact .inl rfl
  spare := show 0 * 5 < 7 * 3 by decide
  few := show 0 < 64 by decide
/-- the loop that puts all in -/
theorem puts_loop {I : Addr} {fp wr : List Addr} {Gs : Array GenState → Array GenState → Prop} {n : Nat} {Yl : Nat → Value → Prop} {St : Nat → Shared → Prop} {R : Result → Shared → Prop}
    (wk : WalksS P w A.in1 I fp wr Gs n Yl St) (S : Addr) (out : S ∉ fp) (ks : List Rw) (en : n = ks.length) (few : ks.length < 64) (yl : ∀ i v, Yl i v → ∃ r, ks[i]? = some r ∧ v = .ref r.2)
    (h0 : Heap) (at0 : ∀ r ∈ ks, NkAt h0 r) (s0 : h0.get? S = none) (w0 : ∀ b ∈ wr, h0.get? b = none) (hu : A.in1.units + 8 < cLine) :
    ∀ (left i : Nat) (s : Shared), n - i = left → i ≤ n → St i s → (∀ b o, h0.get? b = some o → s.heap.get? b = some o) → (∃ L es ep t, NSet w s.heap S L es ep t ∧ Hs ks i L) →
      (∀ s' L es ep t, Moved (S :: wr) Gs s s' → NSet w s'.heap S L es ep t → Hs ks n L → (∀ b o, h0.get? b = some o → s'.heap.get? b = some o) → R (.ok (.ret .none)) s') →
      codeAny (model P w) A (.builtin "set.update.loop" ⟨[.ref S, .ref I], []⟩) R s := by
  have outw : S ∉ wr := fun z => out (wk.sub _ z)
  have more : ∀ b ∈ wr, b ∈ S :: wr := fun b hb => .tail _ hb
  have carry : ∀ {u u' : Shared}, Moved wr Gs u u' → (∀ b o, h0.get? b = some o → u.heap.get? b = some o) → ∀ b o, h0.get? b = some o → u'.heap.get? b = some o := fun mv k b o e =>
    mv.heap b o (fun z => by rw [w0 b z] at e; cases e) (k b o e)
  intro left
  induction left with
  | zero =>
    intro i s el hi st kp ⟨L, es, ep, t, N, g⟩ fin
    obtain rfl : i = n := by omega
    refine codeAny_builtin F.entry_set_update_loop ?_
    rw [Around.under_plainId F.plain_set_update_loop _]
    refine wpAny_bind (m := pyNext (.ref I)) (wk.done s _ _ st fun u mv => ?_)
    have kp' := carry mv kp
    refine wpAny_pure (α := _) (fin u L es ep t (mv.mono more) (N.keep (fun o e => mv.heap S o outw e) fun r hr => (at0 r (List.mem_of_mem_take (g.sub r hr))).keep kp') g kp')
  | succ left ih =>
    intro i s el hi st kp ⟨L, es, ep, t, N, g⟩ fin
    have lt : i < n := by omega
    refine codeAny_builtin F.entry_set_update_loop ?_
    rw [Around.under_plainId F.plain_set_update_loop _]
    refine wpAny_bind (m := pyNext (.ref I)) (wk.item i s _ _ lt st fun v u hy st' mv => ?_)
    obtain ⟨r, er, rfl⟩ := yl i v hy
    have kp' := carry mv kp
    have N' : NSet w u.heap S L es ep t := N.keep (fun o e => mv.heap S o outw e) fun r hr => (at0 r (List.mem_of_mem_take (g.sub r hr))).keep kp'
    have hr : NkAt u.heap r := (at0 r (List.mem_of_getElem? er)).keep kp'
    refine wpAny_bind (m := holding [Value.ref r.2] (setAdd S (.ref r.2))) (wpAny_holding ?_)
    unfold setAdd
    refine wpAny_holding (wpAny_bind ((nestedKind P w).pyHash hu hr ?_))
    refine put_one (s := { u with toks := u.toks + r.1.draws }) N' hr hu (by have := g.len; omega) fun b h' L' es' ep' t' sb N2 c1 c2 => ?_
    have g' : Hs ks (i + 1) L' := by
      rcases Classical.em (r.1 ∈ L.map (·.1)) with c | c
      · rw [c1 c]; exact g.old er c
      · exact g.new er (c2 c)
    have kp2 : ∀ b o, h0.get? b = some o → h'.get? b = some o := fun b o e => (sb.2 b fun z => by rw [z, s0] at e; cases e).trans (kp' b o e)
    refine wpAny_pure ⟨plainId_quiet F.plain_set_update_loop _, ih (i + 1) _ (by omega) lt (wk.frame _ u _ _ st' (Nat.le_add_right _ _) fun b hb o e => ?_) kp2 ⟨L', es', ep', t', N2, g'⟩ fun u2 L2 es2 ep2 t2 mv2 N3 g3 kp3 => ?_⟩
    · exact (sb.2 b fun z => out (z ▸ hb)).trans e
    · exact fin u2 L2 es2 ep2 t2 (Moved.trans wk.gtrans ((mv.mono more).then_heap (Nat.le_add_right _ _) fun b o hb e => (sb.2 b fun z => hb (z ▸ List.mem_cons_self)).trans e) mv2) N3 g3 kp3
set_option maxRecDepth 100000 in
set_option maxHeartbeats 3200000 in
/-- set(xs), whatever its loop makes of a new set -/
theorem set_of_list {l : Addr} {its : Array Value} (Gd : Heap → Prop) {Q : Value → Shared → Prop} (hh : A.handled = none) (hl : s.heap.IsList l its)
    (lp : ∀ (I : Addr) (fp : List Addr) (Gs : Array GenState → Array GenState → Prop) (St : Nat → Shared → Prop) (u : Shared) (R : Result → Shared → Prop), WalksS P w A.in1.in1.in1 I fp [I] Gs its.size (fun i v => its[i]? = some v) St →
      s.heap.objs.size ∉ fp → s.heap.get? I = none → St 0 u → (∀ b o, s.heap.get? b = some o → u.heap.get? b = some o) → u.heap.get? s.heap.objs.size = some (sNew w) →
      (∀ u2, Moved (s.heap.objs.size :: [I]) Gs u u2 → Gd u2.heap → R (.ok (.ret .none)) u2) → codeAny (model P w) A.in1.in1 (.builtin "set.update.loop" ⟨[.ref s.heap.objs.size, .ref I], []⟩) R u)
    (q : ∀ (h' : Heap) (tk : Nat), Gd h' → (∀ b o, s.heap.get? b = some o → h'.get? b = some o) → Q (.ref s.heap.objs.size) { s with heap := h', toks := tk }) :
    wpAny (model P w) A (call (.type "set") [.ref l]) Q E s := by
  obtain ⟨c, tl, hmro⟩ := F.called_set.mro
  have hmade := F.called_set.made
  have hsub := F.called_set.sub
  have h1 := F.called_set.notType
  have h2 := F.called_set.canCreate
  have hct := F.typeCall_set_1 (.ref l)
  refine wpAny_call (codeAny_of_tree ?_)
  show wpAny (model P w) _ (callAny (.type "set") _) _ _ _
  refine wpAny_pure ⟨Code.quiet_builtin _ (by decide +kernel), codeAny_builtin F.entry_type_call ?_⟩
  rw [Around.under_plain (weight_type_call_type "set" [.ref l] []) rfl]
  repeat (any_goals (first | assumption | wp_step))
  refine codeAny_mono (code_set_led1 (.ref l) (E := E) (Q₁ := fun ob u => ob = .ref s.heap.objs.size ∧ u = { s with heap := s.heap.push (sNew w) }) ⟨rfl, rfl⟩) fun r u hr => ?_
  cases r with
  | error e => exact hr
  | ok fl =>
    cases fl with
    | ret ob =>
      obtain ⟨rfl, rfl⟩ := hr
      have hS : (s.heap.push (sNew w)).get? s.heap.objs.size = some (sNew w) := Heap.get?_push_size _ rfl
      have hT : Shared.TypeIs { s with heap := s.heap.push (sNew w) } (.ref s.heap.objs.size) "set" := ⟨_, hS, rfl⟩
      have hli := F.called_set.init.lookup
      have hbi := F.called_set.init.bind (.ref s.heap.objs.size)
      repeat (any_goals (first | assumption | wp_step))
      refine codeAny_mono (codeAny_call_builtin (R := wants (fun r u => r = .none ∧ ∃ h' tk, u = { s with heap := h', toks := tk } ∧ Gd h' ∧ ∀ b o, s.heap.get? b = some o → h'.get? b = some o) E) F.called_set.init.plain F.entry_set_init (check_set_init_1 hT ?_)) fun r u hr => ?_
      · obtain ⟨⟨oc, od, oda, osl⟩, hol, hcl, nl, hdl⟩ := hl
        simp only at hcl hdl
        subst hcl hdl
        have hol' : (s.heap.push (sNew w)).get? l = some ⟨.type "list", od, .seq its nl, osl⟩ := Heap.get?_push_of_some _ hol
        have a1 := F.sub_list_set
        have a2 := F.sub_list_frozenset
        have a3 : (Value.type "list" == Value.type "dict") = false := rfl
        have hl1 : (s.heap.push (sNew w)).IsList l its := ⟨_, hol', rfl, nl, rfl⟩
        unfold Builtin.«set.__init__» noKeywords Builtin.Frozenset.updateFrom
        generalize ep : pyIter = pI
        wp_walk
        subst ep
        refine wpAny_pyIter_list hl1 (wpAny_bind (wpAny_runValue ?_))
        have ls : l < s.heap.objs.size := Heap.lt_size hol
        have hh3 : A.in1.in1.in1.handled = none := by simp [hh]
        have zp : (s.heap.push (sNew w)).objs.size = s.heap.objs.size + 1 := Heap.size_push ..
        have none_of : ∀ b, s.heap.objs.size ≤ b → s.heap.get? b = none := fun b hb => by
          cases e : s.heap.get? b with
          | none => rfl
          | some o => exact absurd (Heap.lt_size e) (Nat.not_lt.mpr hb)
        have kp : ∀ {x y : Obj} b o, s.heap.get? b = some o → ((s.heap.push x).push y).get? b = some o := fun b o e => Heap.get?_push_of_some _ (Heap.get?_push_of_some _ e)
        refine lp _ _ _ _ _ _ ((Walks.list hh3 _ l (by rw [zp]; exact Nat.ne_of_lt (Nat.lt_succ_of_lt ls)) its).toS) (fun m => by
            rw [zp] at m
            rcases List.mem_cons.mp m with z | z
            · exact Nat.ne_of_lt (Nat.lt_succ_self _) z
            · exact Nat.ne_of_gt ls (List.mem_singleton.mp z)) (none_of _ (by rw [zp]; exact Nat.le_succ _)) ⟨⟨_, Heap.get?_push_size _ rfl, rfl, rfl⟩, (hl1.push _)⟩ kp (Heap.get?_push_of_some _ hS) fun u mv g => ?_
        have kp2 : ∀ b o, s.heap.get? b = some o → u.heap.get? b = some o := fun b o e => mv.heap b o (fun m => by
          rcases List.mem_cons.mp m with z | z
          · rw [z, none_of _ (Nat.le_refl _)] at e; cases e
          · rw [List.mem_singleton.mp z, none_of _ (by rw [zp]; exact Nat.le_succ _)] at e; cases e) (kp b o e)
        obtain ⟨h', g2, d', tk', os'⟩ := u
        obtain rfl : g2 = s.gens := mv.gens
        obtain rfl : d' = s.drawn := mv.drawn
        obtain rfl : os' = s.os := mv.os
        exact wpAny_pure (wpAny_pure ⟨rfl, h', tk', rfl, g, kp2⟩)
      · cases r with
        | error e => exact hr
        | ok f2 =>
          cases f2 with
          | ret r =>
            obtain ⟨rfl, h', tk, rfl, g, kp⟩ := hr
            repeat (any_goals (first | assumption | wp_step))
            exact q _ _ g kp
          | _ => exact hr.elim
    | _ => exact hr.elim
/-- of tuples -/
theorem set_of_tups {l : Addr} {its : Array Value} (ks : List Rw) {Q : Value → Shared → Prop} (hh : A.handled = none) (hl : s.heap.IsList l its) (ei : its.toList = ks.map fun r => Value.ref r.2) (at0 : ∀ r ∈ ks, NkAt s.heap r) (few : ks.length < 64) (hu : A.units + 12 < cLine)
    (q : ∀ (h' : Heap) (tk : Nat) L es ep t, NSet w h' s.heap.objs.size L es ep t → Hs ks ks.length L → (∀ b o, s.heap.get? b = some o → h'.get? b = some o) → Q (.ref s.heap.objs.size) { s with heap := h', toks := tk }) :
    wpAny (model P w) A (call (.type "set") [.ref l]) Q E s := by
  have sz : its.size = ks.length := by rw [← Array.length_toList, ei, List.length_map]
  refine set_of_list (fun h' => ∃ L es ep t, NSet w h' s.heap.objs.size L es ep t ∧ Hs ks ks.length L) hh hl (fun I fp Gs St u R wk out hI st kp hS fin => ?_) fun h' tk ⟨L, es, ep, t, N, g⟩ kp => q h' tk L es ep t N g kp
  have sn : s.heap.get? s.heap.objs.size = none := by
    cases e : s.heap.get? s.heap.objs.size with
    | none => rfl
    | some o => exact absurd (Heap.lt_size e) (Nat.lt_irrefl _)
  refine puts_loop wk s.heap.objs.size out ks sz few (fun i v hv => ?_) s.heap at0 sn (fun b hb => by rw [List.mem_singleton.mp hb]; exact hI) (show A.units + 1 + 1 + 1 + 8 < cLine by omega) (its.size - 0) 0 u (by omega) (Nat.zero_le _) st kp ⟨[], #[], 0, _, nset_new hS, Hs.nil ks⟩ fun u2 L es ep t mv N g _ => fin u2 mv ⟨L, es, ep, t, N, by rw [← sz]; exact g⟩
  have z : its.toList[i]? = some v := by rw [Array.getElem?_toList]; exact hv
  rw [ei, List.getElem?_map] at z
  obtain ⟨r, e1, e2⟩ := Option.map_eq_some_iff.mp z
  exact ⟨r, e1, e2.symm⟩
/-- of ints -/
theorem set_of_ints {l : Addr} {its : Array Value} (ns : List Int) {Q : Value → Shared → Prop} (hh : A.handled = none) (hl : s.heap.IsList l its) (ei : IntsAre its.toList ns) (few : ns.length < 64)
    (q : ∀ (h' : Heap) (tk c : Nat), SetR w h' s.heap.objs.size (fun j => decide (j ∈ ns)) c → c ≤ ns.length → (∀ b o, s.heap.get? b = some o → h'.get? b = some o) → Q (.ref s.heap.objs.size) { s with heap := h', toks := tk }) :
    wpAny (model P w) A (call (.type "set") [.ref l]) Q E s := by
  have sz : its.size = ns.length := by rw [← Array.length_toList]; exact ints_len ei
  refine set_of_list (fun h' => ∃ c, SetR w h' s.heap.objs.size (fun j => decide (j ∈ ns)) c ∧ c ≤ ns.length) hh hl (fun I fp Gs St u R wk out hI st kp hS fin => ?_) fun h' tk ⟨c, N, g⟩ kp => q h' tk c N g kp
  refine set_update_ints wk s.heap.objs.size out ns sz (by unfold scanBound; omega) (fun i v hv => ?_) (its.size - 0) 0 u (by omega) (Nat.zero_le _) st ⟨0, Nat.le_refl _, setR_new_at hS⟩ fun u2 c mv l N => fin u2 mv ⟨c, N, by rw [← sz]; exact l⟩
  have z : its.toList[i]? = some v := by rw [Array.getElem?_toList]; exact hv
  exact ints_get ei z
end
end VS
set_option Elab.async false
set_option linter.all false
set_option maxRecDepth 100000
set_option maxHeartbeats 4000000
/-! The VS layer, part E5e: data as keys; the sorted list of a set. -/
namespace VS
open PySem PySem.Spec PyProof.Rows L2
/-! ### the order has no ties -/
mutual
theorem toks_inj : ∀ (x y : D), PySem.W.alike x y = true → ∀ l m, PySem.W.keyToks x ++ l = PySem.W.keyToks y ++ m → x = y ∧ l = m
  | .none, y, h, l, m, e => by cases y <;> simp [PySem.W.alike] at h; exact ⟨rfl, by simpa [PySem.W.keyToks] using e⟩
  | .bool a, y, h, l, m, e => by
    cases y <;> simp [PySem.W.alike] at h
    rename_i b
    cases a <;> cases b <;> simp [PySem.W.keyToks] at e ⊢ <;> exact e
  | .int a, y, h, l, m, e => by
    cases y <;> simp [PySem.W.alike] at h
    simp [PySem.W.keyToks] at e ⊢
    exact e
  | .str a, y, h, l, m, e => by
    cases y <;> simp [PySem.W.alike] at h
    simp only [PySem.W.keyToks, List.cons_append, List.nil_append, List.cons.injEq, Sum.inr.injEq] at e
    exact ⟨by rw [PySem.W.str_of_cps e.1], e.2⟩
  | .list xs, y, h, l, m, e => by
    cases y <;> simp only [PySem.W.alike] at h <;> try (exact absurd h (by decide))
    simp only [PySem.W.keyToks] at e
    obtain ⟨e1, e2⟩ := toksAll_inj _ _ h _ _ e
    exact ⟨by rw [e1], e2⟩
  | .tuple xs, y, h, l, m, e => by
    cases y <;> simp only [PySem.W.alike] at h <;> try (exact absurd h (by decide))
    simp only [PySem.W.keyToks] at e
    obtain ⟨e1, e2⟩ := toksAll_inj _ _ h _ _ e
    exact ⟨by rw [e1], e2⟩
  | .dict _, y, h, l, m, e => by cases y <;> simp [PySem.W.alike] at h
theorem toksAll_inj : ∀ (xs ys : List D), PySem.W.alikeAll xs ys = true → ∀ l m, PySem.W.keyToksAll xs ++ l = PySem.W.keyToksAll ys ++ m → xs = ys ∧ l = m
  | [], [], _, l, m, e => ⟨rfl, by simpa [PySem.W.keyToksAll] using e⟩
  | [], y :: ys, _, l, m, e => by
    simp only [PySem.W.keyToksAll, List.cons_append, List.nil_append, List.cons.injEq, Sum.inl.injEq] at e
    exact absurd e.1 (by decide)
  | x :: xs, [], _, l, m, e => by
    simp only [PySem.W.keyToksAll, List.cons_append, List.nil_append, List.cons.injEq, Sum.inl.injEq] at e
    exact absurd e.1 (by decide)
  | x :: xs, y :: ys, h, l, m, e => by
    obtain ⟨h1, h2⟩ := PySem.W.alike_all_cons h
    simp only [PySem.W.keyToksAll, List.cons_append, List.append_assoc, List.cons.injEq, true_and] at e
    obtain ⟨e1, e2⟩ := toks_inj x y h1 _ _ e
    obtain ⟨e3, e4⟩ := toksAll_inj xs ys h2 _ _ e2
    exact ⟨by rw [e1, e3], e4⟩
end
theorem le_antisymm {x y : D} (h : PySem.W.alike x y = true) (a : PySem.W.dataLe false id x y = true) (b : PySem.W.dataLe false id y x = true) : x = y := by
  have a' : PyProof.Rows.lexLt PyProof.Rows.itemOrd (PySem.W.keyToks y) (PySem.W.keyToks x) = false := by simpa [PySem.W.dataLe, PySem.W.sortLe] using a
  have b' : PyProof.Rows.lexLt PyProof.Rows.itemOrd (PySem.W.keyToks x) (PySem.W.keyToks y) = false := by simpa [PySem.W.dataLe, PySem.W.sortLe] using b
  have e := (PyProof.Rows.listOrd PyProof.Rows.itemOrd).total _ _ b' a'
  exact (toks_inj x y h [] [] (by rw [e])).1
theorem sortD_perm {xs ys : List D} (p : xs.Perm ys) (h : PySem.W.AllAlike xs) : sortD xs = sortD ys := by
  have T := PySem.W.sortLe_total (PyProof.Rows.listOrd PyProof.Rows.itemOrd) false (fun d : D => PySem.W.keyToks d)
  have tr : ∀ a b c : D, PySem.W.dataLe false id a b = true → PySem.W.dataLe false id b c = true → PySem.W.dataLe false id a c = true := fun a b c => T.trans a b c
  have to : ∀ a b : D, (PySem.W.dataLe false id a b || PySem.W.dataLe false id b a) = true := fun a b => by rw [Bool.or_eq_true]; exact T.total a b
  have s1 := List.pairwise_mergeSort (le := PySem.W.dataLe false id) tr to xs
  have s2 := List.pairwise_mergeSort (le := PySem.W.dataLe false id) tr to ys
  have p2 : (sortD xs).Perm (sortD ys) := ((List.mergeSort_perm _ _).trans p).trans (List.mergeSort_perm _ _).symm
  refine List.Perm.eq_of_pairwise (fun a b ha hb x y => le_antisymm (h a ?_ b ?_) x y) s1 s2 p2
  · exact (List.mergeSort_perm _ _).mem_iff.mp ha
  · exact p.mem_iff.mpr ((List.mergeSort_perm _ _).mem_iff.mp hb)
/-! ### data as keys -/
theorem nk_inj : ∀ (n m : Nat) (d e : D), nkAt n d = true → nkAt m e = true → toNk d = toNk e → d = e := by
  intro n
  induction n with
  | zero =>
    intro m d e h1 h2 q
    cases d <;> cases e <;> cases m <;> simp [nkAt, toNk] at h1 h2 q ⊢ <;> exact q
  | succ n ih =>
    intro m d e h1 h2 q
    cases d with
    | tuple xs =>
      cases e with
      | tuple ys =>
        cases m with
        | zero => simp [nkAt] at h2
        | succ m =>
          simp only [nkAt, List.all_eq_true] at h1 h2
          simp only [toNk, NestedKey.tup.injEq] at q
          congr 1
          induction xs generalizing ys with
          | nil => cases ys with
            | nil => rfl
            | cons y ys => simp [toNks] at q
          | cons x xs ih2 => cases ys with
            | nil => simp [toNks] at q
            | cons y ys =>
              simp only [toNks, List.cons.injEq] at q
              rw [ih m x y (h1 x (.head _)) (h2 y (.head _)) q.1, ih2 ys (fun z hz => h1 z (.tail _ hz)) (fun z hz => h2 z (.tail _ hz)) q.2]
      | _ => cases m <;> simp [nkAt, toNk] at h1 h2 q
    | _ => cases e <;> cases m <;> simp [nkAt, toNk] at h1 h2 q ⊢ <;> exact q
theorem nk_depth : ∀ (n : Nat) (d : D), nkAt n d = true → (toNk d).depth ≤ n := by
  intro n
  induction n with
  | zero => intro d h; cases d <;> simp [nkAt, toNk, NestedKey.depth] at h ⊢
  | succ n ih =>
    intro d h
    cases d with
    | tuple xs =>
      simp only [nkAt, List.all_eq_true] at h
      have : ∀ ys : List D, (∀ y ∈ ys, nkAt n y = true) → NestedKey.depthAll (toNks ys) ≤ n := by
        intro ys
        induction ys with
        | nil => intro _; simp [toNks, NestedKey.depthAll]
        | cons y ys ih2 =>
          intro hy
          have := ih y (hy y (.head _))
          have := ih2 fun z hz => hy z (.tail _ hz)
          simp only [toNks, NestedKey.depthAll]
          omega
      have := this xs h
      simp only [toNk, NestedKey.depth]
      omega
    | _ => simp [nkAt, toNk, NestedKey.depth] at h ⊢
section
variable {X : Cx} {B : Av} {H : Hp} {pins : List (Addr × Obj)} {σ : L2.St} {s : Shared}
theorem nk_at (I : Inv X pins σ H s) : ∀ (n : Nat) (d : D) (v : V) (u : Value), nkAt n d = true → Dn X.K B H v d → RelV v u → NestedIs s.heap (toNk d) u ∧ Reads s.heap u d [] := by
  intro n
  have base : ∀ (d : D) (v : V) (u : Value), nkAt 0 d = true → Dn X.K B H v d → RelV v u → NestedIs s.heap (toNk d) u ∧ Reads s.heap u d [] := by
    intro d v u h x r
    cases x <;> simp [nkAt] at h
    · cases r; exact ⟨.none, .none⟩
    · obtain ⟨t, rfl⟩ := r; exact ⟨.int _ t, .int _ t⟩
    · obtain ⟨t, rfl⟩ := r; exact ⟨.text _ t, .str _ t⟩
  induction n with
  | zero => exact base
  | succ n ih =>
    intro d v u h x r
    have tup : ∀ (a : Addr) (vs : List V) (ds : List D), SqT X.K H a vs → DnAll X.K B H vs ds → nkAt (n + 1) (.tuple ds) = true → NestedIs s.heap (toNk (.tuple ds)) (.ref a) ∧ Reads s.heap (.ref a) (.tuple ds) [] := by
      intro a vs ds hs hx hn
      obtain ⟨its, rv, ⟨o, ho, hc, m, hd⟩, _⟩ := I.tuple hs
      simp only [nkAt, List.all_eq_true] at hn
      have key : ∀ (vs : List V) (ds : List D) (us : List Value), DnAll X.K B H vs ds → Vals vs us → (∀ d ∈ ds, nkAt n d = true) → NestedAll s.heap (toNks ds) us ∧ ReadsAll s.heap us ds [] := by
        intro vs ds us hx
        induction hx using DnAll.rec (motive_1 := fun _ _ _ => True) generalizing us with
        | nil => intro r _; cases r; exact ⟨.nil, .nil⟩
        | cons h t _ it =>
          intro r hn
          cases r with
          | cons r1 r2 =>
            obtain ⟨a1, a2⟩ := ih _ _ _ (hn _ (.head _)) h r1
            obtain ⟨b1, b2⟩ := it _ r2 fun z hz => hn z (.tail _ hz)
            exact ⟨.cons a1 b1, .cons a2 b2⟩
        | _ => trivial
      obtain ⟨k1, k2⟩ := key vs ds its hx rv hn
      exact ⟨.tup ho hc hd (by simpa using k1), .tuple ho hc hd (by simpa using k2)⟩
    cases x with
    | tup e m t => cases r; exact tup _ _ _ (.of e) t h
    | tupK k t => cases r; exact tup _ _ _ (.inr k) t h
    | non => exact base _ _ _ rfl .non r
    | int i => exact base _ _ _ rfl (.int i) r
    | str z => exact base _ _ _ rfl (.str z) r
    | bl b => simp [nkAt] at h
    | lst _ _ _ => simp [nkAt] at h
    | scr _ _ _ => simp [nkAt] at h
    | scrK _ _ => simp [nkAt] at h
    | dic _ _ _ _ => simp [nkAt] at h
end
/-! ### sorted -/
section
variable {P : Program} {w : World} {A : Around} {E : Value → Shared → Prop} {s : Shared} {a : Addr} {L : List Rw} {es : Array (Int × Value)} {ep : Nat} {t : SetTable}
theorem refs_of : ∀ {vs : List Value} {L : List Rw}, (∀ v ∈ vs, ∃ r ∈ L, v = Value.ref r.2) → ∃ L1 : List Rw, vs = L1.map (fun r => Value.ref r.2) ∧ ∀ r ∈ L1, r ∈ L
  | [], _, _ => ⟨[], rfl, fun _ h => (nomatch h)⟩
  | v :: vs, L, h => by
    obtain ⟨r, m, e⟩ := h v (.head _)
    obtain ⟨L1, e1, k⟩ := refs_of fun u hu => h u (.tail _ hu)
    refine ⟨r :: L1, by rw [e, e1, List.map_cons], fun z hz => ?_⟩
    rcases List.mem_cons.mp hz with q | q
    · rw [q]; exact m
    · exact k z q
theorem sorted_nset (R : NSet w s.heap a L es ep t) (hh : A.handled = none) (f : Rw → D) (rd : ∀ r ∈ L, Reads s.heap (.ref r.2) (f r) []) (al : PySem.W.AllAlike (L.map f)) (so : PySem.W.Sortable (L.map f)) (dp : ∀ r ∈ L, (f r).depth ≤ 60) (hu : A.units + 66 < cLine) {Q : Value → Shared → Prop}
    (q : ∀ s' p (out : List Value) (c : Nat) (L' : List Rw), (∀ b o, s.heap.get? b = some o → s'.heap.get? b = some o) → s'.gens = s.gens → s'.os = s.os → s.heap.objs.size ≤ p →
      s'.heap.get? p = some (seqObj "list" out.toArray c) → L'.Perm L → out = (L'.mergeSort (PySem.W.dataLe false f)).map (fun r => Value.ref r.2) → Q (.ref p) s') :
    wpAny (model P w) A (call (.builtin "sorted") [.ref a]) Q E s := by
  obtain ⟨o, ho, ex, hd⟩ := R.obj
  have n1 := R.size
  have fw := R.few
  refine Calls.call_function_entry kind_sorted plain_sorted entry_sorted (args_sorted1 _) ?_
  unfold Builtin.«sorted»
  refine wpAny_bind (m := checkCount "sorted" 1 1 _) (wpAny_pure (wpAny_bind (collect_set (A := A.in1) hh ⟨o, ho, ex.1, hd⟩ R.fit (by unfold scanBound; omega) R.tab.ris R.led fun s1 vs k1 z1 g1 o1 pm => ?_)))
  rw [R.row, List.map_map] at pm
  obtain ⟨L1, e1, m1⟩ := refs_of (vs := vs) (L := L) fun v hv => by
    obtain ⟨r, m, e⟩ := List.mem_map.mp (pm.mem_iff.mp hv)
    exact ⟨r, m, e.symm⟩
  subst e1
  -- one place, one key
  have inj : ∀ x ∈ L, ∀ y ∈ L, Value.ref x.2 = Value.ref y.2 → x = y := fun x hx y hy e => by
    injection e with e
    obtain ⟨a1, _⟩ := R.at_ x hx
    obtain ⟨a2, _⟩ := R.at_ y hy
    rw [e] at a1
    exact Prod.ext (NestedIs.inj _ _ _ a1 a2) e
  have nd : L.Nodup := List.Pairwise.of_map _ (fun _ _ h e => h (congrArg _ e)) R.nd
  have ndr : (L.map fun r => Value.ref r.2).Nodup := List.pairwise_map.mpr (nd.imp_of_mem fun hx hy h e => h (inj _ hx _ hy e))
  have nd1 : L1.Nodup := List.Pairwise.of_map _ (fun _ _ h e => h (congrArg (fun r : Rw => Value.ref r.2) e)) (pm.nodup_iff.mpr ndr)
  have p1 : L1.Perm L := (List.perm_ext_iff_of_nodup nd1 nd).mpr fun r => ⟨m1 r, fun hr => by
    obtain ⟨y, hy, e⟩ := List.mem_map.mp (pm.mem_iff.mpr (List.mem_map.mpr ⟨r, hr, rfl⟩))
    rw [← inj y (m1 y hy) r hr e]
    exact hy⟩
  have l1 : L1.length < 64 := by rw [p1.length_eq]; exact fw
  refine wpAny_bind (wpAny_newList ?_ (by rw [List.length_map, sizeLine_eq]; omega))
  have at1 : (s1.heap.push (seqObj "list" (L1.map fun r => Value.ref r.2).toArray 0)).get? s1.heap.objs.size = some (seqObj "list" (L1.map fun r => Value.ref r.2).toArray 0) := Heap.get?_push_size _ rfl
  have each : ∀ L2 : List Rw, PySem.W.EachIs (fun (v : Value) (r : Rw) => v = .ref r.2) (L2.map fun r => Value.ref r.2) L2 := fun L2 => by
    induction L2 with
    | nil => exact .nil
    | cons r L2 ih => exact .cons rfl ih
  have back : ∀ {out : List Value} {L2 : List Rw}, PySem.W.EachIs (fun (v : Value) (r : Rw) => v = .ref r.2) out L2 → out = L2.map fun r => Value.ref r.2 := fun x => by
    induction x with
    | nil => rfl
    | cons e _ ih => rw [e, ih, List.map_cons]
  have rds : ∀ L2 : List Rw, (∀ r ∈ L2, r ∈ L) → PySem.W.EachIs (fun (v : Value) (r : Rw) => ∃ as, Reads (s1.heap.push (seqObj "list" (L1.map fun r => Value.ref r.2).toArray 0)) v (f r) as ∧ s1.heap.objs.size ∉ as) (L2.map fun r => Value.ref r.2) L2 := fun L2 h => by
    induction L2 with
    | nil => exact .nil
    | cons r L2 ih => exact .cons ⟨[], PyProof.Rows.Reads.keeps (fun b o e => Heap.get?_push_of_some _ (k1 b o e)) (rd r (h r (.head _))), by simp⟩ (ih fun z hz => h z (.tail _ hz))
  refine wpAny_bind (wpAny_holding (PySem.W.list_sort_data (s := { s1 with heap := s1.heap.push (seqObj "list" (L1.map fun r => Value.ref r.2).toArray 0) }) (bs := L1) (enc := f) (R := fun (v : Value) (r : Rw) => v = .ref r.2) at1 (each L1) (rds L1 m1)
    (fun x hx y hy => al x ((p1.map f).mem_iff.mp hx) y ((p1.map f).mem_iff.mp hy)) (so.elim (fun h => .inl fun x hx => h x ((p1.map f).mem_iff.mp hx)) fun h => .inr fun x hx => h x ((p1.map f).mem_iff.mp hx)) (by rw [sizeLine_eq]; omega) (fun r hr => ?_) fun out lo eo => ?_))
  · have := dp r (m1 r hr)
    show A.units + 1 + 1 + (f r).depth < cLine
    omega
  obtain ⟨c, hc⟩ := sortedHeap_at (out := out.toArray) at1
  refine wpAny_pure ⟨_, rfl, q _ s1.heap.objs.size out c L1 (fun b u e => ?_) g1 o1 z1 hc p1 (back eo)⟩
  have e2 := k1 b u e
  have lt := Heap.lt_size e2
  refine (sortedHeap_old (Nat.ne_of_lt lt) (by rw [size_push']; exact Nat.lt_succ_of_lt lt)).trans ?_
  exact Heap.get?_push_of_some _ e2
end
end VS
set_option Elab.async false
set_option linter.all false
set_option maxRecDepth 100000
set_option maxHeartbeats 4000000
/-! The VS layer, part E5: sorted(set(x)). -/
namespace VS
open PySem PySem.Spec PyProof.Rows L2
/-! ### plain facts -/
theorem nk_data : ∀ (n : Nat) (d : D), nkAt n d = true → (toNk d).data = d := by
  intro n
  induction n with
  | zero => intro d h; cases d <;> simp [nkAt, toNk, NestedKey.data] at h ⊢
  | succ n ih =>
    intro d h
    cases d with
    | tuple xs =>
      simp only [nkAt, List.all_eq_true] at h
      simp only [toNk, NestedKey.data]
      congr 1
      induction xs with
      | nil => simp [toNks, NestedKey.datas]
      | cons x xs ih2 => simp only [toNks, NestedKey.datas, ih x (h x (.head _)), ih2 fun z hz => h z (.tail _ hz)]
    | _ => simp [nkAt, toNk, NestedKey.data] at h ⊢
theorem dedup_mem {n : Nat} : ∀ {xs : List D}, (∀ x ∈ xs, nkAt n x = true) → ∀ d, d ∈ dedup xs ↔ d ∈ xs
  | [], _, d => by simp [dedup]
  | x :: xs, h, d => by
    have ih := dedup_mem (fun z hz => h z (.tail _ hz)) (xs := xs)
    simp only [dedup]
    split
    · rename_i c
      obtain ⟨y, hy, e⟩ := List.any_eq_true.mp c
      have hy' := (ih y).mp hy
      have e' : x = y := nk_inj n n x y (h x (.head _)) (h y (.tail _ hy')) (of_decide_eq_true e)
      rw [ih d]
      constructor
      · exact .tail _
      · intro m
        rcases List.mem_cons.mp m with q | q
        · rw [q, e']; exact hy'
        · exact q
    · rw [List.mem_cons, List.mem_cons, ih d]
theorem dedup_nodup : ∀ (xs : List D), ((dedup xs).map toNk).Nodup
  | [] => by simp [dedup]
  | x :: xs => by
    simp only [dedup]
    split
    · exact dedup_nodup xs
    · rename_i c
      rw [List.map_cons]
      refine List.nodup_cons.mpr ⟨fun m => c ?_, dedup_nodup xs⟩
      obtain ⟨y, hy, e⟩ := List.mem_map.mp m
      exact List.any_eq_true.mpr ⟨y, hy, decide_eq_true e.symm⟩
theorem dedup_nd (xs : List D) : (dedup xs).Nodup := List.Pairwise.of_map _ (fun _ _ h e => h (congrArg _ e)) (dedup_nodup xs)
theorem ints_data {xs : List D} (h : xs.all isIntD = true) : ∃ ns : List Int, xs = ns.map .int := by
  induction xs with
  | nil => exact ⟨[], rfl⟩
  | cons x xs ih =>
    rw [List.all_cons, Bool.and_eq_true] at h
    obtain ⟨ns, e⟩ := ih h.2
    cases x <;> simp [isIntD] at h
    rename_i i
    exact ⟨i :: ns, by rw [e, List.map_cons]⟩
theorem alike_intsD (ns : List Int) : PySem.W.AllAlike (ns.map .int) := fun x hx y hy => by
  obtain ⟨i, _, rfl⟩ := List.mem_map.mp hx
  obtain ⟨j, _, rfl⟩ := List.mem_map.mp hy
  simp [PySem.W.alike]
/-- the rows of a list of tuples -/
def addrV : V → Addr
  | .ref a => a
  | _ => 0
def rowsV (vs : List V) (ds : List D) : List Rw := (vs.zip ds).map fun p => (toNk p.2, addrV p.1)
section
variable {K : PySem.W.Frag} {B : Av} {H : Hp}
theorem tup_ref {v : V} {d : D} (h : Dn K B H v d) (t : tupNE d = true) : ∃ a, v = .ref a := by
  cases h <;> simp [tupNE] at t <;> exact ⟨_, rfl⟩
theorem rows_its : ∀ {vs : List V} {ds : List D} {us : List Value}, DnAll K B H vs ds → Vals vs us → ds.all tupNE = true → us = (rowsV vs ds).map fun r => Value.ref r.2
  | _, _, _, .nil, .nil, _ => rfl
  | _, _, _, .cons h t, .cons r rs, k => by
    rw [List.all_cons, Bool.and_eq_true] at k
    obtain ⟨a, rfl⟩ := tup_ref h k.1
    cases r
    have ih := rows_its t rs k.2
    unfold rowsV at ih ⊢
    rw [List.zip_cons_cons, List.map_cons, List.map_cons, ← ih]
    rfl
theorem rows_of : ∀ {vs : List V} {ds : List D}, DnAll K B H vs ds → ds.all tupNE = true → ∀ r ∈ rowsV vs ds, ∃ d ∈ ds, r.1 = toNk d ∧ Dn K B H (.ref r.2) d
  | _, _, .nil, _, r, hr => by cases hr
  | _, _, .cons h t, k, r, hr => by
    rw [List.all_cons, Bool.and_eq_true] at k
    unfold rowsV at hr
    rw [List.zip_cons_cons, List.map_cons] at hr
    rcases List.mem_cons.mp hr with e | e
    · obtain ⟨a, rfl⟩ := tup_ref h k.1
      exact ⟨_, .head _, by rw [e], by rw [e]; exact h⟩
    · obtain ⟨d, m, q⟩ := rows_of t k.2 r e
      exact ⟨d, .tail _ m, q⟩
theorem rows_all : ∀ {vs : List V} {ds : List D}, DnAll K B H vs ds → ∀ d ∈ ds, ∃ r ∈ rowsV vs ds, r.1 = toNk d
  | _, _, .nil, d, hd => by cases hd
  | _, _, .cons (v := v) h t, d, hd => by
    unfold rowsV
    rw [List.zip_cons_cons, List.map_cons]
    rcases List.mem_cons.mp hd with e | e
    · exact ⟨_, .head _, by rw [e]⟩
    · obtain ⟨r, m, q⟩ := rows_all t d e
      exact ⟨r, .tail _ m, q⟩
end
section
variable {X : Cx} {C : Wd} {a : Expr} {ma : M O} {ta : TE} {q q2 pos p2 : Pos}
theorem sorted_list {pins : List (Addr × Obj)} {σ : L2.St} {H : Hp} {s s1 : Shared} (I : Inv X pins σ H s) (k : ∀ b o, s.heap.get? b = some o → s1.heap.get? b = some o) (g : s1.gens = s.gens) (o : s1.os = s.os) {p : Addr} (hp : s.heap.objs.size ≤ p) {vs : List V} {us : List Value} {c : Nat}
    (at_ : s1.heap.get? p = some (seqObj "list" us.toArray c)) (rv : Vals vs us) (len : vs.length ≤ sizeLine) : H p = none ∧ Inv X pins σ (upd H p (.lst vs)) s1 := by
  have hn : H p = none := I.hok.fresh hp
  exact ⟨hn, I.call' (ch := []) o (Un.laid k hp hn) (I.hok.laid k hp ⟨len, us, c, rv, at_⟩) (by rw [g]; exact I.bare) fun _ z => (nomatch z)⟩
set_option maxHeartbeats 8000000 in
theorem pe_sset (hc : X.calm = true) (hu : X.A.units + 70 < cLine) (hg : Gl X "sorted") (hm : X.mg "sorted" = none) (hg2 : Gl X "set") (hm2 : X.mg "set" = none) (ha : PE X a ta) (hs : starEach [a] X.env = (false, eval a X.env) :: starEach [] X.env) :
    PE X (.Call (.Name "sorted" q) [.Call (.Name "set" q2) [a] [] p2] [] pos) (fun σ H Q => ta σ H fun x H1 => r1 X.K .sset x H1 Q) := by
  refine ⟨fun pins s σ H Q I h => ?_⟩
  refine Call_ (ld_blt I hg hm PyProof.Rows.boot_sorted (PyProof.Rows.callWith_builtin1 (PyProof.Rows.args_cons ?_ rfl) rfl rfl))
  refine Call_ (ld_blt I hg2 hm2 PyProof.Rows.boot_set (PyProof.Rows.callWith_type1 (PyProof.Rows.args_cons (thn (ha.run pins s σ H _ I h) fun v s1 ⟨x, H1, I1, rv, q1⟩ => PyProof.Rows.args_nil ?_) hs) hs rfl))
  obtain ⟨B, d, t, hd, tr, e, qq⟩ := q1.open
  cases d <;> simp only [opT] at e <;> try (cases e)
  rename_i xs
  split at e
  case isFalse => cases e
  rename_i c
  cases e
  rw [Bool.and_eq_true, decide_eq_true_eq] at c
  obtain ⟨l, vs, rfl, ea, dn⟩ := hd.list
  cases rv
  obtain ⟨its, rv, pl, hz⟩ := I1.list (.of ea)
  have hh := I1.ok.hd hc
  by_cases ci : xs.all isIntD = true
  · -- ints
    obtain ⟨ns, rfl⟩ := ints_data ci
    have ev : vs = ns.map V.int := by
      clear qq c rv pl hz ea hd ci
      induction ns generalizing vs with
      | nil => cases dn; rfl
      | cons n ns ih =>
        cases dn with
        | cons h t =>
          cases h
          rw [ih _ t, List.map_cons]
    subst ev
    rw [List.length_map] at c
    refine set_of_ints ns hh pl.isList (by simpa using rv.ints) c.2 fun h' tk n R ln kp => PyProof.Rows.args_nil ?_
    refine sorted_set (s := { s1 with heap := h', toks := tk }) R hh (by omega) fun s2 p out c2 ms k2 g2 o2 hp at2 im pw mem len => ?_
    have k3 : ∀ b o, s1.heap.get? b = some o → s2.heap.get? b = some o := fun b o e => k2 b o (kp b o e)
    have hp3 : s1.heap.objs.size ≤ p := Nat.le_trans (Nat.le_of_lt R.lt) hp
    have vm : Vals (ms.map V.int) out.toList := by
      clear qq pw mem len at2
      generalize out.toList = us at im
      induction im with
      | nil => exact .nil
      | cons k t _ ih => exact .cons ⟨t, rfl⟩ ih
    obtain ⟨hn, J⟩ := sorted_list I1 k3 g2 o2 hp3 (us := out.toList) (by simpa using at2) vm (by rw [List.length_map, len]; exact Nat.le_trans (Nat.le_of_lt (by omega : n < 64)) (by decide))
    refine ⟨.ref p, _, J, rfl, qq _ _ (same_new hn) ?_⟩
    have es : sortD (dedup (ns.map .int)) = ms.map .int := by
      have pm : (dedup (ns.map .int)).Perm (ms.map PyData.int) := by
        refine (List.perm_ext_iff_of_nodup (dedup_nd _) (List.pairwise_map.mpr (pw.imp fun h e => by injection e with e; omega))).mpr fun d => ?_
        rw [dedup_mem (n := 0) (fun x hx => by obtain ⟨i, _, rfl⟩ := List.mem_map.mp hx; rfl)]
        constructor
        · intro m
          obtain ⟨i, hi, rfl⟩ := List.mem_map.mp m
          exact List.mem_map.mpr ⟨i, (mem i).mpr (decide_eq_true hi), rfl⟩
        · intro m
          obtain ⟨i, hi, rfl⟩ := List.mem_map.mp m
          exact List.mem_map.mpr ⟨i, of_decide_eq_true ((mem i).mp hi), rfl⟩
      rw [← sortD_perm pm.symm (alike_intsD ms)]
      exact sortD_ints (.refl _) (pw.imp fun h => Int.le_of_lt h)
    rw [es]
    exact .newL hn (vals_ints ms)
  · -- tuples
    rw [Bool.or_eq_true] at c
    have c1 := c.1.resolve_left ci
    simp only [Bool.and_eq_true] at c1
    obtain ⟨⟨⟨c2, c3⟩, c4⟩, c5⟩ := c1
    have nk8 : ∀ x ∈ xs, nkAt 8 x = true := List.all_eq_true.mp c3
    have row := rows_of dn c2
    have rowat : ∀ r ∈ rowsV vs xs, NkAt s1.heap r ∧ Reads s1.heap (.ref r.2) r.1.data [] ∧ r.1.data ∈ xs ∧ Dn X.K B H1 (.ref r.2) r.1.data := fun r hr => by
      obtain ⟨d, md, e1, e2⟩ := row r hr
      obtain ⟨a1, a2⟩ := nk_at I1 8 d _ _ (nk8 d md) e2 rfl
      have e3 : r.1.data = d := by rw [e1]; exact nk_data 8 d (nk8 d md)
      exact ⟨⟨by rw [e1]; exact a1, by rw [e1]; exact nk_depth 8 d (nk8 d md)⟩, by rw [e3]; exact a2, by rw [e3]; exact md, by rw [e3]; exact e2⟩
    have lks : (rowsV vs xs).length = xs.length := by unfold rowsV; rw [List.length_map, List.length_zip, dn.len, Nat.min_self]
    refine set_of_tups (rowsV vs xs) hh pl.isList (by simpa using rows_its dn rv c2) (fun r hr => (rowat r hr).1) (by rw [lks]; exact c.2) (by omega) fun h' tk L es ep t N g kp => PyProof.Rows.args_nil ?_
    have sub : ∀ r ∈ L, r ∈ rowsV vs xs := fun r hr => List.mem_of_mem_take (g.sub r hr)
    refine sorted_nset (s := { s1 with heap := h', toks := tk }) N hh (fun r => r.1.data) (fun r hr => PyProof.Rows.Reads.keeps kp (rowat r (sub r hr)).2.1) (fun x hx y hy => ?_) (.inl fun x hx => ?_) (fun r hr => ?_) (by omega) fun s2 p out c2 L' k2 g2 o2 hp at2 pm eo => ?_
    · obtain ⟨r, hr, rfl⟩ := List.mem_map.mp hx
      obtain ⟨u, hu2, rfl⟩ := List.mem_map.mp hy
      exact alikes_ok c4 _ (rowat r (sub r hr)).2.2.1 _ (rowat u (sub u hu2)).2.2.1
    · obtain ⟨r, hr, rfl⟩ := List.mem_map.mp hx
      have := List.all_eq_true.mp c2 _ (rowat r (sub r hr)).2.2.1
      unfold tupNE at this
      split at this
      · rename_i y ys e; exact ⟨y, ys, e⟩
      · cases this
    · exact (okAt_lay (List.all_eq_true.mp c5 _ (rowat r (sub r hr)).2.2.1)).2
    have k3 : ∀ b o, s1.heap.get? b = some o → s2.heap.get? b = some o := fun b o e => k2 b o (kp b o e)
    have hp3 : s1.heap.objs.size ≤ p := Nat.le_trans (Nat.le_of_lt (let ⟨_, e, _⟩ := N.obj; Heap.lt_size e)) hp
    have ps : (L'.mergeSort (PySem.W.dataLe false fun r : Rw => r.1.data)).Perm L := (List.mergeSort_perm _ _).trans pm
    have rvs : ∀ L2 : List Rw, Vals (L2.map fun r => V.ref r.2) (L2.map fun r => Value.ref r.2) := fun L2 => by
      induction L2 with
      | nil => exact .nil
      | cons r L2 ih => exact .cons rfl ih
    obtain ⟨hn, J⟩ := sorted_list I1 k3 g2 o2 hp3 at2 (by rw [eo]; exact rvs _) (by rw [List.length_map, ps.length_eq]; exact Nat.le_trans (Nat.le_of_lt N.few) (by decide))
    refine ⟨.ref p, _, J, rfl, qq _ _ (same_new hn) ?_⟩
    have es : sortD (dedup xs) = (L'.mergeSort (PySem.W.dataLe false fun r : Rw => r.1.data)).map fun r => r.1.data := by
      have e1 : (L'.mergeSort (PySem.W.dataLe false fun r : Rw => r.1.data)).map (fun r => r.1.data) = sortD (L'.map fun r => r.1.data) := by
        unfold sortD
        rw [List.map_mergeSort (s := PySem.W.dataLe false id)]
        intro a _ b _
        rfl
      rw [e1]
      have ndL : (L'.map fun r => r.1.data).Nodup := by
        have n1 : (L'.map (·.1)).Nodup := (pm.map (·.1)).nodup_iff.mpr N.nd
        have n2 : ((L'.map fun r => r.1.data).map toNk).Nodup := by
          have e2 : (L'.map fun r => r.1.data).map toNk = L'.map (·.1) := by
            rw [List.map_map]
            refine List.map_congr_left fun r hr => ?_
            obtain ⟨d, md, e3, _⟩ := row r (sub r (pm.mem_iff.mp hr))
            show toNk r.1.data = r.1
            rw [e3, nk_data 8 d (nk8 d md)]
          rw [e2]; exact n1
        exact List.Pairwise.of_map _ (fun _ _ h e => h (congrArg _ e)) n2
      have mem : ∀ d, d ∈ dedup xs ↔ d ∈ L'.map fun r => r.1.data := fun d => by
        rw [dedup_mem nk8]
        constructor
        · intro m
          obtain ⟨r, hr, er⟩ := rows_all dn d m
          have := g.all r (by rw [List.take_length]; exact hr)
          obtain ⟨u, hu2, eu⟩ := List.mem_map.mp this
          exact List.mem_map.mpr ⟨u, pm.mem_iff.mpr hu2, by rw [eu, er]; exact nk_data 8 d (nk8 d m)⟩
        · intro m
          obtain ⟨r, hr, rfl⟩ := List.mem_map.mp m
          exact (rowat r (sub r (pm.mem_iff.mp hr))).2.2.1
      exact sortD_perm ((List.perm_ext_iff_of_nodup (dedup_nd xs) ndL).mpr mem) fun x hx y hy => alikes_ok c4 _ ((dedup_mem nk8 x).mp hx) _ ((dedup_mem nk8 y).mp hy)
    rw [es]
    refine .newL hn ?_
    have all : ∀ L2 : List Rw, (∀ r ∈ L2, r ∈ L) → DnAll X.K B H1 (L2.map fun r => V.ref r.2) (L2.map fun r => r.1.data) := fun L2 h => by
      induction L2 with
      | nil => exact .nil
      | cons r L2 ih => exact .cons (rowat r (sub r (h r (.head _)))).2.2.2 (ih fun z hz => h z (.tail _ hz))
    exact all _ fun r hr => ps.mem_iff.mp hr
theorem se_sset (hK : C.K = X.K) (hc : X.calm = true) (hu : X.A.units + 70 < cLine) (hg : Gl X "sorted") (hm : X.mg "sorted" = none) (hg2 : Gl X "set") (hm2 : X.mg "set" = none) (ha : PE X a (tO C ma)) (hs : starEach [a] X.env = (false, eval a X.env) :: starEach [] X.env) :
    PE X (.Call (.Name "sorted" q) [.Call (.Name "set" q2) [a] [] p2] [] pos) (tE C (mApp .sset [ma])) := (pe_sset hc hu hg hm hg2 hm2 ha hs).mono fun σ H Q h => by
  rw [← hK]
  exact one_of h
end
end VS
set_option Elab.async false
set_option linter.all false
set_option maxRecDepth 100000
set_option maxHeartbeats 1000000
/-! The VS layer, part F: statements. -/
namespace VS
open PySem PySem.Spec PyProof.Rows L2

inductive Fl where
  | next | brk | cont
  | ret (t : T)
/-- the slots that must hold what they hold: parameters that are a caller's own -/
abbrev Lks := List Bool
def lkd (lk : Lks) (i : Nat) : Bool := lk.getD i false
def Lk (lk : Lks) (σ σ' : L2.St) : Prop := ∀ i, lkd lk i = true → σ'[i]? = σ[i]?
theorem Lk.refl {lk : Lks} {σ : L2.St} : Lk lk σ σ := fun _ _ => rfl
theorem Lk.trans {lk : Lks} {σ σ' σ2 : L2.St} (a : Lk lk σ σ') (b : Lk lk σ' σ2) : Lk lk σ σ2 := fun i h => (b i h).trans (a i h)
/-- a statement's outcome, as a reading -/
def PostS (C : Wd) (lk : Lks) (U : Av) (σ : L2.St) (H : Hp) (ρ : Env) (D : Ends) : R Fl → Prop
  | .ok (.ret t) ρ' => ∀ v σ' H', RelR C.K U σ' H' ρ' v t → Ext (Own σ ρ) H (Both (Own σ' ρ') (OwnT t v)) H' → Lk lk σ σ' → D.rt v H'
  | .ok .next ρ' => ∀ σ' H', Rel C.K U H' σ' ρ' → Ext (Own σ ρ) H (Own σ' ρ') H' → Lk lk σ σ' → D.nx σ' H'
  | .ok .brk ρ' => ∀ σ' H', Rel C.K U H' σ' ρ' → Ext (Own σ ρ) H (Own σ' ρ') H' → Lk lk σ σ' → D.bk σ' H'
  | .ok .cont ρ' => ∀ σ' H', Rel C.K U H' σ' ρ' → Ext (Own σ ρ) H (Own σ' ρ') H' → Lk lk σ σ' → D.ct σ' H'
  | .exn x ρ' => ∀ c dx σ' H', RX C.CA c dx x → Rel C.K U H' σ' ρ' → Ext (Own σ ρ) H (Own σ' ρ') H' → Lk lk σ σ' → C.E c dx σ' H'
  | .stk => False
def tS (C : Wd) (lk : Lks) (m : M Fl) : TS := fun D σ H => ∃ U ρ, Rel C.K U H σ ρ ∧ PostS C lk U σ H ρ D (m ρ)
section
variable {C : Wd} {lk : Lks} {U : Av} {σ σ1 : L2.St} {H H1 : Hp} {ρ ρ1 : Env} {D : Ends} {α β : Type}
theorem PostS.shift {r : R Fl} (h : PostS C lk U σ H ρ D r) (x : Ext (Own σ ρ) H (Own σ1 ρ1) H1) (l : Lk lk σ σ1) : PostS C lk U σ1 H1 ρ1 D r := by
  cases r with
  | ok fl ρ' =>
    cases fl with
    | next => exact fun σ' H' R y l2 => h σ' H' R (x.trans y) (l.trans l2)
    | brk => exact fun σ' H' R y l2 => h σ' H' R (x.trans y) (l.trans l2)
    | cont => exact fun σ' H' R y l2 => h σ' H' R (x.trans y) (l.trans l2)
    | ret t => exact fun v σ' H' R y l2 => h v σ' H' R (x.trans y) (l.trans l2)
  | exn e ρ' => exact fun c dx σ' H' rx R y l2 => h c dx σ' H' rx R (x.trans y) (l.trans l2)
  | stk => exact h
/-- an expression, then the rest of the statement -/
theorem PostS.seq {RR1 : Hp → Env → β → α → Prop} {OW1 : β → α → Av} {Q1 : β → Hp → Prop} {m : M α} {f : α → M Fl}
    (h : PostS C lk U σ H ρ D (bnd m f ρ))
    (k : ∀ a ρ1 b H1, RR1 H1 ρ1 b a → Ext (Own σ ρ) H (Both (Own σ ρ1) (OW1 b a)) H1 → PostS C lk U σ H ρ D (f a ρ1) → Q1 b H1) : Post C U σ RR1 OW1 H ρ Q1 (m ρ) := by
  unfold bnd at h
  cases e : m ρ with
  | ok a ρ1 =>
    rw [e] at h
    exact fun b H' rr y => k a ρ1 b H' rr y h
  | exn x ρ1 =>
    rw [e] at h
    exact fun c dx H' rx R y => h c dx σ H' rx R y Lk.refl
  | stk =>
    rw [e] at h
    exact h
/-- a statement, then more -/
def seqM (m n : M Fl) : M Fl := bnd m fun fl => match fl with
  | .next => n
  | .brk => ret .brk
  | .cont => ret .cont
  | .ret t => ret (.ret t)
theorem PostS.then {m n : M Fl} (h : PostS C lk U σ H ρ D (seqM m n ρ)) : PostS C lk U σ H ρ { D with nx := tS C lk n D } (m ρ) := by
  unfold seqM bnd at h
  cases e : m ρ with
  | ok fl ρ1 =>
    rw [e] at h
    cases fl with
    | next => exact fun σ' H' R y l => ⟨U, ρ1, R, PostS.shift h y l⟩
    | brk => exact h
    | cont => exact h
    | ret t => exact h
  | exn x ρ1 =>
    rw [e] at h
    exact h
  | stk =>
    rw [e] at h
    exact h
theorem PostS.imp {D' : Ends} {r : R Fl} (h : PostS C lk U σ H ρ D r) (k : ∀ σ' H' ρ', Rel C.K U H' σ' ρ' → Ext (Own σ ρ) H (Own σ' ρ') H' → Lk lk σ σ' → (D.nx σ' H' → D'.nx σ' H') ∧ (D.bk σ' H' → D'.bk σ' H') ∧ (D.ct σ' H' → D'.ct σ' H')) (kr : ∀ v H', D.rt v H' → D'.rt v H') : PostS C lk U σ H ρ D' r := by
  cases r with
  | ok fl ρ' =>
    cases fl with
    | next => exact fun σ' H' R y l2 => (k σ' H' ρ' R y l2).1 (h σ' H' R y l2)
    | brk => exact fun σ' H' R y l2 => (k σ' H' ρ' R y l2).2.1 (h σ' H' R y l2)
    | cont => exact fun σ' H' R y l2 => (k σ' H' ρ' R y l2).2.2 (h σ' H' R y l2)
    | ret t => exact fun v σ' H' R y l2 => kr v H' (h v σ' H' R y l2)
  | exn e ρ' => exact h
  | stk => exact h
end
section
variable {K : PySem.W.Frag} {U : Av} {σ : L2.St} {H : Hp} {ρ : Env} {v : V} {t : T} {i : Nat}
theorem own_put {a : Addr} (h : Own (σ.set i (some v)) (ρ.set i (some t)) a) : Own σ ρ a ∨ OwnT t v a := by
  obtain ⟨j, u, e1, e2, e3⟩ := h
  by_cases hj : i = j
  · subst hj
    by_cases hl : i < ρ.length
    · rw [List.getElem?_set_self hl] at e1
      cases e1
      by_cases hs : i < σ.length
      · rw [List.getElem?_set_self hs] at e3
        cases e3
        exact .inr ⟨e2, rfl⟩
      · rw [List.getElem?_eq_none (by simpa using hs)] at e3
        cases e3
    · rw [List.getElem?_eq_none (by simpa using hl)] at e1
      cases e1
  · rw [List.getElem?_set_ne hj] at e1 e3
    exact .inl ⟨j, u, e1, e2, e3⟩
/-- a slot takes a value -/
theorem RelR.put (R : RelR K U σ H ρ v t) (hi : i < ρ.length) : Rel K U H (σ.set i (some v)) (ρ.set i (some t)) := by
  have hs : i < σ.length := by rw [R.rel.len]; exact hi
  have m : Mv (Both (Both U (OwnT t v)) (Own σ ρ)) H (Both U (Own (σ.set i (some v)) (ρ.set i (some t)))) H := Mv.less fun a z => by
    rcases z with z | z
    · exact .inl (.inl z)
    · rcases own_put z with z | z
      · exact .inr z
      · exact .inl (.inr z)
  refine ⟨by rw [List.length_set, List.length_set]; exact R.rel.len, fun j u f => ?_, fun a z => R.rel.tr a (.inl z), fun a z => ?_, fun j k u w a f1 f2 f3 g1 g2 g3 => ?_⟩
  · by_cases hj : i = j
    · subst hj
      rw [List.getElem?_set_self hi] at f
      cases f
      exact ⟨v, List.getElem?_set_self hs, R.val.mv m fun _ _ _ _ h => h⟩
    · rw [List.getElem?_set_ne hj] at f
      obtain ⟨w, g1, g2⟩ := R.rel.slot j u f
      exact ⟨w, by rw [List.getElem?_set_ne hj]; exact g1, g2.mv m fun _ _ _ _ h => h⟩
  · rcases own_put z with z | z
    · exact fun u => R.rel.nu a z (.inl u)
    · exact R.nu a z
  · have other : ∀ {j : Nat} {u : T}, i ≠ j → (ρ.set i (some t))[j]? = some (some u) → u.own = true → (σ.set i (some v))[j]? = some (some (.ref a)) → Own σ ρ a := fun {j u} hj f1 f2 f3 => by
      rw [List.getElem?_set_ne hj] at f1 f3
      exact ⟨j, u, f1, f2, f3⟩
    have here : ∀ {u : T}, (ρ.set i (some t))[i]? = some (some u) → u.own = true → (σ.set i (some v))[i]? = some (some (.ref a)) → OwnT t v a := fun {u} f1 f2 f3 => by
      rw [List.getElem?_set_self hi] at f1
      rw [List.getElem?_set_self hs] at f3
      cases f1
      cases f3
      exact ⟨f2, rfl⟩
    by_cases hj : i = j
    · subst hj
      by_cases hk : i = k
      · exact hk
      · exact absurd (.inr (here f1 f2 f3)) (R.rel.nu a (other hk g1 g2 g3))
    · by_cases hk : i = k
      · subst hk
        exact absurd (.inr (here g1 g2 g3)) (R.rel.nu a (other hj f1 f2 f3))
      · rw [List.getElem?_set_ne hj] at f1 f3
        rw [List.getElem?_set_ne hk] at g1 g3
        exact R.rel.inj j k u w a f1 f2 f3 g1 g2 g3
theorem lk_set {lk : Lks} {w : Option V} (h : lkd lk i = false) : Lk lk σ (σ.set i w) := fun j hj => by
  by_cases e : i = j
  · subst e; rw [h] at hj; cases hj
  · rw [List.getElem?_set_ne e]
end
/-- name = value -/
def put (lk : Lks) (i : Nat) (t : T) : M Fl := fun ρ => if lkd lk i = false ∧ i < ρ.length then .ok .next (ρ.set i (some t)) else .stk
def mSet (lk : Lks) (i : Nat) (m : M T) : M Fl := bnd m (put lk i)
def mRet (m : M T) : M Fl := bnd m fun t => ret (.ret t)
def mRetN : M Fl := ret (.ret (.shr .none))
def mDrop (m : M T) : M Fl := bnd m fun _ => ret .next
def mIfS (c : M Bool) (m n : M Fl) : M Fl := bnd c fun b => if b then m else n
section
variable {X : Cx} {C : Wd} {lk : Lks} {e c : Expr} {m : M T} {i : Nat} {x : Str} {pos pos' : Pos} {s1 s2 : M Fl} {st : Stmt} {sts sts2 : List Stmt}
theorem ss_set (hN : X.N.Nodup) (hi : X.N[i]? = some x) (hx : Loc X.env.scope x) (he : PE X e (tE C m)) (hs : swapsWith e (some (.Name x pos')) pos.line X.env = pure false) (hf : X.fn x = true ∨ X.env.scope.names.lookup x = some .local) :
    PS X (.Assign [.Name x pos'] e pos) (tS C lk (mSet lk i m)) := (ps_set hN hi hx he hs hf).mono fun D σ H ⟨U, ρ, R, p⟩ => by
  refine ⟨U, ρ, R, PostS.seq p fun t ρ1 v H1 rr x q => ?_⟩
  unfold put at q
  split at q
  · rename_i h
    exact q _ H1 (rr.put h.2) (x.less fun a z => own_put z) (lk_set h.1)
  · exact q.elim
theorem ss_nil : PSs X [] (tS C lk (ret .next)) := pss_nil.mono fun D σ H ⟨U, ρ, R, p⟩ => p σ H R Ext.refl Lk.refl
theorem ss_cons (h1 : PS X st (tS C lk s1)) (h2 : PSs X sts (tS C lk s2)) : PSs X (st :: sts) (tS C lk (seqM s1 s2)) := (pss_cons h1 h2).mono fun D σ H ⟨U, ρ, R, p⟩ => ⟨U, ρ, R, PostS.then p⟩
theorem ss_ret (he : PE X e (tE C m)) : PS X (.Return (some e) pos) (tS C lk (mRet m)) := (ps_ret he).mono fun D σ H ⟨U, ρ, R, p⟩ =>
  ⟨U, ρ, R, PostS.seq p fun t ρ1 v H1 rr x q => q v σ H1 rr x Lk.refl⟩
theorem ss_retN : PS X (.Return none pos) (tS C lk mRetN) := ps_retN.mono fun D σ H ⟨U, ρ, R, p⟩ => p .non σ H (RelR.shr R .non) (Ext.refl.less fun a z => z.elim id fun w => by cases w.1) Lk.refl
theorem ss_drop (he : PE X e (tE C m)) (hs : swapsWith e none pos.line X.env = pure false) : PS X (.Expr e pos) (tS C lk (mDrop m)) := (ps_expr he hs).mono fun D σ H ⟨U, ρ, R, p⟩ =>
  ⟨U, ρ, R, PostS.seq p fun t ρ1 v H1 rr x q => q σ H1 rr.drop x.drop Lk.refl⟩
theorem ss_doc {j : Nat} {w : Str} : PS X (.Expr (.Constant (.str w) j pos) pos') (tS C lk (ret .next)) := ps_doc.mono fun D σ H ⟨U, ρ, R, p⟩ => p σ H R Ext.refl Lk.refl
theorem ss_pass : PS X (.Pass pos) (tS C lk (ret .next)) := ps_pass.mono fun D σ H ⟨U, ρ, R, p⟩ => p σ H R Ext.refl Lk.refl
theorem ss_break : PS X (.Break pos) (tS C lk (ret .brk)) := ps_break.mono fun D σ H ⟨U, ρ, R, p⟩ => p σ H R Ext.refl Lk.refl
theorem ss_continue : PS X (.Continue pos) (tS C lk (ret .cont)) := ps_continue.mono fun D σ H ⟨U, ρ, R, p⟩ => p σ H R Ext.refl Lk.refl
theorem ss_if {nc : M Bool} (hc : PT X c (tT C nc)) (ha : PSs X sts (tS C lk s1)) (hb : PSs X sts2 (tS C lk s2)) : PS X (.If c sts sts2 pos) (tS C lk (mIfS nc s1 s2)) := (ps_if hc ha hb).mono fun D σ H ⟨U, ρ, R, p⟩ => by
  refine ⟨U, ρ, R, PostS.seq p fun b ρ1 k H1 rr x q => ?_⟩
  obtain ⟨R1, rfl⟩ := rr
  have q := PostS.shift q x.drop (Lk.refl (lk := lk) (σ := σ))
  cases k with
  | true => rw [if_pos rfl]; exact ⟨U, ρ1, R1, q⟩
  | false => rw [if_neg Bool.false_ne_true]; exact ⟨U, ρ1, R1, q⟩
end

/-! ### targets -/
inductive Tg where
  | name (i : Nat)
  | tup (is : List Nat)
def bindAll (lk : Lks) : List Nat → List D → Env → Option Env
  | [], [], ρ => some ρ
  | i :: is, d :: ds, ρ => if lkd lk i = false ∧ i < ρ.length ∧ i ∉ is then bindAll lk is ds (ρ.set i (some (.shr d))) else none
  | _, _, _ => none
def bindTg (lk : Lks) : Tg → D → Env → Option Env
  | .name i, d, ρ => if lkd lk i = false ∧ i < ρ.length then some (ρ.set i (some (.shr d))) else none
  | .tup is, .tuple ds, ρ => bindAll lk is ds ρ
  | .tup _, _, _ => none
/-- where a target puts -/
def Tg.slots : Tg → List Nat
  | .name i => [i]
  | .tup is => is
/-- a target's reading: from the value, the store goes on -/
def tG (C : Wd) (lk : Lks) (tg : Tg) : TG := fun v σ H Q => ∃ U ρ d, Rel C.K U H σ ρ ∧ Dn C.K (Both U (Own σ ρ)) H v d ∧ ∃ ρ', bindTg lk tg d ρ = some ρ' ∧
  ∀ σ', Rel C.K U H σ' ρ' → (∀ a, Own σ' ρ' a → Own σ ρ a) → Lk lk σ σ' → (∀ j, j ∉ tg.slots → σ'[j]? = σ[j]?) → Q σ' H
section
variable {K : PySem.W.Frag} {U : Av} {σ : L2.St} {H : Hp} {ρ ρ' : Env} {v : V} {d : D} {i : Nat} {lk : Lks}
theorem own_put_shr {a : Addr} (h : Own (σ.set i (some v)) (ρ.set i (some (.shr d))) a) : Own σ ρ a := (own_put h).elim id fun w => by cases w.1
theorem Rel.put (R : Rel K U H σ ρ) (h : Dn K (Both U (Own σ ρ)) H v d) (hi : i < ρ.length) : Rel K U H (σ.set i (some v)) (ρ.set i (some (.shr d))) := (RelR.shr R h).put hi
theorem bind_all : ∀ {is : List Nat} {vs : List V} {ds : List D} {σ : L2.St} {ρ ρ' : Env}, Rel K U H σ ρ → DnAll K (Both U (Own σ ρ)) H vs ds → bindAll lk is ds ρ = some ρ' → is.length = vs.length ∧
    ∀ σ', σ' = (is.zip vs).foldl (fun s p => s.set p.1 (some p.2)) σ → Rel K U H σ' ρ' ∧ (∀ a, Own σ' ρ' a → Own σ ρ a) ∧ Lk lk σ σ' ∧ (∀ j, j ∉ is → σ'[j]? = σ[j]?)
  | [], _, _, σ, ρ, ρ', R, .nil, e => by
    cases e
    exact ⟨rfl, fun σ' e => by subst e; exact ⟨R, fun _ z => z, Lk.refl, fun _ _ => rfl⟩⟩
  | [], _, _, _, _, _, _, .cons _ _, e => by cases e
  | _ :: _, _, _, _, _, _, _, .nil, e => by cases e
  | i :: is, _, _, σ, ρ, ρ', R, .cons (v := v) (d := d) h t, e => by
    unfold bindAll at e
    split at e
    · rename_i c
      have R1 := R.put h c.2.1
      have t1 : DnAll K (Both U (Own (σ.set i (some v)) (ρ.set i (some (.shr d))))) H _ _ := t.mv (Mv.less fun a z => z.elim .inl fun w => .inr (own_put_shr w))
      obtain ⟨l, ih⟩ := bind_all R1 t1 e
      refine ⟨congrArg (· + 1) l, fun σ' es => ?_⟩
      obtain ⟨a1, a2, a3, a4⟩ := ih σ' es
      refine ⟨a1, fun a z => own_put_shr (a2 a z), (lk_set c.1).trans a3, fun j hj => ?_⟩
      rw [a4 j fun z => hj (.tail _ z), List.getElem?_set_ne fun z => hj (by rw [← z]; exact .head _)]
    · cases e
end
section
variable {X : Cx} {C : Wd} {lk : Lks} {i : Nat} {x : Str} {pos : Pos}
theorem _root_.L2.PG.mono {e : Expr} {t t' : TG} (h : PG X e t) (k : ∀ v σ H Q, t' v σ H Q → t v σ H Q) : PG X e t' := ⟨fun pins s σ H v u Q I r q => h.run pins s σ H v u Q I r (k v σ H Q q)⟩
theorem sg_name (hN : X.N.Nodup) (hi : X.N[i]? = some x) (hx : Loc X.env.scope x) (hf : X.fn x = true ∨ X.env.scope.names.lookup x = some .local) : PG X (.Name x pos) (tG C lk (.name i)) := (pg_name hN hi hx hf).mono fun v σ H Q ⟨U, ρ, d, R, h, ρ', e, k⟩ => by
  have e : (if lkd lk i = false ∧ i < ρ.length then some (ρ.set i (some (.shr d))) else none) = some ρ' := e
  split at e
  · rename_i c
    cases e
    exact k _ (R.put h c.2) (fun a z => own_put_shr z) (lk_set c.1) fun j hj => List.getElem?_set_ne fun z => hj (by rw [← z]; exact .head _)
  · cases e
/-- the names of a tuple target, by their slots -/
inductive Nms (X : Cx) : List Expr → List Nat → Prop where
  | nil : Nms X [] []
  | cons {i : Nat} {x : Str} {p : Pos} {es : List Expr} {is : List Nat} : X.N[i]? = some x → Loc X.env.scope x → (X.fn x = true ∨ X.env.scope.names.lookup x = some .local) → Nms X es is → Nms X (.Name x p :: es) (i :: is)
def gAll : List Nat → TGs
  | [] => gNil
  | i :: is => gCons (gName i) (gAll is)
theorem nms_pgs (hN : X.N.Nodup) : ∀ {es : List Expr} {is : List Nat}, Nms X es is → PGs X es (gAll is)
  | _, _, .nil => pgs_nil
  | _, _, .cons h1 h2 h3 t => pgs_cons (pg_name hN h1 h2 h3) (nms_pgs hN t)
theorem gAll_of : ∀ {is : List Nat} {vs : List V} {σ : L2.St} {H : Hp} {Q : L2.St → Hp → Prop}, is.length = vs.length → Q ((is.zip vs).foldl (fun s p => s.set p.1 (some p.2)) σ) H → gAll is vs σ H Q
  | [], [], _, _, _, _, q => ⟨rfl, q⟩
  | i :: is, v :: vs, _, _, _, l, q => ⟨v, vs, rfl, gAll_of (Nat.succ.inj l) q⟩
theorem nms_each : ∀ {es : List Expr} {is : List Nat}, Nms X es is → (assignEach es X.env).length = is.length ∧ (assignEach es X.env).findIdx? (·.1) = none
  | _, _, .nil => ⟨rfl, rfl⟩
  | _, _, .cons (x := x) (p := p) (es := es) h1 h2 h3 t => by
    obtain ⟨a, b⟩ := nms_each t
    have e : ∃ f, assignEach (.Name x p :: es) X.env = (false, f) :: assignEach es X.env := ⟨_, rfl⟩
    obtain ⟨f, e⟩ := e
    rw [e]
    exact ⟨congrArg (· + 1) a, by rw [List.findIdx?_cons]; simp [b]⟩
theorem sg_tup {es : List Expr} {is : List Nat} {k : Nat} (hc : X.calm = true) (hK : C.K = X.K) (hN : X.N.Nodup) (h : Nms X es is) : PG X (.Tuple es k pos) (tG C lk (.tup is)) :=
  (pg_tup hc (nms_pgs hN h) (nms_each h).1 (nms_each h).2).mono fun v σ H Q ⟨U, ρ, d, R, h, ρ', e, k⟩ => by
  cases d with
  | tuple ds =>
    obtain ⟨a, vs, rfl, ea, x⟩ := DO.tup (.inl h)
    obtain ⟨l, q⟩ := bind_all R x e
    obtain ⟨a1, a2, a3, a4⟩ := q _ rfl
    exact ⟨a, vs, rfl, by rw [← hK]; exact ea, l.symm, gAll_of l (k _ a1 a2 a3 a4)⟩
  | _ => cases e
/-- target = value -/
def mAsg (lk : Lks) (tg : Tg) (m : M T) : M Fl := bnd m fun t ρ => match bindTg lk tg t.toD ρ with
  | some ρ' => .ok .next ρ'
  | none => .stk
theorem ss_asg {tg : Tg} {te e : Expr} {m : M T} (he : PE X e (tE C m)) (hg : PG X te (tG C lk tg)) (hs : swapsWithSole [te] e pos.line X.env = pure false) (hw : swappedStores [te] e X.env = pure none) (h1 : (assignEach [te] X.env).map (·.2) = [assign te X.env]) : PS X (.Assign [te] e pos) (tS C lk (mAsg lk tg m)) :=
  (ps_asg he hg hs hw h1).mono fun D σ H ⟨U, ρ, R, p⟩ => by
  refine ⟨U, ρ, R, PostS.seq p fun t ρ1 v H1 rr x q => ?_⟩
  cases e : bindTg lk tg t.toD ρ1 with
  | none => simp only [e] at q; exact q.elim
  | some ρ2 =>
    simp only [e] at q
    exact ⟨U, ρ1, t.toD, rr.drop, rr.frz, ρ2, e, fun σ' R' o l _ => q σ' H1 R' (x.drop.less o) l⟩
end
end VS
set_option Elab.async false
set_option linter.all false
set_option maxRecDepth 100000
set_option maxHeartbeats 1000000
/-! The VS layer, part G: a slot's own list or dict is changed. -/
namespace VS
open PySem PySem.Spec PyProof.Rows L2

/-- the object of a slot's own list, dict -/
def Cont (K : PySem.W.Frag) (B : Av) (H : Hp) (o : HO) : T → Prop
  | .shr _ => False
  | .lst ds => ∃ vs, o = .lst vs ∧ DnAll K B H vs ds
  | .dic kds => ∃ vs, o = .dK (List.zip (kds.map (·.1)) vs) ∧ DnAll K B H vs (kds.map (·.2))
def putG {α : Type} (kvs : List (Key × α)) (k : Key) (v : α) : List (Key × α) :=
  if (kvs.any fun kv => decide (kv.1 = k)) = true then kvs.map (fun kv => if kv.1 = k then (kv.1, v) else kv) else kvs ++ [(k, v)]
/-- methods that change their list or dict: its new content, what comes back -/
inductive Mu where
  | append | extend | insert | pop | popAt
  deriving DecidableEq
def muT : Mu → T → List D → Option (T × D)
  | .append, .lst xs, [d] => if xs.length < sizeLine then some (.lst (xs ++ [d]), .none) else none
  | .extend, .lst xs, [.list ys] => if xs.length + ys.length ≤ sizeLine then some (.lst (xs ++ ys), .none) else none
  | .insert, .lst xs, [.int i, d] => if xs.length < sizeLine ∧ 0 ≤ i ∧ i < 2 ^ 63 then some (.lst (xs.take i.toNat ++ [d] ++ xs.drop i.toNat), .none) else none
  | .pop, .lst xs, [] => (xs[xs.length - 1]?).map fun d => (.lst xs.dropLast, d)
  | .popAt, .lst xs, [.int i] => if -(2 ^ 63) ≤ i ∧ i < 2 ^ 63 then match seqIndex? i xs.length with
    | some k => (xs[k]?).map fun d => (.lst (xs.eraseIdx k), d)
    | none => none
    else none
  | _, _, _ => none
def finMu (mu : Mu) (i : Nat) (os : List O) : M T := fun ρ => match vals os, ρ[i]? with
  | some ds, some (some t) => match muT mu t ds with
    | some (t', d) => .ok (.shr d) (ρ.set i (some t'))
    | none => .stk
  | _, _ => .stk
def ownList (i : Nat) (ρ : Env) : Bool := match ρ[i]? with
  | some (some (.lst _)) => true
  | _ => false
def mMu (mu : Mu) (i : Nat) (ms : List (M O)) : M T := fun ρ => if ownList i ρ then bnd (mOs ms) (finMu mu i) ρ else .stk
section
variable {K : PySem.W.Frag} {U B : Av} {σ : L2.St} {H : Hp} {ρ : Env} {a : Addr} {o : HO} {i : Nat} {t t' : T} {v : V}
theorem Cont.own (c : Cont K B H o t) : t.own = true := by
  cases t with
  | shr _ => exact c.elim
  | lst _ => rfl
  | dic _ => rfl
theorem RT.cont (r : RT K B H v t) (h : t.own = true) : ∃ a o, v = .ref a ∧ H a = some o ∧ Cont K B H o t := by
  cases t with
  | shr _ => cases h
  | lst ds => obtain ⟨a, vs, e, h, x⟩ := r; exact ⟨a, _, e, h, vs, rfl, x⟩
  | dic kds => obtain ⟨a, vs, e, h, x⟩ := r; exact ⟨a, _, e, h, vs, rfl, x⟩
theorem Cont.rt {B' : Av} {H' : Hp} (c : Cont K B H o t) (e : H' a = some o) (m : Mv B H B' H') : RT K B' H' (.ref a) t := by
  cases t with
  | shr _ => exact c.elim
  | lst ds => obtain ⟨vs, rfl, x⟩ := c; exact ⟨a, vs, rfl, e, x.mv m⟩
  | dic kds => obtain ⟨vs, rfl, x⟩ := c; exact ⟨a, vs, rfl, e, x.mv m⟩
theorem own_swap {b : Addr} (e : ρ[i]? = some (some t)) (ht : t.own = true) (ht' : t'.own = true) : Own σ (ρ.set i (some t')) b ↔ Own σ ρ b := by
  have hl : i < ρ.length := (List.getElem?_eq_some_iff.mp e).1
  constructor
  · rintro ⟨j, u, e1, e2, e3⟩
    by_cases hj : i = j
    · subst hj; exact ⟨i, t, e, ht, e3⟩
    · rw [List.getElem?_set_ne hj] at e1; exact ⟨j, u, e1, e2, e3⟩
  · rintro ⟨j, u, e1, e2, e3⟩
    by_cases hj : i = j
    · subst hj; exact ⟨i, t', List.getElem?_set_self hl, ht', e3⟩
    · exact ⟨j, u, by rw [List.getElem?_set_ne hj]; exact e1, e2, e3⟩
theorem mv_upd {W : Av} (h : W a) : Mv W H W (upd H a o) := fun b ob e n => ⟨by rw [upd_ne fun z => n (by rw [z]; exact h)]; exact e, n⟩
/-- a slot's own object is written -/
theorem Rel.write (R : Rel K U H σ ρ) (e : ρ[i]? = some (some t)) (ht : t.own = true) (es : σ[i]? = some (some (.ref a))) (c : Cont K (Both U (Own σ ρ)) H o t') :
    Rel K U (upd H a o) σ (ρ.set i (some t')) ∧ Ext (Own σ ρ) H (Own σ (ρ.set i (some t'))) (upd H a o) := by
  have hl : i < ρ.length := (List.getElem?_eq_some_iff.mp e).1
  have ht' := c.own
  have ow : ∀ b, Own σ (ρ.set i (some t')) b ↔ Own σ ρ b := fun b => own_swap e ht ht'
  have ha : Own σ ρ a := ⟨i, t, e, ht, es⟩
  have m : Mv (Both U (Own σ ρ)) H (Both U (Own σ (ρ.set i (some t')))) (upd H a o) := (mv_upd (.inr ha)).trans (Mv.less fun b z => z.elim .inl fun w => .inr ((ow b).mp w))
  refine ⟨⟨by rw [List.length_set]; exact R.len, fun j u f => ?_, fun b z => ?_, fun b z => R.nu b ((ow b).mp z), fun j k u w b f1 f2 f3 g1 g2 g3 => ?_⟩, ⟨fun b ob eb n => ⟨by rw [upd_ne fun z => n (by rw [z]; exact ha)]; exact eb, fun z => n ((ow b).mp z)⟩, fun b ob eb => ?_⟩⟩
  · by_cases hj : i = j
    · subst hj
      rw [List.getElem?_set_self hl] at f
      cases f
      exact ⟨_, es, c.rt upd_same m⟩
    · rw [List.getElem?_set_ne hj] at f
      obtain ⟨w, g1, g2⟩ := R.slot j u f
      refine ⟨w, g1, g2.mv m fun hu b ob ew eb => ?_⟩
      rw [upd_ne fun z => hj (R.inj i j t u a e ht es f hu (by rw [g1, ew, z]))]
      exact eb
  · obtain ⟨ob, eb⟩ := R.tr b z
    rw [upd_ne fun q => R.nu a ha (by rw [← q]; exact z)]
    exact ⟨ob, eb⟩
  · have up : ∀ {j : Nat} {u : T}, (ρ.set i (some t'))[j]? = some (some u) → u.own = true → ∃ u', ρ[j]? = some (some u') ∧ u'.own = true := fun {j u} f1 f2 => by
      by_cases hj : i = j
      · subst hj; exact ⟨t, e, ht⟩
      · rw [List.getElem?_set_ne hj] at f1; exact ⟨u, f1, f2⟩
    obtain ⟨u', a1, a2⟩ := up f1 f2
    obtain ⟨w', b1, b2⟩ := up g1 g2
    exact R.inj j k u' w' b a1 a2 f3 b1 b2 g3
  · by_cases hb : b = a
    · rw [hb]; exact ⟨o, upd_same⟩
    · rw [upd_ne hb]; exact ⟨ob, eb⟩
end
/-- a method's reading: the receiver's object, its new one -/
def rMu (K : PySem.W.Frag) (mu : Mu) : V → List V → Hp → VK → Prop := fun x vs H Q => ∃ (B : Av) (a : Addr) (o : HO) (t t' : T) (ds : List D) (d : D), x = .ref a ∧ H a = some o ∧ Cont K B H o t ∧ DnAll K B H vs ds ∧ muT mu t ds = some (t', d) ∧
  ∀ v o', Cont K B H o' t' → Dn K B H v d → Q v (upd H a o')
section
variable {X : Cx}
theorem MtM.mono {id : String} {r r' : V → List V → Hp → VK → Prop} (h : MtM X id r) (k : ∀ x vs H Q, r' x vs H Q → r x vs H Q) : MtR X id r' := fun pins s σ H x xs v us Q I rx rv q => h pins s σ H x xs v us Q I rx rv (k _ _ _ _ q)
theorem m_append : MtR X "list.append" (rMu X.K .append) := MtM.mono mt_append fun x vs H Q ⟨B, a, o, t, t', ds, d, ex, e, c, dn, h, q⟩ => by
  cases t with
  | lst xs =>
    obtain ⟨ws, rfl, cx⟩ := c
    match ds, dn, h with
    | [d1], .cons (v := v) h1 .nil, h =>
      simp only [muT] at h
      split at h
      · rename_i l
        cases h
        exact ⟨a, ws, v, ex, rfl, e, by rw [cx.len]; exact l, q .non _ ⟨_, rfl, cx.app (.cons h1 .nil)⟩ .non⟩
      · cases h
    | [], _, h => simp [muT] at h
    | _ :: _ :: _, _, h => simp [muT] at h
  | _ => simp [muT] at h
theorem m_extend : MtR X "list.extend" (rMu X.K .extend) := MtM.mono mt_extend fun x vs H Q ⟨B, a, o, t, t', ds, d, ex, e, c, dn, h, q⟩ => by
  cases t with
  | lst xs =>
    obtain ⟨ws, rfl, cx⟩ := c
    match ds, dn, h with
    | [.list ys], .cons (v := v) h1 .nil, h =>
      simp only [muT] at h
      split at h
      · rename_i l
        cases h
        obtain ⟨b, zs, rfl, eb, hb⟩ := DO.list (.inl h1)
        exact ⟨a, b, ws, zs, ex, rfl, e, eb, by rw [cx.len, hb.len]; exact l, q .non _ ⟨_, rfl, cx.app hb⟩ .non⟩
      · cases h
    | [], _, h => simp [muT] at h
    | [.none], _, h => simp [muT] at h
    | [.int _], _, h => simp [muT] at h
    | [.bool _], _, h => simp [muT] at h
    | [.str _], _, h => simp [muT] at h
    | [.tuple _], _, h => simp [muT] at h
    | [.dict _], _, h => simp [muT] at h
    | _ :: _ :: _, _, h => simp [muT] at h
  | _ => simp [muT] at h
theorem DnAll.last {K : PySem.W.Frag} {B : Av} {H : Hp} : ∀ {vs : List V} {ds : List D}, DnAll K B H vs ds → DnAll K B H vs.dropLast ds.dropLast := fun {vs ds} h => by
  rw [List.dropLast_eq_take, List.dropLast_eq_take, h.len]
  exact h.take _
theorem m_pop : MtR X "list.pop" (rMu X.K .pop) := MtM.mono mt_pop fun x vs H Q ⟨B, a, o, t, t', ds, d, ex, e, c, dn, h, q⟩ => by
  cases t with
  | lst xs =>
    obtain ⟨ws, rfl, cx⟩ := c
    match ds, dn, h with
    | [], .nil, h =>
      simp only [muT, Option.map_eq_some_iff] at h
      obtain ⟨d1, hd, e1⟩ := h
      cases e1
      obtain ⟨y, hy, dy⟩ := cx.get hd
      exact ⟨a, ws, y, ex, rfl, e, by rw [cx.len]; exact hy, q y _ ⟨_, rfl, cx.last⟩ dy⟩
    | _ :: _, _, h => simp [muT] at h
  | _ => simp [muT] at h
theorem m_insert : MtR X "list.insert" (rMu X.K .insert) := fun pins s σ H x xs v us Q I rx rv h => mt_insert pins s σ H x xs v us Q I rx rv (by
  obtain ⟨B, a, o, t, t', ds, d, ex, e, c, dn, h, q⟩ := h
  cases t with
  | lst xs =>
    obtain ⟨ws, rfl, cx⟩ := c
    match ds, dn, h with
    | [.int i, d1], .cons h0 (.cons (v := v) h1 .nil), h =>
      simp only [muT] at h
      split at h
      · rename_i l
        cases h
        cases h0
        exact ⟨a, ws, i, v, ex, rfl, e, by rw [cx.len]; exact l.1, l.2.1, l.2.2, q .non _ ⟨_, rfl, ((cx.take _).app (.cons h1 .nil)).app (cx.drop _)⟩ .non⟩
      · cases h
    | [], _, h => simp [muT] at h
    | [_], _, h => simp [muT] at h
    | [.none, _], _, h => simp [muT] at h
    | [.bool _, _], _, h => simp [muT] at h
    | [.str _, _], _, h => simp [muT] at h
    | [.list _, _], _, h => simp [muT] at h
    | [.tuple _, _], _, h => simp [muT] at h
    | [.dict _, _], _, h => simp [muT] at h
    | _ :: _ :: _ :: _, _, h => simp [muT] at h
  | _ => simp [muT] at h)
variable {C : Wd} {mu : Mu} {i : Nat} {x : Str} {p apos cpos : Pos} {id : String} {name : Str} {Ty : String} {e : Expr} {es : List Expr} {ms : List (M O)} {to : Expr}
theorem ty_of {K : PySem.W.Frag} {B : Av} {H : Hp} {v : V} {t : T} (r : RT K B H v t) (h : t.own = true) : tyV K (match t with | .dic _ => "dict" | _ => "list") v H := by
  cases t with
  | shr _ => cases h
  | lst ds => obtain ⟨a, vs, rfl, e, _⟩ := r; exact .inl ⟨rfl, vs, .of e⟩
  | dic kds => obtain ⟨a, vs, rfl, e, _⟩ := r; exact .inr (.inr (.inl ⟨rfl, .inl ⟨_, e⟩⟩))
theorem finMu_ok {U : Av} {σ : L2.St} {H : Hp} {ρ : Env} {vs : List V} {os : List O} {Q : VK} {v : V} (R : Rel C.K U H σ ρ) (r : ROs C.K U σ H ρ vs os) (es : σ[i]? = some (some v)) (p : Post C U σ (RelR C.K U σ) (fun v t => OwnT t v) H ρ Q (finMu mu i os ρ)) : rMu C.K mu v vs H Q := by
  unfold finMu at p
  cases e1 : vals os with
  | none => simp only [e1] at p; exact p.elim
  | some ds =>
    cases e2 : ρ[i]? with
    | none => simp only [e1, e2] at p; exact p.elim
    | some w =>
      cases w with
      | none => simp only [e1, e2] at p; exact p.elim
      | some t =>
        simp only [e1, e2] at p
        cases e3 : muT mu t ds with
        | none => simp only [e3] at p; exact p.elim
        | some y =>
          obtain ⟨t', d⟩ := y
          simp only [e3] at p
          have ht : t.own = true := by
            cases t with
            | shr _ => cases mu <;> simp [muT] at e3
            | _ => rfl
          obtain ⟨v', f1, rt⟩ := R.slot i t e2
          rw [es] at f1
          cases f1
          obtain ⟨a, o, rfl, ea, ca⟩ := rt.cont ht
          refine ⟨Both U (Own σ ρ), a, o, t, t', ds, d, rfl, ea, ca, vals_dn r e1, e3, fun w o' c' dw => ?_⟩
          obtain ⟨R', x'⟩ := R.write e2 ht es c'
          have ha : Own σ ρ a := ⟨i, t, e2, ht, es⟩
          exact p w _ (RelR.shr R' (Dn.mv ((mv_upd (.inr ha)).trans (Mv.less fun b z => z.elim .inl fun q => .inr ((own_swap e2 ht c'.own).mp q))) dw)) (x'.less fun a z => z.elim id fun q => by cases q.1)
theorem own_list {U : Av} {σ : L2.St} {H : Hp} {ρ : Env} (R : Rel C.K U H σ ρ) (h : ownList i ρ = true) : ∃ v, σ[i]? = some (some v) ∧ tyV C.K "list" v H := by
  unfold ownList at h
  split at h
  · rename_i xs e
    obtain ⟨v, e1, r⟩ := R.slot i _ e
    exact ⟨v, e1, ty_of r rfl⟩
  · cases h
theorem se_mu (hK : C.K = X.K) (pa : PlainAttrs "list") (slot : Slot "list" name id) (hty : typeOf (.builtin id) = pure (.type "method_descriptor")) (hm : MtR X id (rMu C.K mu)) (ho : PE X to (tVar i)) (ha : PA X (e :: es) (tOs C (mOs ms)))
    (hbase : attributeBase to name X.env (eval to X.env) = eval to X.env)
    (hfew : ((backTo cpos (starEach (e :: es) X.env)).all (fun x => !x.1) && (backToKw cpos (keywordEach [] X.env)).all (fun x => x.1.isSome)
      && decide ((e :: es).length + ([] : List Keyword).length + (if ([] : List Keyword).isEmpty then 0 else 1) < 30)) = true)
    (hline : (apos.endLine == cpos.line) = true) (hs : starEach (e :: es) X.env = (false, eval e X.env) :: starEach es X.env) (hplain : (backTo cpos (starEach es X.env)).any (·.1) = false) :
    PE X (.Call (.Attribute to name apos) (e :: es) [] cpos) (tE C (mMu mu i ms)) := (pe_bm pa slot hty hm ho ha hbase hfew hline hs hplain).mono fun σ H Q ⟨U, ρ, R, p⟩ => by
  unfold mMu at p
  split at p
  · rename_i h
    obtain ⟨v, e1, ty⟩ := own_list R h
    refine ⟨v, e1, by rw [← hK]; exact ty, U, ρ, R, Post.seq p fun os ρ1 vs H1 rr x q => finMu_ok rr.1 rr.2 e1 q⟩
  · exact p.elim
theorem se_mu0 (hK : C.K = X.K) (pa : PlainAttrs "list") (slot : Slot "list" name id) (hty : typeOf (.builtin id) = pure (.type "method_descriptor")) (hm : MtR X id (rMu C.K mu)) (ho : PE X to (tVar i))
    (hbase : attributeBase to name X.env (eval to X.env) = eval to X.env) (hline : (apos.endLine == cpos.line) = true) : PE X (.Call (.Attribute to name apos) [] [] cpos) (tE C (mMu mu i [])) := (pe_bm0 pa slot hty hm ho hbase hline).mono fun σ H Q ⟨U, ρ, R, p⟩ => by
  unfold mMu at p
  split at p
  · rename_i h
    obtain ⟨v, e1, ty⟩ := own_list R h
    exact ⟨v, e1, by rw [← hK]; exact ty, finMu_ok R .nil e1 p⟩
  · exact p.elim

/-! ### x[k] = v -/
def setT : T → D → D → Option T
  | .lst xs, .int k, d => (ixN xs.length k).map fun j => .lst (xs.set j d)
  | .dic kvs, k, d => match unD k with
    | some k => if kvs.length < sizeLine then some (.dic (putG kvs k d)) else none
    | none => none
  | _, _, _ => none
def rSet (K : PySem.W.Frag) : V → V → V → Hp → (Hp → Prop) → Prop := fun x y w H Q => ∃ (B : Av) (a : Addr) (o : HO) (t t' : T) (k d : D), x = .ref a ∧ H a = some o ∧ Cont K B H o t ∧ DO K B H y k ∧ Dn K B H w d ∧ setT t k d = some t' ∧ ∀ o', Cont K B H o' t' → Q (upd H a o')
section
variable {K : PySem.W.Frag} {B : Av} {H : Hp} {k : Key} {w : V} {d : D}
theorem zip_any : ∀ {kds : List (Key × D)} {vs : List V}, DnAll K B H vs (kds.map (·.2)) → (List.zip (kds.map (·.1)) vs).any (fun kv => decide (kv.1 = k)) = kds.any fun kv => decide (kv.1 = k)
  | [], _, .nil => rfl
  | p :: r, _, .cons (v := v) (vs := vs) h t => by
    show (decide (p.1 = k) || (List.zip (r.map (·.1)) vs).any _) = (decide (p.1 = k) || r.any _)
    rw [zip_any t]
theorem zip_map (hw : Dn K B H w d) : ∀ {kds : List (Key × D)} {vs : List V}, DnAll K B H vs (kds.map (·.2)) →
    ∃ vs', (List.zip (kds.map (·.1)) vs).map (fun kv => if kv.1 = k then (kv.1, w) else kv) = List.zip ((kds.map fun kv => if kv.1 = k then (kv.1, d) else kv).map (·.1)) vs' ∧ DnAll K B H vs' ((kds.map fun kv => if kv.1 = k then (kv.1, d) else kv).map (·.2))
  | [], _, .nil => ⟨[], rfl, .nil⟩
  | p :: r, _, .cons (v := v) (vs := vs) h t => by
    obtain ⟨vs', e1, e2⟩ := zip_map hw t
    by_cases c : p.1 = k
    · refine ⟨w :: vs', ?_, ?_⟩
      · show (if p.1 = k then (p.1, w) else (p.1, v)) :: (List.zip (r.map (·.1)) vs).map _ = _
        rw [e1]
        simp [c]
      · simp only [List.map_cons, c, if_true]
        exact .cons hw e2
    · refine ⟨v :: vs', ?_, ?_⟩
      · show (if p.1 = k then (p.1, w) else (p.1, v)) :: (List.zip (r.map (·.1)) vs).map _ = _
        rw [e1]
        simp [c]
      · simp only [List.map_cons, c, if_false]
        exact .cons h e2
theorem zip_app {α β : Type} {xs : List α} {ys : List β} {x : α} {y : β} (h : xs.length = ys.length) : List.zip xs ys ++ [(x, y)] = List.zip (xs ++ [x]) (ys ++ [y]) := by
  rw [List.zip_append h]
  rfl
theorem putK_zip (hw : Dn K B H w d) {kds : List (Key × D)} {vs : List V} (t : DnAll K B H vs (kds.map (·.2))) :
    ∃ vs', putK (List.zip (kds.map (·.1)) vs) k w = List.zip ((putG kds k d).map (·.1)) vs' ∧ DnAll K B H vs' ((putG kds k d).map (·.2)) := by
  unfold putK putG
  rw [zip_any t]
  split
  · exact zip_map hw t
  · refine ⟨vs ++ [w], ?_, ?_⟩
    · rw [zip_app (by rw [t.len, List.length_map, List.length_map]), List.map_append]
      rfl
    · rw [List.map_append]
      exact t.app (.cons hw .nil)
end
theorem ixN_lt {n : Nat} {i : Int} {j : Nat} (h : ixN n i = some j) : j < n := (ixN_seq h).2.1
theorem p_set (hu : X.A.units + 1 < cLine) : PSet X (rSet X.K) := fun pins s σ H x y w ov iv u Q I r1 r2 r3 ⟨B, a, o, t, t', k, d, ex, e, c, dk, dw, h, q⟩ => by
  cases t with
  | shr _ => cases h
  | lst xs =>
    obtain ⟨ws, rfl, cx⟩ := c
    cases k <;> simp only [setT] at h <;> try (cases h)
    simp only [Option.map_eq_some_iff] at h
    obtain ⟨j, hj, rfl⟩ := h
    cases dk.int
    exact set_list pins s σ H x _ w ov iv u Q I r1 r2 r3 ⟨a, ws, _, j, ex, rfl, e, by rw [cx.len]; exact hj, q _ ⟨_, rfl, cx.set j dw⟩⟩
  | dic kds =>
    obtain ⟨ws, rfl, cx⟩ := c
    simp only [setT] at h
    cases ek : unD k with
    | none => rw [ek] at h; cases h
    | some kk =>
      rw [ek] at h
      simp only at h
      split at h
      · rename_i l
        cases h
        have ey := unD_kV dk ek
        subst ey
        obtain ⟨vs', z1, z2⟩ := putK_zip (k := kk) dw cx
        have hlen : (List.zip (kds.map (·.1)) ws).length < sizeLine := by
          rw [List.length_zip, cx.len, List.length_map, List.length_map, Nat.min_self]
          exact l
        exact set_dict hu pins s σ H x _ w ov iv u Q I r1 r2 r3 ⟨a, _, ex, DPut.k e hlen, by rw [z1]; exact q _ ⟨vs', rfl, z2⟩⟩
      · cases h
/-- name[k] = value: the value first, then the name, then the key -/
def finSet (i : Nat) (d : D) (o : O) : M Fl := fun ρ => match o.get ρ, ρ[i]? with
  | some k, some (some t) => match setT t k d with
    | some t' => .ok .next (ρ.set i (some t'))
    | none => .stk
  | _, _ => .stk
def mStore (mc mk : M O) (mv : M T) : M Fl := bnd mv fun t => bnd mc fun oc => match oc with
  | .ref j => bnd mk fun o => finSet j t.toD o
  | .val _ => stuck
variable {lk : Lks} {pos pos' : Pos} {k : Expr} {mc mk : M O} {mv : M T}
theorem finSet_ok {U : Av} {σ : L2.St} {H : Hp} {ρ : Env} {N : Ends} {v w y : V} {d : D} {o : O} (R : Rel C.K U H σ ρ) (es : σ[i]? = some (some v)) (dw : Dn C.K (Both U (Own σ ρ)) H w d) (ry : RO C.K U σ H ρ y o)
    (p : PostS C lk U σ H ρ N (finSet i d o ρ)) : rSet C.K v y w H fun H' => N.nx σ H' := by
  unfold finSet at p
  cases e1 : o.get ρ with
  | none => simp only [e1] at p; exact p.elim
  | some kk =>
    cases e2 : ρ[i]? with
    | none => simp only [e1, e2] at p; exact p.elim
    | some z =>
      cases z with
      | none => simp only [e1, e2] at p; exact p.elim
      | some t =>
        simp only [e1, e2] at p
        cases e3 : setT t kk d with
        | none => simp only [e3] at p; exact p.elim
        | some t' =>
          simp only [e3] at p
          have ht : t.own = true := by
            cases t with
            | shr _ => cases e3
            | _ => rfl
          obtain ⟨v', f1, rt⟩ := R.slot i t e2
          rw [es] at f1
          cases f1
          obtain ⟨a, ob, rfl, ea, ca⟩ := rt.cont ht
          refine ⟨Both U (Own σ ρ), a, ob, t, t', kk, d, rfl, ea, ca, get_do R ry e1, dw, e3, fun o' c' => ?_⟩
          obtain ⟨R', x'⟩ := R.write e2 ht es c'
          exact p σ _ R' x' Lk.refl
theorem ss_store (hx : PE X to (tO C mc)) (hk : PE X k (tO C mk)) (hv : PE X e (tE C mv)) (hs : PSet X (rSet C.K)) (h0 : swapsWithSole [.Subscript to k pos'] e pos.line X.env = pure false) (hw : swappedStores [.Subscript to k pos'] e X.env = pure none)
    (h1 : (assignEach [.Subscript to k pos'] X.env).map (·.2) = [assign (.Subscript to k pos') X.env]) (hg : PG X (.Subscript to k pos') (gSub (tO C mc) (tO C mk) (rSet C.K))) : PS X (.Assign [.Subscript to k pos'] e pos) (tS C lk (mStore mc mk mv)) :=
  (ps_asg hv hg h0 hw h1).mono fun N σ H ⟨U, ρ, R, p⟩ => by
  refine ⟨U, ρ, R, PostS.seq p fun t ρ1 w H1 rr x q => ?_⟩
  have q := PostS.shift q x.drop (Lk.refl (lk := lk) (σ := σ))
  refine ⟨U, ρ1, rr.drop, PostS.seq q fun oc ρ2 v H2 rs y z => ?_⟩
  cases oc with
  | val d => exact z.elim
  | ref j =>
    have z := PostS.shift z y.drop (Lk.refl (lk := lk) (σ := σ))
    refine ⟨U, ρ2, rs.1, PostS.seq z fun o ρ3 u H3 rt y2 z2 => ?_⟩
    exact finSet_ok rt.1 rs.2 ((rr.frz.mv y.drop.both).mv y2.drop.both) rt.2 (PostS.shift z2 y2.drop (Lk.refl (lk := lk) (σ := σ)))
/-- name[k] op= value, of ints in a list -/
def finAugGet (j : Nat) (o : O) : M D := fun ρ => match o.get ρ, ρ[j]? with
  | some (.int k), some (some (.lst xs)) => match ixN xs.length k with
    | some n => match xs[n]? with
      | some d => .ok d ρ
      | none => .stk
    | none => .stk
  | _, _ => .stk
def augI (op : Op) (a b : D) : Option D := match op, a, b with
  | .add, .int i, .int j => some (.int (i + j))
  | .sub, .int i, .int j => some (.int (i - j))
  | _, _, _ => none
def mAugS (op : Op) (mc mk : M O) (mv : M T) : M Fl := bnd mc fun oc => match oc with
  | .ref j => bnd mk fun o => bnd (finAugGet j o) fun a => bnd mv fun t => match augI op a t.toD with
    | some d => finSet j d o
    | none => stuck
  | .val _ => stuck
def rGetL (K : PySem.W.Frag) : V → V → Hp → VK → Prop := fun x y H Q => ∃ (a : Addr) (vs : List V) (k : Int) (n : Nat) (w : V), x = .ref a ∧ y = .int k ∧ H a = some (.lst vs) ∧ ixN vs.length k = some n ∧ vs[n]? = some w ∧ Q w H
theorem p_get : PGet X (rGetL X.K) := fun pins s σ H x y ov iv Q I r1 r2 ⟨a, vs, k, n, w, ex, ey, e, h, hw, q⟩ => by
  subst ex ey
  cases r1
  obtain ⟨t, rfl⟩ := r2
  obtain ⟨its, r, pl, hz⟩ := I.list (.of e)
  obtain ⟨u, eu, rw'⟩ := r.get hw
  have hl := r.length
  have hn := line63
  unfold ixN at h
  by_cases h0 : 0 ≤ k
  · rw [if_pos h0] at h
    split at h
    · cases h
      exact wpAny_getItem_list pl.isList h0 (by omega) (by simpa using eu) ⟨w, H, I, rw', q⟩
    · cases h
  · rw [if_neg h0] at h
    split at h
    · cases h
      exact wpAny_getItem_list_neg pl.isList (by omega) (by rw [List.size_toArray]; omega) (by omega) (by rw [List.size_toArray, ← hl]; simpa using eu) ⟨w, H, I, rw', q⟩
    · cases h
theorem p_ip : ∀ {bop : Operator} {op : Op}, (bop = .Add ∧ op = .add ∨ bop = .Sub ∧ op = .sub) → PIp X bop (fun x y H Q => ∃ i j r, x = .int i ∧ y = .int j ∧ augI op (.int i) (.int j) = some (.int r) ∧ Q (.int r) H) := fun {bop op} h => by
  rcases h with ⟨rfl, rfl⟩ | ⟨rfl, rfl⟩
  · intro pins s σ H x y v u Q I r1 r2 ⟨i, j, r, e1, e2, e3, q⟩
    cases e3
    exact ip_add pins s σ H x y v u Q I r1 r2 ⟨i, j, e1, e2, q⟩
  · intro pins s σ H x y v u Q I r1 r2 ⟨i, j, r, e1, e2, e3, q⟩
    cases e3
    exact ip_sub pins s σ H x y v u Q I r1 r2 ⟨i, j, e1, e2, q⟩
theorem ss_augS {bop : Operator} {op : Op} (hx : PE X to (tO C mc)) (hk : PE X k (tO C mk)) (hv : PE X e (tE C mv)) (hg : PGet X (rGetL C.K)) (hp : PIp X bop (fun x y H Q => ∃ i j r, x = .int i ∧ y = .int j ∧ augI op (.int i) (.int j) = some (.int r) ∧ Q (.int r) H)) (hs : PSet X (rSet C.K))
    (ha : ∀ ov iv new, augStore k ov iv new = (do holding [new, ov, iv] (setItem ov iv new); release [new, ov, iv] []; pure .next)) : PS X (.AugAssign (.Subscript to k pos') bop e pos) (tS C lk (mAugS op mc mk mv)) :=
  (ps_augS hx hk hg hv hp hs ha).mono fun N σ H ⟨U, ρ, R, p⟩ => by
  refine ⟨U, ρ, R, PostS.seq p fun oc ρ1 v H1 rs y z => ?_⟩
  cases oc with
  | val d => exact z.elim
  | ref j =>
    have z := PostS.shift z y.drop (Lk.refl (lk := lk) (σ := σ))
    refine ⟨U, ρ1, rs.1, PostS.seq z fun o ρ2 u H2 rt y2 z2 => ?_⟩
    have z2 := PostS.shift z2 y2.drop (Lk.refl (lk := lk) (σ := σ))
    unfold bnd at z2
    cases e0 : finAugGet j o ρ2 with
    | exn _ _ =>
      unfold finAugGet at e0
      split at e0 <;> try (cases e0)
      split at e0 <;> try (cases e0)
      split at e0 <;> cases e0
    | stk => simp only [e0] at z2; exact z2.elim
    | ok a ρ3 =>
      simp only [e0] at z2
      unfold finAugGet at e0
      split at e0 <;> try (cases e0)
      rename_i kk xs ek es
      split at e0 <;> try (cases e0)
      rename_i n en
      split at e0 <;> try (cases e0)
      rename_i ed
      obtain ⟨v', f1, rtt⟩ := rt.1.slot j _ es
      have rs2 : σ[j]? = some (some v) := rs.2
      rw [rs2] at f1
      cases f1
      obtain ⟨ad, ws, rfl, ea, cx⟩ := rtt
      have hu := (get_do rt.1 rt.2 ek).int
      subst hu
      obtain ⟨wv, hwv, dv⟩ := cx.get ed
      refine ⟨ad, ws, kk, n, wv, rfl, rfl, ea, by rw [cx.len]; exact en, hwv, ?_⟩
      refine ⟨U, ρ2, rt.1, PostS.seq z2 fun t ρ4 w4 H4 r4 y4 z4 => ?_⟩
      cases ei : augI op a t.toD with
      | none => simp only [ei] at z4; exact z4.elim
      | some dd =>
        simp only [ei] at z4
        have shape : ∃ i j' r, a = .int i ∧ t.toD = .int j' ∧ dd = .int r := by
          unfold augI at ei
          split at ei
          · cases ei; exact ⟨_, _, _, rfl, by assumption, rfl⟩
          · cases ei; exact ⟨_, _, _, rfl, by assumption, rfl⟩
          · cases ei
        obtain ⟨i1, j1, r1, rfl, et, rfl⟩ := shape
        rw [et] at ei
        have hw4 := r4.frz
        rw [et] at hw4
        cases hw4
        cases dv
        refine ⟨i1, j1, r1, rfl, rfl, ei, ?_⟩
        exact finSet_ok r4.drop rs2 (.int r1) (rt.2.ext y4.drop) (PostS.shift z4 y4.drop (Lk.refl (lk := lk) (σ := σ)))
end
end VS
set_option Elab.async false
set_option linter.all false
set_option maxRecDepth 100000
set_option maxHeartbeats 1000000
/-! The VS layer, part H: loops, comprehensions. -/
namespace VS
open PySem PySem.Spec PyProof.Rows L2

/-- J walks over ds -/
structure JW (K : PySem.W.Frag) (B : Av) (J : It) (ds : List D) (H : Hp) : Prop where
  go : ∀ i, i < ds.length → J.go i H
  yld : ∀ i d x H', ds[i]? = some d → J.yld i H x H' → (∀ a, B a → ∃ o, H a = some o) → Same H H' ∧ Dn K B H' x d
  stop : J.stop ds.length H
def tIt (C : Wd) (m : M (List D)) : TI := fun σ H R => ∃ U ρ, Rel C.K U H σ ρ ∧
  Post C U σ (fun H' ρ' (J : It) ds => Rel C.K U H' σ ρ' ∧ ∀ B' H2, Mv (Both U (Own σ ρ')) H' B' H2 → JW C.K B' J ds H2) noOw H ρ R (m ρ)
def items : D → Option (List D)
  | .list xs => some xs
  | .tuple xs => some xs
  | _ => none
def mIter (m : M T) : M (List D) := bnd m fun t => match items t.toD with
  | some ds => ret ds
  | none => stuck
def bnd62 (n : Int) : Bool := decide (-(2 ^ 62) ≤ n) && decide (n < 2 ^ 62)
def rngF1 (os : List O) : M (List D) := fun ρ => match gets ρ os with
  | some [.int n] => if bnd62 n then .ok ((List.range n.toNat).map fun (k : Nat) => .int (0 + k)) ρ else .stk
  | _ => .stk
def rngF2 (os : List O) : M (List D) := fun ρ => match gets ρ os with
  | some [.int a, .int b] => if bnd62 a && bnd62 b then .ok ((List.range (b - a).toNat).map fun (k : Nat) => .int (a + k)) ρ else .stk
  | _ => .stk
def mRng1 (ms : List (M O)) : M (List D) := bnd (mOs ms) rngF1
def mRng2 (ms : List (M O)) : M (List D) := bnd (mOs ms) rngF2
def loopM (body k : M Fl) : M Fl := bnd body fun fl => match fl with
  | .next => k
  | .cont => k
  | .brk => ret .next
  | .ret t => ret (.ret t)
def bindM (lk : Lks) (tg : Tg) (d : D) (m : M Fl) : M Fl := fun ρ => match bindTg lk tg d ρ with
  | some ρ' => m ρ'
  | none => .stk
def forL (lk : Lks) (tg : Tg) (body : M Fl) : List D → M Fl
  | [] => ret .next
  | d :: ds => bindM lk tg d (loopM body (forL lk tg body ds))
def mFor (lk : Lks) (it : M (List D)) (tg : Tg) (body : M Fl) : M Fl := bnd it (forL lk tg body)
def whileL (c : M Bool) (body : M Fl) : Nat → M Fl
  | 0 => stuck
  | n + 1 => bnd c fun b => if b then loopM body (whileL c body n) else ret .next
section
variable {X : Cx} {C : Wd} {lk : Lks}
theorem _root_.L2.PI.mono {tg iter : Expr} {t t' : TI} (h : PI X tg iter t) (k : ∀ σ H R, t' σ H R → t σ H R) : PI X tg iter t' := ⟨fun pins s σ H R I q => h.run pins s σ H R I (k σ H R q)⟩
theorem PI.or {tg iter : Expr} {t t' : TI} (h : PI X tg iter t) (h' : PI X tg iter t') : PI X tg iter (fun σ H R => t σ H R ∨ t' σ H R) := ⟨fun pins s σ H R I q => q.elim (h.run pins s σ H R I) (h'.run pins s σ H R I)⟩
theorem RelR.data {K : PySem.W.Frag} {U : Av} {σ : L2.St} {H : Hp} {ρ : Env} {v : V} {t : T} (r : RelR K U σ H ρ v t) : DO K (Both U (Own σ ρ)) H v t.toD := .inl r.frz
theorem jw_list {K : PySem.W.Frag} {B B' : Av} {H H' : Hp} {a : Addr} {vs : List V} {ds : List D} (e : H a = some (.lst vs)) (na : ¬ B a) (x : DnAll K B H vs ds) (m : Mv B H B' H') : JW K B' (Itl K a) ds H' := by
  have e' := (m a _ e na).1
  have x' := x.mv m
  have sq : SqL K H' a vs := .of e'
  refine ⟨fun i hi => ?_, fun i d y H2 hd hy _ => ?_, ?_⟩
  · have hv : i < vs.length := by rw [x.len]; exact hi
    exact ⟨vs, vs[i], sq, by simp [hv]⟩
  · obtain ⟨z, hz⟩ := hy
    obtain ⟨w, hw, dw⟩ := x'.get hd
    have := hz vs sq
    rw [hw] at this
    cases this
    cases z
    exact ⟨Same.refl _, dw⟩
  · exact ⟨vs, sq, by rw [x.len]; exact Nat.le_refl _⟩
theorem jw_tup {K : PySem.W.Frag} {B' : Av} {H' : Hp} {a : Addr} {vs : List V} {ds : List D} (e : SqT K H' a vs) (x : DnAll K B' H' vs ds) : JW K B' (Itt K a) ds H' := by
  refine ⟨fun i hi => ?_, fun i d y H2 hd hy _ => ?_, ?_⟩
  · have hv : i < vs.length := by rw [x.len]; exact hi
    exact ⟨vs, vs[i], e, by simp [hv]⟩
  · obtain ⟨z, hz⟩ := hy
    obtain ⟨w, hw, dw⟩ := x.get hd
    have := hz vs e
    rw [hw] at this
    cases this
    cases z
    exact ⟨Same.refl _, dw⟩
  · exact ⟨vs, e, by rw [x.len]; exact Nat.le_refl _⟩
theorem si_data {tg iter : Expr} {m : M T} (hK : C.K = X.K) (h : PE X iter (tE C m)) : PI X tg iter (tIt C (mIter m)) := (PI.or (pi_list h) (pi_tup h)).mono fun σ H R ⟨U, ρ, Rr, p⟩ => by
  unfold mIter bnd at p
  cases e : m ρ with
  | exn y ρ1 =>
    rw [e] at p
    exact .inl ⟨U, ρ, Rr, by rw [e]; exact p⟩
  | stk => rw [e] at p; exact p.elim
  | ok t ρ1 =>
    rw [e] at p
    cases ht : t.toD with
    | list xs =>
      simp only [ht, items] at p
      refine .inl ⟨U, ρ, Rr, ?_⟩
      rw [e]
      intro v H1 rr x
      have dn := rr.frz
      rw [ht] at dn
      obtain ⟨a, vs, rfl, ea, dx⟩ := DO.list (.inl dn)
      refine ⟨a, rfl, ⟨vs, .of ea⟩, p (Itl X.K a) H1 ⟨rr.drop, fun B' H2 mv => ?_⟩ (x.drop.less fun a z => z.elim id False.elim)⟩
      cases dn with
      | lst e1 n1 x1 => rw [← hK]; exact jw_list e1 n1 x1 mv
    | tuple xs =>
      simp only [ht, items] at p
      refine .inr ⟨U, ρ, Rr, ?_⟩
      rw [e]
      intro v H1 rr x
      have dn := rr.frz
      rw [ht] at dn
      obtain ⟨a, vs, rfl, ea, dx⟩ := DO.tup (.inl dn)
      refine ⟨a, rfl, ⟨vs, by rw [← hK]; exact ea⟩, p (Itt X.K a) H1 ⟨rr.drop, fun B' H2 mv => ?_⟩ (x.drop.less fun a z => z.elim id False.elim)⟩
      obtain ⟨a', vs', ea', e', x'⟩ := DO.tup (.inl (dn.mv mv))
      cases ea'
      rw [← hK]
      exact jw_tup e' x'
    | _ => simp only [ht, items] at p; exact p.elim
theorem jw_rng {K : PySem.W.Frag} {B : Av} {H : Hp} {lo : Int} {n : Nat} : JW K B (Itr lo n) ((List.range n).map fun (k : Nat) => .int (lo + k)) H := by
  refine ⟨fun i hi => ?_, fun i d y H2 hd hy _ => ?_, by simp [Itr]⟩
  · rw [List.length_map, List.length_range] at hi
    exact hi
  obtain ⟨z, hy⟩ := hy
  cases z
  subst hy
  rw [List.getElem?_map] at hd
  by_cases c : i < n
  · rw [List.getElem?_range c] at hd
    cases hd
    exact ⟨Same.refl _, .int _⟩
  · rw [List.getElem?_eq_none (by simpa using c)] at hd
    cases hd
theorem bnd62_of {n : Int} (h : bnd62 n = true) : -(2 ^ 62) ≤ n ∧ n < 2 ^ 62 := by
  simpa [bnd62] using h
theorem si_rng1 {tg a : Expr} {ms : List (M O)} {p pos : Pos} (hg : Gl X "range") (hm : X.mg "range" = none) (ha : PA X [a] (tOs C (mOs ms))) (hs : starEach [a] X.env = [(false, eval a X.env)]) : PI X tg (.Call (.Name "range" p) [a] [] pos) (tIt C (mRng1 ms)) :=
  (pi_range1 hg hm ha hs).mono fun σ H R ⟨U, ρ, Rr, p⟩ => by
  refine ⟨U, ρ, Rr, Post.seq p fun os ρ1 vs H1 rr x q => ?_⟩
  unfold rngF1 at q
  split at q
  · rename_i n e
    have dos := gets_do rr.1 rr.2 e
    split at q
    · rename_i c
      cases dos with
      | cons h t =>
        cases t
        cases h.int
        obtain ⟨c1, c2⟩ := bnd62_of c
        exact ⟨n, rfl, c1, c2, q (Itr 0 n.toNat) H1 ⟨rr.1, fun _ _ _ => jw_rng⟩ noOw_refl⟩
    · exact q.elim
  · exact q.elim
theorem si_rng2 {tg a b : Expr} {ms : List (M O)} {p pos : Pos} (hg : Gl X "range") (hm : X.mg "range" = none) (ha : PA X [a, b] (tOs C (mOs ms))) (hs : starEach [a, b] X.env = [(false, eval a X.env), (false, eval b X.env)]) (hs2 : starEach [b] X.env = [(false, eval b X.env)]) : PI X tg (.Call (.Name "range" p) [a, b] [] pos) (tIt C (mRng2 ms)) :=
  (pi_range2 hg hm ha hs hs2).mono fun σ H R ⟨U, ρ, Rr, p⟩ => by
  refine ⟨U, ρ, Rr, Post.seq p fun os ρ1 vs H1 rr x q => ?_⟩
  unfold rngF2 at q
  split at q
  · rename_i n m e
    have dos := gets_do rr.1 rr.2 e
    split at q
    · rename_i c
      rw [Bool.and_eq_true] at c
      cases dos with
      | cons h t =>
        cases t with
        | cons h2 t =>
          cases t
          cases h.int
          cases h2.int
          obtain ⟨c1, c2⟩ := bnd62_of c.1
          obtain ⟨c3, c4⟩ := bnd62_of c.2
          exact ⟨n, m, rfl, ⟨c1, c2, c3, c4⟩, q (Itr n (m - n).toNat) H1 ⟨rr.1, fun _ _ _ => jw_rng⟩ noOw_refl⟩
    · exact q.elim
  · exact q.elim
/-! ### loops -/
section
variable {U : Av} {σ : L2.St} {H : Hp} {ρ : Env} {N : Ends}
theorem PostS.loop {m k : M Fl} (h : PostS C lk U σ H ρ N (loopM m k ρ)) : PostS C lk U σ H ρ { N with nx := tS C lk k N, ct := tS C lk k N, bk := N.nx } (m ρ) := by
  unfold loopM bnd at h
  cases e : m ρ with
  | ok fl ρ1 =>
    rw [e] at h
    cases fl with
    | next => exact fun σ' H' R y l => ⟨U, ρ1, R, PostS.shift h y l⟩
    | cont => exact fun σ' H' R y l => ⟨U, ρ1, R, PostS.shift h y l⟩
    | brk => exact h
    | ret t => exact h
  | exn x ρ1 =>
    rw [e] at h
    exact h
  | stk =>
    rw [e] at h
    exact h
/-- .. keeping what else is known of the states in between -/
theorem PostS.loopK {m k : M Fl} {P : L2.St → Hp → Env → Prop} (h : PostS C lk U σ H ρ N (loopM m k ρ)) (hP : ∀ σ' H' ρ', Rel C.K U H' σ' ρ' → Ext (Own σ ρ) H (Own σ' ρ') H' → Lk lk σ σ' → P σ' H' ρ') :
    PostS C lk U σ H ρ { N with nx := fun σ' H' => ∃ ρ', Rel C.K U H' σ' ρ' ∧ P σ' H' ρ' ∧ PostS C lk U σ' H' ρ' N (k ρ'), ct := fun σ' H' => ∃ ρ', Rel C.K U H' σ' ρ' ∧ P σ' H' ρ' ∧ PostS C lk U σ' H' ρ' N (k ρ'), bk := N.nx } (m ρ) := by
  unfold loopM bnd at h
  cases e : m ρ with
  | ok fl ρ1 =>
    rw [e] at h
    cases fl with
    | next => exact fun σ' H' R y l => ⟨ρ1, R, hP σ' H' ρ1 R y l, PostS.shift h y l⟩
    | cont => exact fun σ' H' R y l => ⟨ρ1, R, hP σ' H' ρ1 R y l, PostS.shift h y l⟩
    | brk => exact h
    | ret t => exact h
  | exn x ρ1 =>
    rw [e] at h
    exact h
  | stk =>
    rw [e] at h
    exact h
end
theorem ss_for {tg iter : Expr} {body : List Stmt} {pos : Pos} {it : M (List D)} {t : Tg} {mb : M Fl} (hp : PassesOwn (model X.prog X.w) X.A X.env X.xe) (hc : X.calm = true) (hi : PI X tg iter (tIt C it)) (hg : PG X tg (tG C lk t)) (hb : PSs X body (tS C lk mb))
    (hs : ∀ x, foldedSetIterable iter X.env x = pure x) : PS X (.For tg iter body [] pos) (tS C lk (mFor lk it t mb)) := (ps_for hp hc hi hg hb hs).mono fun N σ H ⟨U, ρ, R, p⟩ => by
  refine ⟨U, ρ, R, PostS.seq p fun ds ρ1 J H1 rr x q => ?_⟩
  have q := PostS.shift q x.drop (Lk.refl (lk := lk) (σ := σ))
  obtain ⟨R1, jw⟩ := rr
  refine ⟨fun i m σ' H' => m = ds.length - i ∧ i ≤ ds.length ∧ ∃ ρ', Rel C.K U H' σ' ρ' ∧ Mv (Both U (Own σ ρ1)) H1 (Both U (Own σ' ρ')) H' ∧ PostS C lk U σ' H' ρ' N (forL lk t mb (ds.drop i) ρ'), ⟨ds.length, by simp, Nat.zero_le _, ρ1, R1, Mv.refl, q⟩, ?_⟩
  rintro i m σ' H' ⟨rfl, hi, ρ', R', mv, q'⟩
  have w := jw _ _ mv
  by_cases hlt : i < ds.length
  · refine .inr ⟨w.go i hlt, fun σ2 H2 => ∃ ρ2, Rel C.K U H2 σ2 ρ2 ∧ Mv (Both U (Own σ ρ1)) H1 (Both U (Own σ2 ρ2)) H2 ∧ PostS C lk U σ2 H2 ρ2 N (forL lk t mb (ds.drop (i + 1)) ρ2), fun σ2 H2 ⟨ρ2, h1, h2, h3⟩ => ⟨_, by omega, rfl, hlt, ρ2, h1, h2, h3⟩, fun y H2 hy => ?_⟩
    have hd : ds[i]? = some ds[i] := List.getElem?_eq_getElem hlt
    obtain ⟨sm, dy⟩ := w.yld i _ y H2 hd hy (tracked_both R')
    rw [List.drop_eq_getElem_cons hlt] at q'
    unfold forL bindM at q'
    cases eb : bindTg lk t ds[i] ρ' with
    | none => simp only [eb] at q'; exact q'.elim
    | some ρ2 =>
      simp only [eb] at q'
      have R2 : Rel C.K U H2 σ' ρ' := R'.grow sm (fun _ z => .inl z) fun a z => by
        obtain ⟨o, e⟩ := R'.tr a z
        exact ⟨o, sm a o e⟩
      refine ⟨U, ρ', ds[i], R2, dy, ρ2, eb, fun σ3 R3 ow lkk _ => ?_⟩
      have x2 : Ext (Own σ' ρ') H' (Own σ3 ρ2) H2 := (Ext.of_same sm).less ow
      refine ⟨U, ρ2, R3, PostS.loopK (P := fun σ4 H4 ρ4 => Mv (Both U (Own σ ρ1)) H1 (Both U (Own σ4 ρ4)) H4) (PostS.shift q' x2 lkk) fun σ4 H4 ρ4 R4 x4 l4 => (mv.trans x2.both).trans x4.both⟩
  · have e : i = ds.length := by omega
    subst e
    rw [List.drop_length] at q'
    exact .inl ⟨w.stop, q' σ' H' R' Ext.refl Lk.refl⟩
theorem ss_while {c : Expr} {body : List Stmt} {pos : Pos} {mc : M Bool} {mb : M Fl} {n : Nat} (hp : PassesOwn (model X.prog X.w) X.A X.env X.xe) (hc : PT X c (tT C mc)) (hb : PSs X body (tS C lk mb)) : PS X (.While c body [] pos) (tS C lk (whileL mc mb n)) := (ps_while hp hc hb).mono fun N σ H ⟨U, ρ, R, p⟩ => by
  refine ⟨fun m σ' H' => ∃ ρ', Rel C.K U H' σ' ρ' ∧ PostS C lk U σ' H' ρ' N (whileL mc mb m ρ'), ⟨n, ρ, R, p⟩, ?_⟩
  rintro m σ' H' ⟨ρ', R', q⟩
  cases m with
  | zero => exact q.elim
  | succ m =>
    refine ⟨U, ρ', R', PostS.seq q fun b ρ1 k H1 rr x z => ?_⟩
    obtain ⟨R1, rfl⟩ := rr
    have z := PostS.shift z x.drop (Lk.refl (lk := lk) (σ := σ'))
    cases k with
    | false =>
      rw [if_neg Bool.false_ne_true]
      exact z σ' H1 R1 Ext.refl Lk.refl
    | true =>
      rw [if_pos rfl]
      refine ⟨fun σ2 H2 => ∃ ρ2, Rel C.K U H2 σ2 ρ2 ∧ True ∧ PostS C lk U σ2 H2 ρ2 N (whileL mc mb m ρ2), fun σ2 H2 ⟨ρ2, h1, _, h3⟩ => ⟨m, by omega, ρ2, h1, h3⟩, ?_⟩
      exact ⟨U, ρ1, R1, PostS.loopK (P := fun _ _ _ => True) z fun _ _ _ _ _ _ => trivial⟩
end
end VS
set_option Elab.async false
set_option linter.all false
set_option maxRecDepth 100000
set_option maxHeartbeats 1000000
/-! The VS layer, part I: list comprehensions. -/
namespace VS
open PySem PySem.Spec PyProof.Rows L2

/-- slots emptied -/
def wipeE (own : List Nat) (ρ : Env) : Env := own.foldr (fun i r => r.set i none) ρ
/-- .. and as they were -/
def backE (own : List Nat) (ρ ρ' : Env) : Env := own.foldr (fun i r => match ρ[i]? with
  | some w => r.set i w
  | none => r) ρ'
def notOwn (ρ : Env) (i : Nat) : Bool := match ρ[i]? with
  | some (some t) => !t.own
  | _ => true
/-- the turns -/
def lcL (own : List Nat) (tg : Tg) (mt : M Bool) (me : M T) : List D → List D → M (List D)
  | [], acc => ret acc
  | d :: ds, acc => fun ρ => match bindTg [] tg d ρ with
    | none => .stk
    | some ρ1 => match mt ρ1 with
      | .ok true ρ2 => match me ρ2 with
        | .ok t ρ3 => if acc.length < sizeLine then lcL own tg mt me ds (acc ++ [t.toD]) (wipeE own ρ3) else .stk
        | _ => .stk
      | .ok false ρ2 => lcL own tg mt me ds acc (wipeE own ρ2)
      | _ => .stk
def lcAll (own : List Nat) (tg : Tg) (mt : M Bool) (me : M T) (ds : List D) : M T := fun ρ =>
  if own.all (notOwn ρ) && tg.slots.all (fun i => own.contains i) && own.all (fun i => decide (i < ρ.length)) then match lcL own tg mt me ds [] (wipeE own ρ) with
    | .ok xs ρ' => .ok (.lst xs) (backE own ρ ρ')
    | _ => .stk
  else .stk
def mLc (own : List Nat) (it : M (List D)) (tg : Tg) (mt : M Bool) (me : M T) : M T := bnd it (lcAll own tg mt me)

theorem wipeE_len {own : List Nat} {ρ : Env} : (wipeE own ρ).length = ρ.length := by
  induction own with
  | nil => rfl
  | cons i r ih => show ((wipeE r ρ).set i none).length = _; rw [List.length_set, ih]
theorem wipeE_out {i : Nat} {ρ : Env} : ∀ {own : List Nat}, i ∉ own → (wipeE own ρ)[i]? = ρ[i]?
  | [], _ => rfl
  | j :: r, h => by
    show ((wipeE r ρ).set j none)[i]? = _
    rw [List.getElem?_set_ne fun e => h (by rw [e]; exact .head _)]
    exact wipeE_out fun z => h (.tail _ z)
theorem wipeE_in {i : Nat} {ρ : Env} {t : T} : ∀ {own : List Nat}, (wipeE own ρ)[i]? = some (some t) → ρ[i]? = some (some t) ∧ i ∉ own
  | [], h => ⟨h, by simp⟩
  | j :: r, h => by
    have h : ((wipeE r ρ).set j none)[i]? = some (some t) := h
    by_cases c : j = i
    · subst c
      by_cases l : j < (wipeE r ρ).length
      · rw [List.getElem?_set_self l] at h; cases h
      · rw [List.getElem?_eq_none (by simpa using l)] at h; cases h
    · rw [List.getElem?_set_ne c] at h
      obtain ⟨a, b⟩ := wipeE_in h
      exact ⟨a, fun z => by
        rcases List.mem_cons.mp z with e | e
        · exact c e.symm
        · exact b e⟩
theorem wipe_in {i : Nat} {σ : L2.St} : ∀ {own : List Nat}, i ∈ own → i < σ.length → (wipe σ own)[i]? = some none
  | j :: r, h, l => by
    show ((wipe σ r).set j none)[i]? = _
    by_cases c : j = i
    · subst c; exact List.getElem?_set_self (by rw [wipe_length]; exact l)
    · rw [List.getElem?_set_ne c]
      rcases List.mem_cons.mp h with e | e
      · exact absurd e.symm c
      · exact wipe_in e l
theorem wipe_eq {own : List Nat} {σ σ' : L2.St} (hl : σ'.length = σ.length) (h : ∀ j, j ∉ own → σ'[j]? = σ[j]?) : wipe σ' own = wipe σ own := by
  apply List.ext_getElem?
  intro j
  by_cases c : j ∈ own
  · by_cases l : j < σ.length
    · rw [wipe_in c l, wipe_in c (by rw [hl]; exact l)]
    · rw [List.getElem?_eq_none (by rw [wipe_length, hl]; omega), List.getElem?_eq_none (by rw [wipe_length]; omega)]
  · rw [wipe_out c, wipe_out c, h j c]
theorem backE_len {own : List Nat} {ρ ρ' : Env} : (backE own ρ ρ').length = ρ'.length := by
  induction own with
  | nil => rfl
  | cons i r ih =>
    show (match ρ[i]? with | some w => (backE r ρ ρ').set i w | none => backE r ρ ρ').length = _
    split
    · rw [List.length_set, ih]
    · exact ih
theorem backE_out {i : Nat} {ρ ρ' : Env} : ∀ {own : List Nat}, i ∉ own → (backE own ρ ρ')[i]? = ρ'[i]?
  | [], _ => rfl
  | j :: r, h => by
    show (match ρ[j]? with | some w => (backE r ρ ρ').set j w | none => backE r ρ ρ')[i]? = _
    have ih := backE_out (ρ := ρ) (ρ' := ρ') (own := r) fun z => h (.tail _ z)
    split
    · rw [List.getElem?_set_ne fun e => h (by rw [e]; exact .head _)]; exact ih
    · exact ih
theorem backE_in {i : Nat} {ρ ρ' : Env} (l : i < ρ.length) (l' : i < ρ'.length) : ∀ {own : List Nat}, i ∈ own → (backE own ρ ρ')[i]? = ρ[i]?
  | j :: r, h => by
    show (match ρ[j]? with | some w => (backE r ρ ρ').set j w | none => backE r ρ ρ')[i]? = _
    by_cases c : j = i
    · subst c
      rw [List.getElem?_eq_getElem l]
      exact List.getElem?_set_self (by rw [backE_len]; exact l')
    · have ih : i ∈ r := by
        rcases List.mem_cons.mp h with e | e
        · exact absurd e.symm c
        · exact e
      split
      · rw [List.getElem?_set_ne c]; exact backE_in l l' ih
      · exact backE_in l l' ih
section
variable {K : PySem.W.Frag} {U : Av} {σ σ' : L2.St} {H H' : Hp} {ρ ρ' : Env} {own : List Nat}
theorem own_wipe {a : Addr} (h : Own (wipe σ own) (wipeE own ρ) a) : Own σ ρ a := by
  obtain ⟨j, t, e1, e2, e3⟩ := h
  obtain ⟨f1, f2⟩ := wipeE_in e1
  rw [wipe_out f2] at e3
  exact ⟨j, t, f1, e2, e3⟩
theorem Rel.wipe (R : Rel K U H σ ρ) : Rel K U H (L2.wipe σ own) (wipeE own ρ) := by
  have m : Mv (Both U (Own σ ρ)) H (Both U (Own (L2.wipe σ own) (wipeE own ρ))) H := Mv.less fun a z => z.elim .inl fun w => .inr (own_wipe w)
  refine ⟨by rw [wipe_length, wipeE_len]; exact R.len, fun j t e => ?_, R.tr, fun a z => R.nu a (own_wipe z), fun j k t u a e1 e2 e3 f1 f2 f3 => ?_⟩
  · obtain ⟨g1, g2⟩ := wipeE_in e
    obtain ⟨v, h1, h2⟩ := R.slot j t g1
    exact ⟨v, by rw [wipe_out g2]; exact h1, h2.mv m fun _ _ _ _ h => h⟩
  · obtain ⟨g1, g2⟩ := wipeE_in e1
    obtain ⟨g3, g4⟩ := wipeE_in f1
    rw [wipe_out g2] at e3
    rw [wipe_out g4] at f3
    exact R.inj j k t u a g1 e2 e3 g3 f2 f3
/-- .. and back: what the emptied slots held was nobody's own -/
theorem own_back {a : Addr} (hn : own.all (notOwn ρ) = true) (hl : own.all (fun i => decide (i < ρ.length)) = true) (h : Own σ (backE own ρ ρ') a) (hl' : ρ'.length = ρ.length) : Own (wipe σ own) ρ' a := by
  obtain ⟨j, t, e1, e2, e3⟩ := h
  by_cases c : j ∈ own
  · have l := of_decide_eq_true (List.all_eq_true.mp hl j c)
    rw [backE_in l (by rw [hl']; exact l) c] at e1
    have := List.all_eq_true.mp hn j c
    unfold notOwn at this
    rw [e1] at this
    simp [e2] at this
  · rw [backE_out c] at e1
    exact ⟨j, t, e1, e2, by rw [wipe_out c]; exact e3⟩
theorem Rel.back {U' : Av} (R : Rel K U H σ ρ) (R' : Rel K U' H' (L2.wipe σ own) ρ') (m : Mv (Both U (Own σ ρ)) H (Both U' (Own (L2.wipe σ own) ρ')) H') (hn : own.all (notOwn ρ) = true) (hl : own.all (fun i => decide (i < ρ.length)) = true) :
    Rel K U' H' σ (backE own ρ ρ') := by
  have hl' : ρ'.length = ρ.length := by rw [← R'.len, wipe_length, R.len]
  have ob : ∀ a, Own σ (backE own ρ ρ') a → Own (L2.wipe σ own) ρ' a := fun a z => own_back hn hl z hl'
  have m' : Mv (Both U' (Own (L2.wipe σ own) ρ')) H' (Both U' (Own σ (backE own ρ ρ'))) H' := Mv.less fun a z => z.elim .inl fun w => .inr (ob a w)
  have split : ∀ {j : Nat} {t : T}, (backE own ρ ρ')[j]? = some (some t) → (j ∈ own ∧ ρ[j]? = some (some t) ∧ t.own = false) ∨ (j ∉ own ∧ ρ'[j]? = some (some t)) := fun {j t} e => by
    by_cases c : j ∈ own
    · have l := of_decide_eq_true (List.all_eq_true.mp hl j c)
      rw [backE_in l (by rw [hl']; exact l) c] at e
      have := List.all_eq_true.mp hn j c
      unfold notOwn at this
      rw [e] at this
      exact .inl ⟨c, e, by simpa using this⟩
    · rw [backE_out c] at e
      exact .inr ⟨c, e⟩
  refine ⟨by rw [backE_len, hl']; exact R.len, fun j t e => ?_, R'.tr, fun a z => R'.nu a (ob a z), fun j k t u a e1 e2 e3 f1 f2 f3 => ?_⟩
  · rcases split e with ⟨c, e, no⟩ | ⟨c, e⟩
    · obtain ⟨v, h1, h2⟩ := R.slot j t e
      exact ⟨v, h1, (h2.mv m fun z => by rw [no] at z; cases z).mv m' fun _ _ _ _ h => h⟩
    · obtain ⟨v, h1, h2⟩ := R'.slot j t e
      exact ⟨v, by rw [wipe_out c] at h1; exact h1, h2.mv m' fun _ _ _ _ h => h⟩
  · rcases split e1 with ⟨_, _, no⟩ | ⟨c, e1⟩
    · rw [no] at e2; cases e2
    · rcases split f1 with ⟨_, _, no⟩ | ⟨c2, f1⟩
      · rw [no] at f2; cases f2
      · exact R'.inj j k t u a e1 e2 (by rw [wipe_out c]; exact e3) f1 f2 (by rw [wipe_out c2]; exact f3)
/-- a thing that is nobody's, kept out of, is written -/
theorem Rel.updU {a : Addr} {o : HO} (R : Rel K U H σ ρ) (h : U a) : Rel K U (upd H a o) σ ρ := by
  have m : Mv (Both U (Own σ ρ)) H (Both U (Own σ ρ)) (upd H a o) := mv_upd (.inl h)
  refine ⟨R.len, fun j t e => ?_, fun b z => ?_, R.nu, R.inj⟩
  · obtain ⟨v, h1, h2⟩ := R.slot j t e
    refine ⟨v, h1, h2.mv m fun ht b ob eb hb => ?_⟩
    rw [upd_ne fun z => R.nu b ⟨j, t, e, ht, by rw [h1, eb]⟩ (by rw [z]; exact h)]
    exact hb
  · by_cases hb : b = a
    · rw [hb]; exact ⟨o, upd_same⟩
    · obtain ⟨ob, eb⟩ := R.tr b z
      exact ⟨ob, by rw [upd_ne hb]; exact eb⟩
theorem Ext.updU {a : Addr} {o : HO} {W W' : Av} (x : Ext W H (Both W' (· = a)) H') : Ext W H (Both W' (· = a)) (upd H' a o) := ⟨fun b ob e n => by
  obtain ⟨h1, h2⟩ := x.mv b ob e n
  exact ⟨by rw [upd_ne fun z => h2 (.inr z)]; exact h1, h2⟩, fun b ob e => by
  obtain ⟨o', e'⟩ := x.dom b ob e
  by_cases hb : b = a
  · rw [hb]; exact ⟨o, upd_same⟩
  · exact ⟨o', by rw [upd_ne hb]; exact e'⟩⟩
end
theorem bindAll_len {lk : Lks} : ∀ {is : List Nat} {ds : List D} {ρ ρ' : Env}, bindAll lk is ds ρ = some ρ' → ρ'.length = ρ.length
  | [], [], _, _, e => by cases e; rfl
  | [], _ :: _, _, _, e => by cases e
  | _ :: _, [], _, _, e => by cases e
  | i :: is, d :: ds, ρ, ρ', e => by
    unfold bindAll at e
    split at e
    · rw [bindAll_len e, List.length_set]
    · cases e
theorem bind_len {lk : Lks} {tg : Tg} {d : D} {ρ ρ' : Env} (e : bindTg lk tg d ρ = some ρ') : ρ'.length = ρ.length := by
  cases tg with
  | name i =>
    have e : (if lkd lk i = false ∧ i < ρ.length then some (ρ.set i (some (.shr d))) else none) = some ρ' := e
    split at e
    · cases e; rw [List.length_set]
    · cases e
  | tup is =>
    cases d with
    | tuple ds => exact bindAll_len e
    | _ => cases e
abbrev Wd.nox (C : Wd) : Wd := { C with E := fun _ _ _ _ => False }
section
variable {X : Cx} {C : Wd}
theorem lc_of {own : List (Str × Nat)} {it : M (List D)} {t : Tg} {mt : M Bool} {me : M T} {σ : L2.St} {H : Hp} {Q : VK} (h : tE C (mLc (own.map (·.2)) it t mt me) σ H Q) : tLc (tIt C it) (tG C.nox [] t) (tT C.nox mt) (tE C.nox me) (own.map (·.2)) σ H Q := by
  obtain ⟨U, ρ, R, p⟩ := h
  refine ⟨U, ρ, R, Post.seq p fun ds ρ1 J H1 rr x q => ?_⟩
  obtain ⟨R1, jw⟩ := rr
  intro Da hD
  generalize own.map (·.2) = ow at *
  unfold lcAll at q
  split at q
  · rename_i cond
    simp only [Bool.and_eq_true] at cond
    obtain ⟨⟨cn, ct⟩, cl⟩ := cond
    cases e : lcL ow t mt me ds [] (wipeE ow ρ1) with
    | stk => simp only [e] at q; exact q.elim
    | exn _ _ => simp only [e] at q; exact q.elim
    | ok xs ρf =>
      simp only [e] at q
      -- the new list
      have xD : Ext (Own σ ρ1) H1 (Both (Own (wipe σ ow) (wipeE ow ρ1)) (· = Da)) (upd H1 Da (.lst [])) := ⟨fun b o eb n => ⟨by rw [upd_ne (ne_of_none eb hD)]; exact eb, fun z => z.elim (fun w => n (own_wipe w)) fun w => by
        rw [w, hD] at eb; cases eb⟩, fun b o eb => ⟨o, by rw [upd_ne (ne_of_none eb hD)]; exact eb⟩⟩
      have RD : Rel C.K (Both U (· = Da)) (upd H1 Da (.lst [])) (wipe σ ow) (wipeE ow ρ1) := (R1.wipe).grow (same_new hD) (fun a z => z.elim .inl fun w => .inr (by rw [w]; exact hD)) fun a z => z.elim (fun u => by
        obtain ⟨o, eo⟩ := R1.tr a u
        exact ⟨o, by rw [upd_ne (ne_of_none eo hD)]; exact eo⟩) fun w => by rw [w]; exact ⟨_, upd_same⟩
      refine ⟨fun i m H' => m = ds.length - i ∧ i ≤ ds.length ∧ ∃ ρ' acc vs, Rel C.K (Both U (· = Da)) H' (wipe σ ow) ρ' ∧ Ext (Own σ ρ1) H1 (Both (Own (wipe σ ow) ρ') (· = Da)) H' ∧ H' Da = some (.lst vs) ∧
        DnAll C.K (Both (Both U (· = Da)) (Own (wipe σ ow) ρ')) H' vs acc ∧ lcL ow t mt me (ds.drop i) acc ρ' = .ok xs ρf, ⟨ds.length, by simp, Nat.zero_le _, _, [], [], RD, xD, upd_same, .nil, e⟩, ?_⟩
      rintro i m H' ⟨rfl, hi, ρ', acc, vs, R', x', eD, dn, el⟩
      have mvU : Mv (Both U (Own σ ρ1)) H1 (Both (Both U (· = Da)) (Own (wipe σ ow) ρ')) H' := fun b o eb n => by
        obtain ⟨h1, h2⟩ := x'.mv b o eb fun z => n (.inr z)
        exact ⟨h1, fun z => by
          rcases z with (z | z) | z
          · exact n (.inl z)
          · exact h2 (.inr z)
          · exact h2 (.inl z)⟩
      have w := jw _ _ mvU
      by_cases hlt : i < ds.length
      · refine .inr ⟨w.go i hlt, fun H2 => ∃ ρ2 acc vs, Rel C.K (Both U (· = Da)) H2 (wipe σ ow) ρ2 ∧ Ext (Own σ ρ1) H1 (Both (Own (wipe σ ow) ρ2) (· = Da)) H2 ∧ H2 Da = some (.lst vs) ∧
          DnAll C.K (Both (Both U (· = Da)) (Own (wipe σ ow) ρ2)) H2 vs acc ∧ lcL ow t mt me (ds.drop (i + 1)) acc ρ2 = .ok xs ρf, fun H2 ⟨ρ2, acc, vs, h1, h2, h3, h4, h5⟩ => ⟨_, by omega, rfl, hlt, ρ2, acc, vs, h1, h2, h3, h4, h5⟩, fun y H2 hy => ?_⟩
        have hd : ds[i]? = some ds[i] := List.getElem?_eq_getElem hlt
        obtain ⟨sm, dy⟩ := w.yld i _ y H2 hd hy (tracked_both R')
        rw [List.drop_eq_getElem_cons hlt] at el
        unfold lcL at el
        cases eb : bindTg [] t ds[i] ρ' with
        | none => simp only [eb] at el; cases el
        | some ρ2 =>
          simp only [eb] at el
          have R2 : Rel C.K (Both U (· = Da)) H2 (wipe σ ow) ρ' := R'.grow sm (fun _ z => .inl z) fun a z => by
            obtain ⟨o, eo⟩ := R'.tr a z
            exact ⟨o, sm a o eo⟩
          have x2 : Ext (Own σ ρ1) H1 (Both (Own (wipe σ ow) ρ') (· = Da)) H2 := x'.trans (Ext.of_same sm)
          have dn2 : DnAll C.K (Both (Both U (· = Da)) (Own (wipe σ ow) ρ')) H2 vs acc := dn.mv fun b o eo n => ⟨sm b o eo, n⟩
          refine ⟨Both U (· = Da), ρ', ds[i], R2, dy, ρ2, eb, fun σ3 R3 ow3 _ keep => ⟨?_, ?_⟩⟩
          · rw [wipe_eq (σ' := σ3) (σ := wipe σ ow) (by rw [R3.len, bind_len eb, R2.len]) fun j hj => keep j fun z => hj (by
              have := List.all_eq_true.mp ct j z
              simpa using this)]
            exact wipe_eq (wipe_length σ ow) fun j hj => wipe_out hj
          · have wq : wipe σ3 ow = wipe σ ow := by
              rw [wipe_eq (σ' := σ3) (σ := wipe σ ow) (by rw [R3.len, bind_len eb, R2.len]) fun j hj => keep j fun z => hj (by
                have := List.all_eq_true.mp ct j z
                simpa using this)]
              exact wipe_eq (wipe_length σ ow) fun j hj => wipe_out hj
            have x3 : Ext (Own σ ρ1) H1 (Both (Own σ3 ρ2) (· = Da)) H2 := x2.less fun a z => z.elim (fun u => .inl (ow3 a u)) .inr
            have dn3 : DnAll C.K (Both (Both U (· = Da)) (Own σ3 ρ2)) H2 vs acc := dn2.mv (Mv.less fun a z => z.elim .inl fun u => .inr (ow3 a u))
            have eD2 : H2 Da = some (.lst vs) := sm _ _ eD
            -- behind the test and the element the slots are emptied again
            have step : ∀ (ρ5 : Env) (H5 : Hp) (vs5 : List V) (acc5 : List D), Rel C.K (Both U (· = Da)) H5 σ3 ρ5 → Ext (Own σ ρ1) H1 (Both (Own σ3 ρ5) (· = Da)) H5 → H5 Da = some (.lst vs5) → DnAll C.K (Both (Both U (· = Da)) (Own σ3 ρ5)) H5 vs5 acc5 → lcL ow t mt me (ds.drop (i + 1)) acc5 (wipeE ow ρ5) = .ok xs ρf →
                ∃ ρ2 acc vs, Rel C.K (Both U (· = Da)) H5 (wipe σ ow) ρ2 ∧ Ext (Own σ ρ1) H1 (Both (Own (wipe σ ow) ρ2) (· = Da)) H5 ∧ H5 Da = some (.lst vs) ∧ DnAll C.K (Both (Both U (· = Da)) (Own (wipe σ ow) ρ2)) H5 vs acc ∧ lcL ow t mt me (ds.drop (i + 1)) acc ρ2 = .ok xs ρf := by
              intro ρ5 H5 vs5 acc5 R5 x5 e5 d5 l5
              refine ⟨wipeE ow ρ5, acc5, vs5, ?_, ?_, e5, ?_, l5⟩
              · rw [← wq]; exact R5.wipe
              · rw [← wq]; exact x5.less fun a z => z.elim (fun u => .inl (own_wipe u)) .inr
              · rw [← wq]; exact d5.mv (Mv.less fun a z => z.elim .inl fun u => .inr (own_wipe u))
            refine ⟨Both U (· = Da), ρ2, R3, ?_⟩
            cases e3 : mt ρ2 with
            | stk => simp only [e3] at el; cases el
            | exn _ _ => simp only [e3] at el; cases el
            | ok b ρ3 =>
              intro b' H3 rb xb
              obtain ⟨Rb, rfl⟩ := rb
              have xb := xb.drop
              have mb : Mv (Both (Both U (· = Da)) (Own σ3 ρ2)) H2 (Both (Both U (· = Da)) (Own σ3 ρ3)) H3 := xb.both
              have eD3 : H3 Da = some (.lst vs) := (xb.mv _ _ eD2 fun z => R3.nu _ z (.inr rfl)).1
              have x3b : Ext (Own σ ρ1) H1 (Both (Own σ3 ρ3) (· = Da)) H3 := ⟨fun c o ec n => by
                obtain ⟨h1, h2⟩ := x3.mv c o ec n
                obtain ⟨h3, h4⟩ := xb.mv c o h1 fun z => h2 (.inl z)
                exact ⟨h3, fun z => z.elim h4 fun u => h2 (.inr u)⟩, fun c o ec => by
                obtain ⟨o', eo⟩ := x3.dom c o ec
                exact xb.dom c o' eo⟩
              cases b' with
              | false =>
                simp only [e3] at el
                rw [if_neg Bool.false_ne_true]
                exact step ρ3 H3 vs acc Rb x3b eD3 (dn3.mv mb) el
              | true =>
                simp only [e3] at el
                rw [if_pos rfl]
                refine ⟨Both U (· = Da), ρ3, Rb, ?_⟩
                cases e4 : me ρ3 with
                | stk => simp only [e4] at el; cases el
                | exn _ _ => simp only [e4] at el; cases el
                | ok tt ρ4 =>
                  simp only [e4] at el
                  split at el
                  · rename_i lz
                    intro z H4 rz xz
                    have xz := xz.drop
                    have eD4 : H4 Da = some (.lst vs) := (xz.mv _ _ eD3 fun z => Rb.nu _ z (.inr rfl)).1
                    have dn4 := (dn3.mv mb).mv xz.both
                    have dz := rz.frz
                    have x4 : Ext (Own σ ρ1) H1 (Both (Own σ3 ρ4) (· = Da)) H4 := ⟨fun c o ec n => by
                      obtain ⟨h1, h2⟩ := x3b.mv c o ec n
                      obtain ⟨h3, h4⟩ := xz.mv c o h1 fun z => h2 (.inl z)
                      exact ⟨h3, fun z => z.elim h4 fun u => h2 (.inr u)⟩, fun c o ec => by
                      obtain ⟨o', eo⟩ := x3b.dom c o ec
                      exact xz.dom c o' eo⟩
                    refine ⟨vs, eD4, by rw [dn4.len]; exact lz, ?_⟩
                    exact step ρ4 _ _ _ (rz.drop.updU (.inr rfl)) x4.updU upd_same ((dn4.app (.cons dz .nil)).mv (mv_upd (.inl (.inr rfl)))) el
                  · cases el
      · have ei : i = ds.length := by omega
        subst ei
        rw [List.drop_length] at el
        have el : VS.R.ok acc ρ' = VS.R.ok xs ρf := el
        have e12 : xs = acc ∧ ρf = ρ' := by
          cases el
          exact ⟨rfl, rfl⟩
        obtain ⟨rfl, rfl⟩ := e12
        refine .inl ⟨w.stop, ?_⟩
        have RB := Rel.back R1 R' mvU cn cl
        have hlen : ρf.length = ρ1.length := by rw [← R'.len, wipe_length, R1.len]
        have ob : ∀ a, Own σ (backE ow ρ1 ρf) a → Own (wipe σ ow) ρf a := fun a z => own_back cn cl z hlen
        have one : ∀ a, OwnT (.lst xs) (.ref Da) a → a = Da := fun a z => by
          have := z.2
          cases this
          rfl
        refine q (.ref Da) H' ⟨RB.less fun a z => z.elim .inl fun u => .inr (one a u), ⟨Da, vs, rfl, eD, dn.mv (Mv.less fun a z => ?_)⟩, fun a z u => ?_⟩ (x'.less fun a z => z.elim (fun u => .inl (ob a u)) fun u => .inr (one a u))
        · rcases z with (z | z) | z
          · exact .inl (.inl z)
          · exact .inl (.inr (one a z))
          · exact .inr (ob a z)
        · obtain ⟨o, eo⟩ := R1.tr a u
          rw [one a z, hD] at eo
          cases eo
  · exact q.elim
theorem se_lc {tg iter elt : Expr} {ifs : List Expr} {scope : Scope} {own : List (Str × Nat)} {pos : Pos} {it : M (List D)} {t : Tg} {mt : M Bool} {me : M T} (hc : X.calm = true) (hN : X.N.Nodup) (hi : PI X tg iter (tIt C it)) (ok : BlkOk X.N X.env.scope scope own)
    (hg : ∀ (s : Shared) (H : Hp) (L : Addr) (cl : List (Str × Addr)) (fp : List Addr), PG (X.blk s H scope (compEnvC scope cl L X.env) fp) tg (tG C.nox [] t))
    (ht : ∀ (s : Shared) (H : Hp) (L : Addr) (cl : List (Str × Addr)) (fp : List Addr), PTs (X.blk s H scope (compEnvC scope cl L X.env) fp) ifs (tT C.nox mt))
    (he : ∀ (s : Shared) (H : Hp) (L : Addr) (cl : List (Str × Addr)) (fp : List Addr), PE (X.blk s H scope (compEnvC scope cl L X.env) fp) elt (tE C.nox me)) (hs : ∀ x, foldedSetIterable iter X.env x = pure x) :
    PE X (.ListComp elt [⟨tg, iter, ifs, 0⟩] scope pos) (tE C (mLc (own.map (·.2)) it t mt me)) := (pe_lc hc hN hi ok hg ht he hs).mono fun _ _ _ h => lc_of h
end
end VS
set_option Elab.async false
set_option linter.all false
set_option maxRecDepth 100000
set_option maxHeartbeats 1000000
/-! The VS layer, part I2: dict comprehensions; d.update. -/
namespace VS
open PySem PySem.Spec PyProof.Rows L2

/-- the turns -/
def dcL (own : List Nat) (tg : Tg) (mt : M Bool) (mk me : M T) : List D → List (Key × D) → M (List (Key × D))
  | [], acc => ret acc
  | d :: ds, acc => fun ρ => match bindTg [] tg d ρ with
    | none => .stk
    | some ρ1 => match mt ρ1 with
      | .ok true ρ2 => match mk ρ2 with
        | .ok tk ρ3 => match unD tk.toD with
          | some k => match me ρ3 with
            | .ok t ρ4 => if acc.length < sizeLine then dcL own tg mt mk me ds (putG acc k t.toD) (wipeE own ρ4) else .stk
            | _ => .stk
          | none => .stk
        | _ => .stk
      | .ok false ρ2 => dcL own tg mt mk me ds acc (wipeE own ρ2)
      | _ => .stk
def dcAll (own : List Nat) (tg : Tg) (mt : M Bool) (mk me : M T) (ds : List D) : M T := fun ρ =>
  if own.all (notOwn ρ) && tg.slots.all (fun i => own.contains i) && own.all (fun i => decide (i < ρ.length)) then match dcL own tg mt mk me ds [] (wipeE own ρ) with
    | .ok xs ρ' => .ok (.dic xs) (backE own ρ ρ')
    | _ => .stk
  else .stk
def mDc (own : List Nat) (it : M (List D)) (tg : Tg) (mt : M Bool) (mk me : M T) : M T := bnd it (dcAll own tg mt mk me)
section
variable {X : Cx} {C : Wd}
theorem dc_of {own : List (Str × Nat)} {it : M (List D)} {t : Tg} {mt : M Bool} {mk me : M T} {σ : L2.St} {H : Hp} {Q : VK} (h : tE C (mDc (own.map (·.2)) it t mt mk me) σ H Q) : tDc (tIt C it) (tG C.nox [] t) (tT C.nox mt) (tE C.nox mk) (tE C.nox me) (own.map (·.2)) σ H Q := by
  obtain ⟨U, ρ, R, p⟩ := h
  refine ⟨U, ρ, R, Post.seq p fun ds ρ1 J H1 rr x q => ?_⟩
  obtain ⟨R1, jw⟩ := rr
  intro Da hD
  generalize own.map (·.2) = ow at *
  unfold dcAll at q
  split at q
  · rename_i cond
    simp only [Bool.and_eq_true] at cond
    obtain ⟨⟨cn, ct⟩, cl⟩ := cond
    cases e : dcL ow t mt mk me ds [] (wipeE ow ρ1) with
    | stk => simp only [e] at q; exact q.elim
    | exn _ _ => simp only [e] at q; exact q.elim
    | ok xs ρf =>
      simp only [e] at q
      -- the new list
      have xD : Ext (Own σ ρ1) H1 (Both (Own (wipe σ ow) (wipeE ow ρ1)) (· = Da)) (upd H1 Da (.dK [])) := ⟨fun b o eb n => ⟨by rw [upd_ne (ne_of_none eb hD)]; exact eb, fun z => z.elim (fun w => n (own_wipe w)) fun w => by
        rw [w, hD] at eb; cases eb⟩, fun b o eb => ⟨o, by rw [upd_ne (ne_of_none eb hD)]; exact eb⟩⟩
      have RD : Rel C.K (Both U (· = Da)) (upd H1 Da (.dK [])) (wipe σ ow) (wipeE ow ρ1) := (R1.wipe).grow (same_new hD) (fun a z => z.elim .inl fun w => .inr (by rw [w]; exact hD)) fun a z => z.elim (fun u => by
        obtain ⟨o, eo⟩ := R1.tr a u
        exact ⟨o, by rw [upd_ne (ne_of_none eo hD)]; exact eo⟩) fun w => by rw [w]; exact ⟨_, upd_same⟩
      refine ⟨fun i m H' => m = ds.length - i ∧ i ≤ ds.length ∧ ∃ (ρ' : Env) (acc : List (Key × D)) (vs : List V), Rel C.K (Both U (· = Da)) H' (wipe σ ow) ρ' ∧ Ext (Own σ ρ1) H1 (Both (Own (wipe σ ow) ρ') (· = Da)) H' ∧ H' Da = some (.dK (List.zip (acc.map (·.1)) vs)) ∧
        DnAll C.K (Both (Both U (· = Da)) (Own (wipe σ ow) ρ')) H' vs (acc.map (·.2)) ∧ dcL ow t mt mk me (ds.drop i) acc ρ' = .ok xs ρf, ⟨ds.length, by simp, Nat.zero_le _, _, [], [], RD, xD, upd_same, .nil, e⟩, ?_⟩
      rintro i m H' ⟨rfl, hi, ρ', acc, vs, R', x', eD, dn, el⟩
      have mvU : Mv (Both U (Own σ ρ1)) H1 (Both (Both U (· = Da)) (Own (wipe σ ow) ρ')) H' := fun b o eb n => by
        obtain ⟨h1, h2⟩ := x'.mv b o eb fun z => n (.inr z)
        exact ⟨h1, fun z => by
          rcases z with (z | z) | z
          · exact n (.inl z)
          · exact h2 (.inr z)
          · exact h2 (.inl z)⟩
      have w := jw _ _ mvU
      by_cases hlt : i < ds.length
      · refine .inr ⟨w.go i hlt, fun H2 => ∃ (ρ2 : Env) (acc : List (Key × D)) (vs : List V), Rel C.K (Both U (· = Da)) H2 (wipe σ ow) ρ2 ∧ Ext (Own σ ρ1) H1 (Both (Own (wipe σ ow) ρ2) (· = Da)) H2 ∧ H2 Da = some (.dK (List.zip (acc.map (·.1)) vs)) ∧
          DnAll C.K (Both (Both U (· = Da)) (Own (wipe σ ow) ρ2)) H2 vs (acc.map (·.2)) ∧ dcL ow t mt mk me (ds.drop (i + 1)) acc ρ2 = .ok xs ρf, fun H2 ⟨ρ2, acc, vs, h1, h2, h3, h4, h5⟩ => ⟨_, by omega, rfl, hlt, ρ2, acc, vs, h1, h2, h3, h4, h5⟩, fun y H2 hy => ?_⟩
        have hd : ds[i]? = some ds[i] := List.getElem?_eq_getElem hlt
        obtain ⟨sm, dy⟩ := w.yld i _ y H2 hd hy (tracked_both R')
        rw [List.drop_eq_getElem_cons hlt] at el
        unfold dcL at el
        cases eb : bindTg [] t ds[i] ρ' with
        | none => simp only [eb] at el; cases el
        | some ρ2 =>
          simp only [eb] at el
          have R2 : Rel C.K (Both U (· = Da)) H2 (wipe σ ow) ρ' := R'.grow sm (fun _ z => .inl z) fun a z => by
            obtain ⟨o, eo⟩ := R'.tr a z
            exact ⟨o, sm a o eo⟩
          have x2 : Ext (Own σ ρ1) H1 (Both (Own (wipe σ ow) ρ') (· = Da)) H2 := x'.trans (Ext.of_same sm)
          have dn2 : DnAll C.K (Both (Both U (· = Da)) (Own (wipe σ ow) ρ')) H2 vs (acc.map (·.2)) := dn.mv fun b o eo n => ⟨sm b o eo, n⟩
          refine ⟨Both U (· = Da), ρ', ds[i], R2, dy, ρ2, eb, fun σ3 R3 ow3 _ keep => ⟨?_, ?_⟩⟩
          · rw [wipe_eq (σ' := σ3) (σ := wipe σ ow) (by rw [R3.len, bind_len eb, R2.len]) fun j hj => keep j fun z => hj (by
              have := List.all_eq_true.mp ct j z
              simpa using this)]
            exact wipe_eq (wipe_length σ ow) fun j hj => wipe_out hj
          · have wq : wipe σ3 ow = wipe σ ow := by
              rw [wipe_eq (σ' := σ3) (σ := wipe σ ow) (by rw [R3.len, bind_len eb, R2.len]) fun j hj => keep j fun z => hj (by
                have := List.all_eq_true.mp ct j z
                simpa using this)]
              exact wipe_eq (wipe_length σ ow) fun j hj => wipe_out hj
            have x3 : Ext (Own σ ρ1) H1 (Both (Own σ3 ρ2) (· = Da)) H2 := x2.less fun a z => z.elim (fun u => .inl (ow3 a u)) .inr
            have dn3 : DnAll C.K (Both (Both U (· = Da)) (Own σ3 ρ2)) H2 vs (acc.map (·.2)) := dn2.mv (Mv.less fun a z => z.elim .inl fun u => .inr (ow3 a u))
            have eD2 : H2 Da = some (.dK (List.zip (acc.map (·.1)) vs)) := sm _ _ eD
            -- behind the test and the element the slots are emptied again
            have step : ∀ (ρ5 : Env) (H5 : Hp) (vs5 : List V) (acc5 : List (Key × D)), Rel C.K (Both U (· = Da)) H5 σ3 ρ5 → Ext (Own σ ρ1) H1 (Both (Own σ3 ρ5) (· = Da)) H5 → H5 Da = some (.dK (List.zip (acc5.map (·.1)) vs5)) → DnAll C.K (Both (Both U (· = Da)) (Own σ3 ρ5)) H5 vs5 (acc5.map (·.2)) → dcL ow t mt mk me (ds.drop (i + 1)) acc5 (wipeE ow ρ5) = .ok xs ρf →
                ∃ (ρ2 : Env) (acc : List (Key × D)) (vs : List V), Rel C.K (Both U (· = Da)) H5 (wipe σ ow) ρ2 ∧ Ext (Own σ ρ1) H1 (Both (Own (wipe σ ow) ρ2) (· = Da)) H5 ∧ H5 Da = some (.dK (List.zip (acc.map (·.1)) vs)) ∧ DnAll C.K (Both (Both U (· = Da)) (Own (wipe σ ow) ρ2)) H5 vs (acc.map (·.2)) ∧ dcL ow t mt mk me (ds.drop (i + 1)) acc ρ2 = .ok xs ρf := by
              intro ρ5 H5 vs5 acc5 R5 x5 e5 d5 l5
              refine ⟨wipeE ow ρ5, acc5, vs5, ?_, ?_, e5, ?_, l5⟩
              · rw [← wq]; exact R5.wipe
              · rw [← wq]; exact x5.less fun a z => z.elim (fun u => .inl (own_wipe u)) .inr
              · rw [← wq]; exact d5.mv (Mv.less fun a z => z.elim .inl fun u => .inr (own_wipe u))
            refine ⟨Both U (· = Da), ρ2, R3, ?_⟩
            cases e3 : mt ρ2 with
            | stk => simp only [e3] at el; cases el
            | exn _ _ => simp only [e3] at el; cases el
            | ok b ρ3 =>
              intro b' H3 rb xb
              obtain ⟨Rb, rfl⟩ := rb
              have xb := xb.drop
              have mb : Mv (Both (Both U (· = Da)) (Own σ3 ρ2)) H2 (Both (Both U (· = Da)) (Own σ3 ρ3)) H3 := xb.both
              have eD3 : H3 Da = some (.dK (List.zip (acc.map (·.1)) vs)) := (xb.mv _ _ eD2 fun z => R3.nu _ z (.inr rfl)).1
              have x3b : Ext (Own σ ρ1) H1 (Both (Own σ3 ρ3) (· = Da)) H3 := ⟨fun c o ec n => by
                obtain ⟨h1, h2⟩ := x3.mv c o ec n
                obtain ⟨h3, h4⟩ := xb.mv c o h1 fun z => h2 (.inl z)
                exact ⟨h3, fun z => z.elim h4 fun u => h2 (.inr u)⟩, fun c o ec => by
                obtain ⟨o', eo⟩ := x3.dom c o ec
                exact xb.dom c o' eo⟩
              cases b' with
              | false =>
                simp only [e3] at el
                rw [if_neg Bool.false_ne_true]
                exact step ρ3 H3 vs acc Rb x3b eD3 (dn3.mv mb) el
              | true =>
                simp only [e3] at el
                rw [if_pos rfl]
                refine ⟨Both U (· = Da), ρ3, Rb, ?_⟩
                cases e4 : mk ρ3 with
                | stk => simp only [e4] at el; cases el
                | exn _ _ => simp only [e4] at el; cases el
                | ok tk ρ4 =>
                  simp only [e4] at el
                  cases ek : unD tk.toD with
                  | none => simp only [ek] at el; cases el
                  | some kk =>
                    simp only [ek] at el
                    intro yk H4 rk xk
                    have xk := xk.drop
                    have eD4 : H4 Da = some (.dK (List.zip (acc.map (·.1)) vs)) := (xk.mv _ _ eD3 fun z => Rb.nu _ z (.inr rfl)).1
                    have dn4 := (dn3.mv mb).mv xk.both
                    have ey : yk = kV kk := unD_kV (.inl rk.frz) ek
                    have x4 : Ext (Own σ ρ1) H1 (Both (Own σ3 ρ4) (· = Da)) H4 := ⟨fun c o ec n => by
                      obtain ⟨h1, h2⟩ := x3b.mv c o ec n
                      obtain ⟨h3, h4⟩ := xk.mv c o h1 fun z => h2 (.inl z)
                      exact ⟨h3, fun z => z.elim h4 fun u => h2 (.inr u)⟩, fun c o ec => by
                      obtain ⟨o', eo⟩ := x3b.dom c o ec
                      exact xk.dom c o' eo⟩
                    refine ⟨Both U (· = Da), ρ4, rk.drop, ?_⟩
                    cases e5 : me ρ4 with
                    | stk => simp only [e5] at el; cases el
                    | exn _ _ => simp only [e5] at el; cases el
                    | ok tt ρ5 =>
                      simp only [e5] at el
                      split at el
                      · rename_i lz
                        intro z H5 rz xz
                        have xz := xz.drop
                        have eD5 : H5 Da = some (.dK (List.zip (acc.map (·.1)) vs)) := (xz.mv _ _ eD4 fun z => rk.drop.nu _ z (.inr rfl)).1
                        have dn5 := dn4.mv xz.both
                        have dz := rz.frz
                        have x5 : Ext (Own σ ρ1) H1 (Both (Own σ3 ρ5) (· = Da)) H5 := ⟨fun c o ec n => by
                          obtain ⟨h1, h2⟩ := x4.mv c o ec n
                          obtain ⟨h3, h4⟩ := xz.mv c o h1 fun z => h2 (.inl z)
                          exact ⟨h3, fun z => z.elim h4 fun u => h2 (.inr u)⟩, fun c o ec => by
                          obtain ⟨o', eo⟩ := x4.dom c o ec
                          exact xz.dom c o' eo⟩
                        obtain ⟨vs', z1, z2⟩ := putK_zip (k := kk) dz dn5
                        refine ⟨_, kk, ey, eD5, by rw [List.length_zip, dn5.len, List.length_map, List.length_map, Nat.min_self]; exact lz, ?_⟩
                        rw [z1]
                        exact step ρ5 _ _ _ (rz.drop.updU (.inr rfl)) x5.updU upd_same (z2.mv (mv_upd (.inl (.inr rfl)))) el
                      · cases el
      · have ei : i = ds.length := by omega
        subst ei
        rw [List.drop_length] at el
        have el : VS.R.ok acc ρ' = VS.R.ok xs ρf := el
        have e12 : xs = acc ∧ ρf = ρ' := by
          cases el
          exact ⟨rfl, rfl⟩
        obtain ⟨rfl, rfl⟩ := e12
        refine .inl ⟨w.stop, ?_⟩
        have RB := Rel.back R1 R' mvU cn cl
        have hlen : ρf.length = ρ1.length := by rw [← R'.len, wipe_length, R1.len]
        have ob : ∀ a, Own σ (backE ow ρ1 ρf) a → Own (wipe σ ow) ρf a := fun a z => own_back cn cl z hlen
        have one : ∀ a, OwnT (.dic xs) (.ref Da) a → a = Da := fun a z => by
          have := z.2
          cases this
          rfl
        refine q (.ref Da) H' ⟨RB.less fun a z => z.elim .inl fun u => .inr (one a u), ⟨Da, vs, rfl, eD, dn.mv (Mv.less fun a z => ?_)⟩, fun a z u => ?_⟩ (x'.less fun a z => z.elim (fun u => .inl (ob a u)) fun u => .inr (one a u))
        · rcases z with (z | z) | z
          · exact .inl (.inl z)
          · exact .inl (.inr (one a z))
          · exact .inr (ob a z)
        · obtain ⟨o, eo⟩ := R1.tr a u
          rw [one a z, hD] at eo
          cases eo
  · exact q.elim
theorem se_dc {tg iter kx elt : Expr} {ifs : List Expr} {scope : Scope} {own : List (Str × Nat)} {pos : Pos} {it : M (List D)} {t : Tg} {mt : M Bool} {mk me : M T} (hc : X.calm = true) (hN : X.N.Nodup) (hi : PI X tg iter (tIt C it)) (ok : BlkOk X.N X.env.scope scope own)
    (hg : ∀ (s : Shared) (H : Hp) (L : Addr) (cl : List (Str × Addr)) (fp : List Addr), PG (X.blk s H scope (compEnvC scope cl L X.env) fp) tg (tG C.nox [] t))
    (ht : ∀ (s : Shared) (H : Hp) (L : Addr) (cl : List (Str × Addr)) (fp : List Addr), PTs (X.blk s H scope (compEnvC scope cl L X.env) fp) ifs (tT C.nox mt))
    (hk : ∀ (s : Shared) (H : Hp) (L : Addr) (cl : List (Str × Addr)) (fp : List Addr), PE (X.blk s H scope (compEnvC scope cl L X.env) fp) kx (tE C.nox mk))
    (he : ∀ (s : Shared) (H : Hp) (L : Addr) (cl : List (Str × Addr)) (fp : List Addr), PE (X.blk s H scope (compEnvC scope cl L X.env) fp) elt (tE C.nox me)) (hs : ∀ x, foldedSetIterable iter X.env x = pure x) :
    PE X (.DictComp kx elt [⟨tg, iter, ifs, 0⟩] scope pos) (tE C (mDc (own.map (·.2)) it t mt mk me)) := (pe_dc hc hN hi ok hg ht hk he hs).mono fun _ _ _ h => dc_of h
end
/-! ### d.update(..) -/
def ownDic (i : Nat) (ρ : Env) : Bool := match ρ[i]? with
  | some (some (.dic _)) => true
  | _ => false
def finUpd (i : Nat) (os : List O) : M T := fun ρ => match vals os, ρ[i]? with
  | some [.dict kvs], some (some (.dic kds)) => match undic kvs with
    | some more => if kds.length + more.length ≤ sizeLine then .ok (.shr .none) (ρ.set i (some (.dic (more.foldl (fun acc p => putG acc p.1 p.2) kds)))) else .stk
    | none => .stk
  | _, _ => .stk
def mUpd (i : Nat) (ms : List (M O)) : M T := fun ρ => if ownDic i ρ then bnd (mOs ms) (finUpd i) ρ else .stk
section
variable {X : Cx} {C : Wd}
theorem mt_upd : MtR X "dict.update" (fun x vs H Q => ∃ (a b : Addr) (kvs more : List (Key × V)), x = .ref a ∧ vs = [.ref b] ∧ a ≠ b ∧ H a = some (.dK kvs) ∧ H b = some (.dK more) ∧ kvs.length + more.length ≤ sizeLine ∧ Q .non (upd H a (.dK (more.foldl (fun acc p => putK acc p.1 p.2) kvs)))) :=
  fun pins s σ H x xs v us Q I rx rxs h => by
  obtain ⟨a, b, kvs, more, rfl, rfl, hab, ea, eb, hz, q⟩ := h
  cases rx
  rw [Vals.ref1 rxs]
  obtain ⟨z, hd, vs, rel, dd⟩ := dk_of I.hok ea
  obtain ⟨z2, hd2, ws, rel2, dd2⟩ := dk_of I.hok eb
  have l1 : kvs.length = vs.length := Paired.length rel
  have l2 : more.length = ws.length := Paired.length rel2
  have rm : ∀ {more : List (Key × V)} {ws : List (Key × Value)}, KV more ws → ∀ {kvs : List (Key × V)} {vs : List (Key × Value)}, KV kvs vs → KV (more.foldl (fun acc p => putK acc p.1 p.2) kvs) (merged vs ws) := by
    intro more
    induction more with
    | nil =>
      intro ws r kvs vs r0
      cases r
      exact r0
    | cons p more ih =>
      intro ws r kvs vs r0
      cases r with
      | cons h t =>
        obtain ⟨h1, h2⟩ := h
        show KV (more.foldl (fun acc p => putK acc p.1 p.2) (putK kvs p.1 p.2)) _
        have := ih t (r0.put p.1 h2)
        rw [h1] at this ⊢
        exact this
  have hr := rm rel2 rel
  refine call_meetsIn PySem.F.slot_dict_update dd.typeIs PySem.F.entry_dict_update (PySem.F.args_dict_update_2 _ _) (meets_dict_update (mixKind X.prog X.w) a b hab hd2) ⟨vs, ws, dd, dd2, by omega, fun h' d1 d2 hs => ?_⟩
  have hzz : (more.foldl (fun acc p => putK acc p.1 p.2) kvs).length ≤ sizeLine := by
    have l3 : (more.foldl (fun acc p => putK acc p.1 p.2) kvs).length = (merged vs ws).length := Paired.length hr
    have := merged_length_le vs ws
    omega
  have he : ∃ q, h'.get? a = some q := let ⟨q, _, _, hq, _⟩ := d1; ⟨q, hq⟩
  exact ⟨.non, _, d_write (t' := s.toks) I (by rw [ea]; exact True.intro) hs he (dk_new hzz hd hr d1), rfl, q⟩
theorem putK_fold {K : PySem.W.Frag} {B : Av} {H : Hp} : ∀ {more : List (Key × D)} {ws : List V} {kds : List (Key × D)} {vs : List V}, DnAll K B H ws (more.map (·.2)) → DnAll K B H vs (kds.map (·.2)) →
    ∃ vs', (List.zip (more.map (·.1)) ws).foldl (fun acc p => putK acc p.1 p.2) (List.zip (kds.map (·.1)) vs) = List.zip ((more.foldl (fun acc p => putG acc p.1 p.2) kds).map (·.1)) vs' ∧ DnAll K B H vs' ((more.foldl (fun acc p => putG acc p.1 p.2) kds).map (·.2))
  | [], _, kds, vs, .nil, h => ⟨vs, rfl, h⟩
  | p :: more, _, kds, vs, .cons (v := w) (vs := ws) hw t, h => by
    obtain ⟨vs1, e1, h1⟩ := putK_zip (k := p.1) hw h
    obtain ⟨vs2, e2, h2⟩ := putK_fold t h1
    refine ⟨vs2, ?_, h2⟩
    show (List.zip (more.map (·.1)) ws).foldl (fun acc p => putK acc p.1 p.2) (putK (List.zip (kds.map (·.1)) vs) p.1 w) = _
    rw [e1]
    exact e2
variable {i : Nat} {e to : Expr} {es : List Expr} {ms : List (M O)} {apos cpos : Pos}
theorem own_dic {U : Av} {σ : L2.St} {H : Hp} {ρ : Env} (R : Rel C.K U H σ ρ) (h : ownDic i ρ = true) : ∃ v, σ[i]? = some (some v) ∧ tyV C.K "dict" v H := by
  unfold ownDic at h
  split at h
  · rename_i xs e
    obtain ⟨v, e1, r⟩ := R.slot i _ e
    exact ⟨v, e1, ty_of r rfl⟩
  · cases h
theorem se_upd (hK : C.K = X.K) (ho : PE X to (tVar i)) (ha : PA X (e :: es) (tOs C (mOs ms)))
    (hbase : attributeBase to "update" X.env (eval to X.env) = eval to X.env)
    (hfew : ((backTo cpos (starEach (e :: es) X.env)).all (fun x => !x.1) && (backToKw cpos (keywordEach [] X.env)).all (fun x => x.1.isSome)
      && decide ((e :: es).length + ([] : List Keyword).length + (if ([] : List Keyword).isEmpty then 0 else 1) < 30)) = true)
    (hline : (apos.endLine == cpos.line) = true) (hs : starEach (e :: es) X.env = (false, eval e X.env) :: starEach es X.env) (hplain : (backTo cpos (starEach es X.env)).any (·.1) = false) :
    PE X (.Call (.Attribute to "update" apos) (e :: es) [] cpos) (tE C (mUpd i ms)) := (pe_bm PySem.F.plainAttrs_dict PySem.F.slot_dict_update PySem.F.type_dict_update mt_upd ho ha hbase hfew hline hs hplain).mono fun σ H Q ⟨U, ρ, R, p⟩ => by
  unfold mUpd at p
  split at p
  · rename_i h
    obtain ⟨v, e1, ty⟩ := own_dic R h
    refine ⟨v, e1, by rw [← hK]; exact ty, U, ρ, R, Post.seq p fun os ρ1 vs H1 rr x q => ?_⟩
    unfold finUpd at q
    split at q
    · rename_i kvs kds ev es
      split at q
      · rename_i more em
        split at q
        · rename_i lz
          have dn := vals_dn rr.2 ev
          obtain ⟨w, rfl, hw⟩ : ∃ w, vs = [w] ∧ Dn C.K (Both U (Own σ ρ1)) H1 w (.dict kvs) := by
            cases dn with
            | cons h t => cases t; exact ⟨_, rfl, h⟩
          obtain ⟨b, ws, rfl, eb, hws⟩ := DO.dic (.inl hw) em
          obtain ⟨v', f1, rt⟩ := rr.1.slot i _ es
          rw [e1] at f1
          cases f1
          obtain ⟨a, vs, rfl, ea, hvs⟩ := rt
          have ow : Own σ ρ1 a := ⟨i, _, es, rfl, e1⟩
          have hab : a ≠ b := fun z => by
            subst z
            revert em
            generalize hd : PyData.dict kvs = dd at hw
            intro em
            cases hw with
            | dic e n l t => exact n (.inr ow)
            | scr e n t => exact n (.inr ow)
            | scrK e t => cases hd; cases em
            | _ => cases hd
          obtain ⟨vs', z1, z2⟩ := putK_fold hws hvs
          refine ⟨a, b, _, _, rfl, rfl, hab, ea, eb, by rw [List.length_zip, List.length_zip, hvs.len, hws.len, List.length_map, List.length_map, List.length_map, List.length_map, Nat.min_self, Nat.min_self]; exact lz, ?_⟩
          rw [z1]
          obtain ⟨R', x'⟩ := rr.1.write (t' := .dic (more.foldl (fun acc p => putG acc p.1 p.2) kds)) (o := .dK (List.zip ((more.foldl (fun acc p => putG acc p.1 p.2) kds).map (·.1)) vs')) es rfl e1 ⟨vs', rfl, z2⟩
          exact q .non _ (RelR.shr R' .non) (x'.less fun a z => z.elim id fun w => by cases w.1)
        · exact q.elim
      · exact q.elim
    · exact q.elim
  · exact p.elim
end
end VS
set_option Elab.async false
set_option linter.all false
set_option maxRecDepth 100000
set_option maxHeartbeats 2000000
/-! The VS layer, part I3: dict comprehensions of two clauses: the model's loops. -/
namespace VS
open PySem PySem.Spec PyProof.Rows L2
section
variable {prog : Program} {w : World} {A : Around} {R : Result → Shared → Prop} {s : Shared} {kx vx t1 t2 it1 it2 : Expr} {ifs1 ifs2 : List Expr} {scope : Scope} {pos : Pos} {it : Value} {D : Addr} {env : PySem.Env}
abbrev NoE : Value → Shared → Prop := fun _ _ => False
abbrev testsE (ifs : List Expr) (env : PySem.Env) : Sem Bool := forIn ifs true fun c r => if r = true then do let ok ← isTrue c env (eval c env); pure (ForInStep.yield ok) else pure (ForInStep.yield r)
theorem in_turn (it acc : Value) (env : PySem.Env) : compTurn (.DictComp kx vx [⟨t1, it1, ifs1, 0⟩, ⟨t2, it2, ifs2, 0⟩] scope pos) 1 it (.ref D) env = (do
      standAt it2.pos
      match ← pyNext it with
      | none => pure (.done .next)
      | some v =>
        letOwnedTupleGo t2 it v
        assign t2 env v
        let mut ok := true
        for c in ifs2 do
          if ok then ok ← isTrue c env (eval c env)
        if ok then
          (do
            let kv ← eval kx env
            let vv ← holding [kv] (eval vx env)
            standAt { kx.pos with endLine := vx.pos.endLine, endCol := vx.pos.endCol }
            holding [kv, vv] (dictSet D kv vv))
        again (.compLoop (.DictComp kx vx [⟨t1, it1, ifs1, 0⟩, ⟨t2, it2, ifs2, 0⟩] scope pos) 1 it (.ref D) env)) := by rfl
theorem out_turn (it acc : Value) (env : PySem.Env) : compTurn (.DictComp kx vx [⟨t1, it1, ifs1, 0⟩, ⟨t2, it2, ifs2, 0⟩] scope pos) 0 it acc env = (do
      standAt it1.pos
      match ← pyNext it with
      | none => pure (.done .next)
      | some v =>
        letOwnedTupleGo t1 it v
        assign t1 env v
        let mut ok := true
        for c in ifs1 do
          if ok then ok ← isTrue c env (eval c env)
        if ok then
          let x ← eval it2 env
          standAt it2.pos
          let x ← foldedSetIterable it2 env x
          let _ ← runOwn (.compStart (.DictComp kx vx [⟨t1, it1, ifs1, 0⟩, ⟨t2, it2, ifs2, 0⟩] scope pos) 1 (← holding [x] (pyIter x)) acc env) env
        again (.compLoop (.DictComp kx vx [⟨t1, it1, ifs1, 0⟩, ⟨t2, it2, ifs2, 0⟩] scope pos) 0 it acc env)) := by rfl
theorem in_loop (I : Nat → Shared → Prop)
    (turn : ∀ n s, I n s → wpAny (model prog w) A (pyNext it) (fun r s1 => match r with
      | none => R (.ok .next) s1
      | some v => wpAny (model prog w) A (letOwnedTupleGo t2 it v) (fun _ s2 => wpAny (model prog w) A (assign t2 env v) (fun _ s3 => wpAny (model prog w) A (testsE ifs2 env) (fun ok s4 =>
            if ok = true then wpAny (model prog w) A (eval kx env) (fun kv s5 => wpAny (model prog w) A (eval vx env) (fun vv s6 => wpAny (model prog w) A (dictSet D kv vv) (fun _ s7 => ∃ m, m < n ∧ I m s7) NoE s6) NoE s5) NoE s4
            else ∃ m, m < n ∧ I m s4) NoE s3) NoE s2) NoE s1) NoE s)
    (n : Nat) (h : I n s) : codeAny (model prog w) A (.compLoop (.DictComp kx vx [⟨t1, it1, ifs1, 0⟩, ⟨t2, it2, ifs2, 0⟩] scope pos) 1 it (.ref D) env) R s := by
  refine codeAny_loop rfl I (fun n s hI => ?_) n h
  show wpAny _ A ((compTurn (.DictComp kx vx [⟨t1, it1, ifs1, 0⟩, ⟨t2, it2, ifs2, 0⟩] scope pos) 1 it (.ref D) env).onRaise (fun x => do noteFrame x env; theTreesLotGoes x)) _ _ s
  refine wpAny_noted ?_
  rw [in_turn it it env]
  refine wpAny_bind (wpAny_standAt (wpAny_bind (thnF (turn n s hI) fun r s1 h1 => ?_)))
  cases r with
  | none => exact wpAny_pure h1
  | some v =>
    refine wpAny_bind (thnF h1 fun _ s2 h2 => wpAny_bind (thnF h2 fun _ s3 h3 => wpAny_bind (thnF h3 fun ok s4 h4 => ?_)))
    cases ok with
    | false => exact wpAny_pure ⟨rfl, h4⟩
    | true => exact wpAny_bind (wpAny_bind (thnF h4 fun kv s5 h5 => wpAny_bind (wpAny_holding (thnF h5 fun vv s6 h6 => wpAny_bind (wpAny_standAt (wpAny_holding (thnF h6 fun _ s7 h7 => wpAny_pure ⟨rfl, h7⟩)))))))
theorem in_start {it0 : Value}
    (h0 : codeAny (model prog w) A (.compLoop (.DictComp kx vx [⟨t1, it1, ifs1, 0⟩, ⟨t2, it2, ifs2, 0⟩] scope pos) 1 it0 (.ref D) env) R s)
    (h : wpAny (model prog w) A (pyIter it0) (fun it' s' => codeAny (model prog w) A (.compLoop (.DictComp kx vx [⟨t1, it1, ifs1, 0⟩, ⟨t2, it2, ifs2, 0⟩] scope pos) 1 it' (.ref D) env) R s') NoE s) :
    codeAny (model prog w) A (.compStart (.DictComp kx vx [⟨t1, it1, ifs1, 0⟩, ⟨t2, it2, ifs2, 0⟩] scope pos) 1 it0 (.ref D) env) R s := by
  refine codeAny_of_tree ?_
  show wpAny _ A ((compStart (.DictComp kx vx [⟨t1, it1, ifs1, 0⟩, ⟨t2, it2, ifs2, 0⟩] scope pos) 1 it0 (.ref D) env).onRaise (fun x => do noteFrame x env; standAt theWindowsPlace)) _ _ s
  refine wpAny_notedAt ?_
  unfold compStart
  show wpAny _ A (ask >>= _) _ _ s
  refine wpAny_bind (wpAny_askSetting (wpAny_ite ?_))
  split
  · first
      | exact wpAny_bind (wpAny_pure (wpAny_pure (And.intro rfl h0)))
      | exact wpAny_pure (And.intro rfl h0)
  · first
      | exact wpAny_bind (wpAny_rule (wpAny_bind (wpAny_standAt (wpAny_bind (thnF h fun it' s' h' => wpAny_pure (And.intro rfl h'))))))
      | (refine wpAny_bind (wpAny_rule ?_); show wpAny _ _ (standAt it2.pos >>= _) _ _ s; exact wpAny_bind (wpAny_standAt (wpAny_bind (thnF h fun it' s' h' => wpAny_pure (And.intro rfl h')))))
theorem out_loop (hs : ∀ x, foldedSetIterable it2 env x = pure x) (I : Nat → Shared → Prop)
    (turn : ∀ n s, I n s → wpAny (model prog w) A (pyNext it) (fun r s1 => match r with
      | none => R (.ok .next) s1
      | some v => wpAny (model prog w) A (letOwnedTupleGo t1 it v) (fun _ s2 => wpAny (model prog w) A (assign t1 env v) (fun _ s3 => wpAny (model prog w) A (testsE ifs1 env) (fun ok s4 =>
            if ok = true then wpAny (model prog w) A (eval it2 env) (fun xv s5 => wpAny (model prog w) A (pyIter xv) (fun itv s6 =>
              codeAny (model prog w) A (.compStart (.DictComp kx vx [⟨t1, it1, ifs1, 0⟩, ⟨t2, it2, ifs2, 0⟩] scope pos) 1 itv (.ref D) env) (fun r s7 => match r with
                | .ok _ => ∃ m, m < n ∧ I m s7
                | .error _ => False) s6) NoE s5) NoE s4
            else ∃ m, m < n ∧ I m s4) NoE s3) NoE s2) NoE s1) NoE s)
    (n : Nat) (h : I n s) : codeAny (model prog w) A (.compLoop (.DictComp kx vx [⟨t1, it1, ifs1, 0⟩, ⟨t2, it2, ifs2, 0⟩] scope pos) 0 it (.ref D) env) R s := by
  refine codeAny_loop rfl I (fun n s hI => ?_) n h
  show wpAny _ A ((compTurn (.DictComp kx vx [⟨t1, it1, ifs1, 0⟩, ⟨t2, it2, ifs2, 0⟩] scope pos) 0 it (.ref D) env).onRaise (fun x => do noteFrame x env; theTreesLotGoes x)) _ _ s
  refine wpAny_noted ?_
  rw [out_turn it (.ref D) env]
  refine wpAny_bind (wpAny_standAt (wpAny_bind (thnF (turn n s hI) fun r s1 h1 => ?_)))
  cases r with
  | none => exact wpAny_pure h1
  | some v =>
    refine wpAny_bind (thnF h1 fun _ s2 h2 => wpAny_bind (thnF h2 fun _ s3 h3 => wpAny_bind (thnF h3 fun ok s4 h4 => ?_)))
    cases ok with
    | false => exact wpAny_pure ⟨rfl, h4⟩
    | true =>
      refine wpAny_bind (thnF h4 fun xv s5 h5 => wpAny_bind (wpAny_standAt (wpAny_bind (wpAny_of_eq (hs xv) ?_))))
      refine wpAny_bind (wpAny_holding (thnF h5 fun itv s6 h6 => wpAny_bind (wpAny_runOwn ?_)))
      refine codeAny_mono h6 fun r s7 h7 => ?_
      cases r with
      | ok f => exact wpAny_pure ⟨rfl, h7⟩
      | error e => exact h7.elim
end
/-- {k: v for t1 in it1 if .. for t2 in it2 if ..} -/
def tDc2 (wi1 : TI) (g1 : TG) (tt1 : TT) (wi2 : TI) (g2 : TG) (tt2 : TT) (tk tv : TE) (vs vs2 : List Nat) : TE := fun σ H Q => wi1 σ H fun J H1 => ∀ D, H1 D = none → ∃ W : Nat → Nat → Hp → Prop, (∃ m, W 0 m (upd H1 D (.dK []))) ∧ ∀ i m H, W i m H →
  (J.stop i H ∧ Q (.ref D) H) ∨ (J.go i H ∧ ∃ Nx : Hp → Prop, (∀ H', Nx H' → ∃ m', m' < m ∧ W (i + 1) m' H') ∧ ∀ x H', J.yld i H x H' → g1 x (wipe σ vs) H' fun σ2 H2 => wipe σ2 vs = wipe σ vs ∧ tt1 σ2 H2 fun b H3 =>
    if b = true then wi2 σ2 H3 fun J2 H4 => ∃ W2 : Nat → Nat → Hp → Prop, (∃ m, W2 0 m H4) ∧ ∀ j m2 H, W2 j m2 H →
      (J2.stop j H ∧ Nx H) ∨ (J2.go j H ∧ ∃ Ny : Hp → Prop, (∀ H', Ny H' → ∃ m', m' < m2 ∧ W2 (j + 1) m' H') ∧ ∀ y H', J2.yld j H y H' → g2 y (wipe σ2 vs2) H' fun σ4 H5 => wipe σ4 vs2 = wipe σ2 vs2 ∧ tt2 σ4 H5 fun b2 H6 =>
        if b2 = true then tk σ4 H6 fun y1 H7 => tv σ4 H7 fun z H8 => ∃ kvs k, y1 = kV k ∧ H8 D = some (.dK kvs) ∧ kvs.length < sizeLine ∧ Ny (upd H8 D (.dK (putK kvs k z))) else Ny H6)
    else Nx H3)
theorem wipe_wipe {σ : L2.St} {vs vs2 : List Nat} (h : ∀ i ∈ vs2, i ∈ vs) : wipe (wipe σ vs2) vs = wipe σ vs := wipe_eq (wipe_length σ vs2) fun j hj => wipe_out fun z => hj (h j z)
section
variable {X : Cx}
/-- an iterator's own objects, behind a change -/
theorem fpAt {pins : List (Addr × Obj)} {H H' : Hp} {b : Addr} (f : FpOk X pins H b) (h : H' b = none) : FpOk X pins H' b := ⟨h, f.2.1, f.2.2.1, f.2.2.2.1, f.2.2.2.2.1, f.2.2.2.2.2⟩
/-- the inner loop, in the block -/
theorem inner_core {pins : List (Addr × Obj)} {s : Shared} {σ2 : L2.St} {H4 : Hp} {kx vx t1 t2 it1 it2 : Expr} {ifs1 ifs2 : List Expr} {scope : Scope} {pos : Pos} {g2 : TG} {tt2 : TT} {tk tv : TE} {vs2 : List Nat} {D : Addr} {R : Result → Shared → Prop} {Nx : Hp → Prop}
    {it fp tn J} (hc : X.calm = true) (I : Inv X pins σ2 H4 s) (T : Turn X.prog X.w X.K t2 J fp it tn) (st : tn 0 s.heap) (f : ∀ b ∈ fp, FpOk X pins H4 b)
    (hg : PG X t2 g2) (ht : PTs X ifs2 tt2) (hk : PE X kx tk) (hv : PE X vx tv) (hx : X.xe = NoE)
    (w : ∃ W2 : Nat → Nat → Hp → Prop, (∃ m, W2 0 m H4) ∧ ∀ j m2 H, W2 j m2 H →
      (J.stop j H ∧ Nx H) ∨ (J.go j H ∧ ∃ Ny : Hp → Prop, (∀ H', Ny H' → ∃ m', m' < m2 ∧ W2 (j + 1) m' H') ∧ ∀ y H', J.yld j H y H' → g2 y (wipe σ2 vs2) H' fun σ4 H5 => wipe σ4 vs2 = wipe σ2 vs2 ∧ tt2 σ4 H5 fun b2 H6 =>
        if b2 = true then tk σ4 H6 fun y1 H7 => tv σ4 H7 fun z H8 => ∃ kvs k, y1 = kV k ∧ H8 D = some (.dK kvs) ∧ kvs.length < sizeLine ∧ Ny (upd H8 D (.dK (putK kvs k z))) else Ny H6))
    (hR : ∀ s' H', Inv X pins (wipe σ2 vs2) H' s' → Nx H' → R (.ok .next) s') :
    codeAny (model X.prog X.w) X.A (.compLoop (.DictComp kx vx [⟨t1, it1, ifs1, 0⟩, ⟨t2, it2, ifs2, 0⟩] scope pos) 1 (.ref it) (.ref D) X.env) R s := by
  obtain ⟨W2, ⟨m0, w0⟩, turn⟩ := w
  refine in_loop (fun n s' => ∃ j H', Inv X pins (wipe σ2 vs2) H' s' ∧ tn j s'.heap ∧ (∀ b ∈ fp, FpOk X pins H' b) ∧ W2 j n H') ?_ m0 ⟨0, H4, I.weak (wipe_length _ _) fun i v e => (wipe_some e).1, st, f, w0⟩
  rintro n s1 ⟨j, H5, I5, st5, f5, w5⟩
  rcases turn j n H5 w5 with ⟨stop, nx⟩ | ⟨go, Ny, hN, step⟩
  · have td := T.done X rfl rfl rfl hc j pins s1 _ H5 NoE I5 f5 st5 stop
    refine thnF td fun r s2 ⟨hr, I6⟩ => ?_
    subst hr
    exact hR s2 H5 I6 nx
  · have ti := T.item X rfl rfl rfl hc j pins s1 _ H5 NoE I5 f5 st5 go
    refine thnF ti fun r s2 ⟨u, hr, h2⟩ => ?_
    subst hr
    refine thnF h2 fun _ s3 ⟨y, H6, I6, r6, y6, st6, n6⟩ => ?_
    have f6 : ∀ b ∈ fp, FpOk X pins H6 b := fun b hb => fpAt (f5 b hb) (n6 b hb)
    have I6' := I6.pinned f6 (T.obj _ _ st6)
    have back : ∀ {s' : Shared} {H' : Hp} {σ4 : L2.St}, wipe σ4 vs2 = wipe σ2 vs2 → Inv X (pins ++ pinsAt fp s3.heap) σ4 H' s' → Ny H' → ∃ m, m < n ∧ ∃ j H', Inv X pins (wipe σ2 vs2) H' s' ∧ tn j s'.heap ∧ (∀ b ∈ fp, FpOk X pins H' b) ∧ W2 j m H' := fun {s' H' σ4} hw I' ny => by
      obtain ⟨m', hm, w'⟩ := hN H' ny
      have pin' : ∀ b ∈ fp, ∀ o, s3.heap.get? b = some o → s'.heap.get? b = some o ∧ H' b = none := fun b hb o e =>
        let z := I'.pin (b, o) (List.mem_append_right _ (List.mem_append_right _ (mem_pinsAt hb e)))
        ⟨z.1, z.2.1⟩
      refine ⟨m', hm, j + 1, H', (I'.unpinned (pins := pins)).weak (by rw [← hw, wipe_length]) (fun i v e => ?_), T.keep _ _ _ st6 fun b hb o e => (pin' b hb o e).1, fun b hb => fpAt (f6 b hb) ?_, w'⟩
      · rw [← hw] at e
        exact (wipe_some e).1
      · obtain ⟨o, e, _⟩ := T.obj _ _ st6 b hb
        exact (pin' b hb o e).2
    have pg := hg.run _ s3 _ H6 y u _ I6' r6 (step y H6 y6)
    rw [hx] at pg
    refine thnF pg fun _ s4 ⟨σ4, H7, I7, hw7, q7⟩ => ?_
    have pt := ht.run _ s4 σ4 H7 _ I7 q7
    rw [hx] at pt
    refine thnF pt fun b s5 ⟨H8, I8, q8⟩ => ?_
    cases b with
    | false =>
      simp only [Bool.false_eq_true, if_false] at q8 ⊢
      exact back hw7 I8 q8
    | true =>
      simp only [if_true] at q8 ⊢
      have pk := hk.run _ s5 σ4 H8 _ I8 q8
      rw [hx] at pk
      refine thnF pk fun kv s6 ⟨yk, H9, I9, r9, q9⟩ => ?_
      have pv := hv.run _ s6 σ4 H9 _ I9 q9
      rw [hx] at pv
      refine thnF pv fun vv s7 ⟨yv, H10, I10, r10, kvs, k, ek, hD, hz, ny⟩ => ?_
      subst ek
      exact d_dictSet I10 hD hz r9 r10 fun s8 I11 => back hw7 I11 ny
theorem out_core {pins : List (Addr × Obj)} {s : Shared} {σ : L2.St} {H : Hp} {Q : VK} {kx vx t1 t2 it1 it2 : Expr} {ifs1 ifs2 : List Expr} {scope : Scope} {own : List (Str × Nat)} {pos pos' : Pos} {wi1 wi2 : TI} {g1 g2 : TG} {tt1 tt2 : TT} {tk tv : TE} {vs2 : List Nat} {Qf : Value → Shared → Prop}
    (hc : X.calm = true) (hN : X.N.Nodup) (I : Inv X pins σ H s) (hi : PI X t1 it1 wi1) (ok : BlkOk X.N X.env.scope scope own) (h2 : ∀ i ∈ vs2, i ∈ own.map (·.2))
    (hg1 : ∀ (s : Shared) (H : Hp) (L : Addr) (cl : List (Str × Addr)) (fp : List Addr), PG (X.blk s H scope (compEnvC scope cl L X.env) fp) t1 g1) (ht1 : ∀ (s : Shared) (H : Hp) (L : Addr) (cl : List (Str × Addr)) (fp : List Addr), PTs (X.blk s H scope (compEnvC scope cl L X.env) fp) ifs1 tt1)
    (hi2 : ∀ (s : Shared) (H : Hp) (L : Addr) (cl : List (Str × Addr)) (fp : List Addr), PI (X.blk s H scope (compEnvC scope cl L X.env) fp) t2 it2 wi2)
    (hg2 : ∀ (s : Shared) (H : Hp) (L : Addr) (cl : List (Str × Addr)) (fp : List Addr), PG (X.blk s H scope (compEnvC scope cl L X.env) fp) t2 g2) (ht2 : ∀ (s : Shared) (H : Hp) (L : Addr) (cl : List (Str × Addr)) (fp : List Addr), PTs (X.blk s H scope (compEnvC scope cl L X.env) fp) ifs2 tt2)
    (hk : ∀ (s : Shared) (H : Hp) (L : Addr) (cl : List (Str × Addr)) (fp : List Addr), PE (X.blk s H scope (compEnvC scope cl L X.env) fp) kx tk) (he : ∀ (s : Shared) (H : Hp) (L : Addr) (cl : List (Str × Addr)) (fp : List Addr), PE (X.blk s H scope (compEnvC scope cl L X.env) fp) vx tv)
    (hs1 : ∀ x, foldedSetIterable it1 X.env x = pure x) (hs2 : ∀ (e : PySem.Env) x, foldedSetIterable it2 e x = pure x)
    (h : tDc2 wi1 g1 tt1 wi2 g2 tt2 tk tv (own.map (·.2)) vs2 σ H Q)
    (hRR : ∀ D L s' m H', Inv X pins σ H' s' → Q (.ref D) H' → s'.heap.Ns L m → FpOk X pins H' L → compPost (model X.prog X.w) X.A X.xe none Qf (.ref D) L (.ok .next) s') :
    wpAny (model X.prog X.w) X.A (comprehension (.DictComp kx vx [⟨t1, it1, ifs1, 0⟩, ⟨t2, it2, ifs2, 0⟩] scope pos) scope X.env pos' newDict false (eval it1 X.env) none) Qf X.xe s := by
  have fr : ∀ y ∈ scope.names, y.2 = .free → ∃ c, X.env.cells.lookup y.1 = some c := fun y hy e => (ok.free y hy e).elim (fun k => I.ok.has _ (.inl k)) fun k => I.ok.has _ (.inr k)
  refine wpAny_comprehension_free (use := none) rfl hs1 (closure_ok fr) ok.kind (fun y hy e => by rw [ok.uniq y hy, e]) (thn (hi.run pins s σ H _ I h) fun xv s1 hx => thn hx fun itv s2 hh => ?_)
  obtain ⟨it, fp, tn, J, H2, rfl, I2, T, st2, f2, q⟩ := hh
  refine wpAny_newObj_type (newEnv_comp ?_)
  generalize hD : s2.heap.objs.size = D
  have hDn : H2 D = none := I2.hok.fresh (Nat.le_of_eq hD)
  obtain ⟨W, ⟨m0, w0⟩, turn⟩ := q D hDn
  -- the new dict, then the block
  generalize hs3 : ({ s2 with heap := s2.heap.push { cls := .type "dict", data := .dict #[] } } : Shared) = s3
  have I3 : Inv X pins σ (upd H2 D (.dK [])) s3 := by
    rw [← hs3]
    refine I2.laid (t' := s2.toks) (fun b o e => Heap.get?_push_of_some _ e) (Nat.le_of_eq hD) ?_
    rw [← hD]
    exact dk_empty s2.heap I2.big
  have h3 : s3.heap = s2.heap.push { cls := .type "dict", data := .dict #[] } := by rw [← hs3]
  have f3 : ∀ b ∈ fp, FpOk X pins (upd H2 D (.dK [])) b ∧ b < s3.heap.objs.size := fun b hb => by
    obtain ⟨o, e, _⟩ := T.obj _ _ st2 b hb
    have hlt := Heap.lt_size e
    refine ⟨fpAt (f2 b hb) ?_, by rw [h3, Heap.size_push]; exact Nat.lt_succ_of_lt hlt⟩
    rw [upd_ne (by rw [← hD]; exact Nat.ne_of_lt hlt)]
    exact (f2 b hb).1
  have st3 : tn 0 s3.heap := T.keep _ _ _ st2 fun b _ o e => by rw [h3]; exact Heap.get?_push_of_some _ e
  have I4 := block_start I3 ok hN f3
  show codeAny _ _ (.compStart (.DictComp kx vx [⟨t1, it1, ifs1, 0⟩, ⟨t2, it2, ifs2, 0⟩] scope pos) 0 (.ref it) (.ref D) (compEnvC scope (cellsFrom (s3.heap.objs.size + 1) scope.names (cloFrom X.env.cells scope.names [])) s3.heap.objs.size X.env)) (compPost (model X.prog X.w) X.A X.xe none Qf (.ref D) s3.heap.objs.size) { s3 with heap := pushCells (s3.heap.push { cls := .type "dict", data := .dict #[] }) scope.names }
  generalize hcl : cellsFrom (s3.heap.objs.size + 1) scope.names (cloFrom X.env.cells scope.names []) = cl at I4 ⊢
  generalize hH3 : upd H2 D (.dK []) = H3 at I3 I4 w0 f3
  generalize hXB : X.blk s3 H3 scope (compEnvC scope cl s3.heap.objs.size X.env) fp = XB at I4
  have eA : XB.A = X.A := by rw [← hXB]
  have eE : XB.env = compEnvC scope cl s3.heap.objs.size X.env := by rw [← hXB]
  have eP : XB.prog = X.prog := by rw [← hXB]
  have eW : XB.w = X.w := by rw [← hXB]
  have eK : XB.K = X.K := by rw [← hXB]
  have eC : XB.calm = true := by rw [← hXB]; exact hc
  have eX : XB.xe = NoE := by rw [← hXB]
  have eI : XB.ex = fp := by rw [← hXB]
  have eL : XB.env.locals = s3.heap.objs.size := by rw [eE]; rfl
  have ePn : XB.pn = [] := by rw [← hXB]
  have pg1 : PG XB t1 g1 := by rw [← hXB]; exact hg1 _ _ _ _ _
  have pt1 : PTs XB ifs1 tt1 := by rw [← hXB]; exact ht1 _ _ _ _ _
  have pi2 : PI XB t2 it2 wi2 := by rw [← hXB]; exact hi2 _ _ _ _ _
  have pg2 : PG XB t2 g2 := by rw [← hXB]; exact hg2 _ _ _ _ _
  have pt2 : PTs XB ifs2 tt2 := by rw [← hXB]; exact ht2 _ _ _ _ _
  have pk : PE XB kx tk := by rw [← hXB]; exact hk _ _ _ _ _
  have pv : PE XB vx tv := by rw [← hXB]; exact he _ _ _ _ _
  have home : ∀ {H5 : Hp} {s6 : Shared}, Inv XB [] (wipe σ (own.map (·.2))) H5 s6 → Q (.ref D) H5 → compPost (model X.prog X.w) X.A X.xe none Qf (.ref D) s3.heap.objs.size (.ok .next) s6 := fun {H5 s6} I6 qq => by
    have nL : H5 s3.heap.objs.size = none := by
      have z := I6.free
      rw [eL] at z
      exact z
    obtain ⟨m, hn, _⟩ := I6.loc
    rw [eL] at hn
    have I7 : Inv X pins σ H5 s6 := by
      have b := I6.base
      have o := I6.os
      have k := I6.hok
      rw [← hXB] at b o k
      exact I3.call' (ch := fp) o b k I6.bare fun b hb => ⟨(f3 b hb).1.2.2.2.1, (f3 b hb).1.2.1, (f3 b hb).1.2.2.2.2.1, (f3 b hb).1.2.2.2.2.2⟩
    exact hRR D s3.heap.objs.size s6 m H5 I7 qq hn (I3.fpOk (Nat.le_refl _) nL)
  clear hg1 ht1 hi2 hg2 ht2 hk he
  generalize hs4 : ({ s3 with heap := pushCells (s3.heap.push { cls := .type "dict", data := .dict #[] }) scope.names } : Shared) = s4 at I4 ⊢
  have st4 : tn 0 s4.heap := T.keep _ _ _ st3 fun b _ o e => by rw [← hs4]; exact pushCells_keeps _ _ _ _ (Heap.get?_push_of_some _ e)
  have nfp : ∀ b ∈ fp, H3 b = none := fun b hb => (f3 b hb).1.1
  have stat : ∀ {σ' : L2.St} {H' : Hp} {s' : Shared}, Inv XB [] σ' H' s' → (∀ b ∈ fp, H' b = none) → ∀ b ∈ fp, FpOk XB [] H' b := fun {σ' H' s'} I' hn b hb => by
    have hb' : b ∈ XB.ex := by rw [eI]; exact hb
    exact ⟨hn b hb, (I'.ok.exf b hb').1, I'.ok.exfs b hb', .inl hb', fun x c e => (I'.ok.exf b hb').2 x c e, fun p hp => absurd (show p ∈ XB.pn ++ [] from hp) (by rw [ePn]; simp)⟩
  have T' : Turn XB.prog XB.w XB.K t1 J fp it tn := by rw [eP, eW, eK]; exact T
  have loop : codeAny (model XB.prog XB.w) XB.A (.compLoop (.DictComp kx vx [⟨t1, it1, ifs1, 0⟩, ⟨t2, it2, ifs2, 0⟩] scope pos) 0 (.ref it) (.ref D) XB.env) (compPost (model X.prog X.w) X.A X.xe none Qf (.ref D) s3.heap.objs.size) s4 := by
    refine out_loop (hs2 _) (fun n s' => ∃ i H', Inv XB [] (wipe σ (own.map (·.2))) H' s' ∧ tn i s'.heap ∧ (∀ b ∈ fp, H' b = none) ∧ W i n H') ?_ m0 ⟨0, H3, I4, st4, nfp, w0⟩
    rintro n s5 ⟨i, H5, I5, st5, n5, w5⟩
    rcases turn i n H5 w5 with ⟨stop, qq⟩ | ⟨go, Nx, hNx, step⟩
    · have td := T'.done XB rfl rfl rfl eC i [] s5 _ H5 NoE I5 (stat I5 n5) st5 stop
      refine thnF td fun r s6 ⟨hr, I6⟩ => ?_
      subst hr
      exact home I6 qq
    · have ti := T'.item XB rfl rfl rfl eC i [] s5 _ H5 NoE I5 (stat I5 n5) st5 go
      refine thnF ti fun r s6 ⟨u, hr, h6⟩ => ?_
      subst hr
      refine thnF h6 fun _ s7 ⟨x, H7, I7, r7, y7, st7, n7⟩ => ?_
      have I7' := I7.pinned (stat I7 n7) (T'.obj _ _ st7)
      have fin : ∀ {s' : Shared} {H' : Hp} {σ8 : L2.St}, wipe σ8 (own.map (·.2)) = wipe σ (own.map (·.2)) → Inv XB ([] ++ pinsAt fp s7.heap) σ8 H' s' → Nx H' → ∃ m, m < n ∧ ∃ i H', Inv XB [] (wipe σ (own.map (·.2))) H' s' ∧ tn i s'.heap ∧ (∀ b ∈ fp, H' b = none) ∧ W i m H' := fun {s' H' σ8} hw I' nx => by
        obtain ⟨m', hm, w'⟩ := hNx H' nx
        have pin' : ∀ b ∈ fp, ∀ o, s7.heap.get? b = some o → s'.heap.get? b = some o ∧ H' b = none := fun b hb o e =>
          let z := I'.pin (b, o) (List.mem_append_right _ (List.mem_append_right _ (mem_pinsAt hb e)))
          ⟨z.1, z.2.1⟩
        refine ⟨m', hm, i + 1, H', (I'.unpinned (pins := [])).weak (by rw [← hw, wipe_length]) (fun j v e => ?_), T'.keep _ _ _ st7 fun b hb o e => (pin' b hb o e).1, fun b hb => ?_, w'⟩
        · rw [← hw] at e
          exact (wipe_some e).1
        · obtain ⟨o, e, _⟩ := T'.obj _ _ st7 b hb
          exact (pin' b hb o e).2
      have pg := pg1.run _ s7 _ H7 x u _ I7' r7 (step x H7 y7)
      rw [eX] at pg
      refine thnF pg fun _ s8 ⟨σ8, H8, I8, hw8, q8⟩ => ?_
      have pt := pt1.run _ s8 σ8 H8 _ I8 q8
      rw [eX] at pt
      refine thnF pt fun b s9 ⟨H9, I9, q9⟩ => ?_
      cases b with
      | false =>
        simp only [Bool.false_eq_true, if_false] at q9 ⊢
        exact fin hw8 I9 q9
      | true =>
        simp only [if_true] at q9 ⊢
        have pi := pi2.run _ s9 σ8 H9 _ I9 q9
        rw [eX] at pi
        refine thnF pi fun xv s10 h10 => thnF h10 fun itv s11 h11 => ?_
        obtain ⟨itA, fp2, tn2, J2, H11, rfl, I11, T2, st11, f11, q11⟩ := h11
        have inner : codeAny (model XB.prog XB.w) XB.A (.compLoop (.DictComp kx vx [⟨t1, it1, ifs1, 0⟩, ⟨t2, it2, ifs2, 0⟩] scope pos) 1 (.ref itA) (.ref D) XB.env) (fun r s7 => match r with
            | .ok _ => ∃ m, m < n ∧ ∃ i H', Inv XB [] (wipe σ (own.map (·.2))) H' s7 ∧ tn i s7.heap ∧ (∀ b ∈ fp, H' b = none) ∧ W i m H'
            | .error _ => False) s11 :=
          inner_core eC I11 T2 st11 f11 pg2 pt2 pk pv eX q11 fun s' H' I' nx => fin ((wipe_wipe h2).trans hw8) I' nx
        exact in_start inner (T2.self XB.A 0 _ _ _ st11 inner)
  rw [eA, eE, eP, eW] at loop
  exact codeAny_compStart_dict loop (T.self X.A 0 _ _ _ st4 loop)
/-- as a value -/
theorem pe_dc2 {kx vx t1 t2 it1 it2 : Expr} {ifs1 ifs2 : List Expr} {scope : Scope} {own : List (Str × Nat)} {pos : Pos} {wi1 wi2 : TI} {g1 g2 : TG} {tt1 tt2 : TT} {tk tv : TE} {vs2 : List Nat}
    (hc : X.calm = true) (hN : X.N.Nodup) (hi : PI X t1 it1 wi1) (ok : BlkOk X.N X.env.scope scope own) (h2 : ∀ i ∈ vs2, i ∈ own.map (·.2))
    (hg1 : ∀ (s : Shared) (H : Hp) (L : Addr) (cl : List (Str × Addr)) (fp : List Addr), PG (X.blk s H scope (compEnvC scope cl L X.env) fp) t1 g1) (ht1 : ∀ (s : Shared) (H : Hp) (L : Addr) (cl : List (Str × Addr)) (fp : List Addr), PTs (X.blk s H scope (compEnvC scope cl L X.env) fp) ifs1 tt1)
    (hi2 : ∀ (s : Shared) (H : Hp) (L : Addr) (cl : List (Str × Addr)) (fp : List Addr), PI (X.blk s H scope (compEnvC scope cl L X.env) fp) t2 it2 wi2)
    (hg2 : ∀ (s : Shared) (H : Hp) (L : Addr) (cl : List (Str × Addr)) (fp : List Addr), PG (X.blk s H scope (compEnvC scope cl L X.env) fp) t2 g2) (ht2 : ∀ (s : Shared) (H : Hp) (L : Addr) (cl : List (Str × Addr)) (fp : List Addr), PTs (X.blk s H scope (compEnvC scope cl L X.env) fp) ifs2 tt2)
    (hk : ∀ (s : Shared) (H : Hp) (L : Addr) (cl : List (Str × Addr)) (fp : List Addr), PE (X.blk s H scope (compEnvC scope cl L X.env) fp) kx tk) (he : ∀ (s : Shared) (H : Hp) (L : Addr) (cl : List (Str × Addr)) (fp : List Addr), PE (X.blk s H scope (compEnvC scope cl L X.env) fp) vx tv)
    (hs1 : ∀ x, foldedSetIterable it1 X.env x = pure x) (hs2 : ∀ (e : PySem.Env) x, foldedSetIterable it2 e x = pure x) :
    PE X (.DictComp kx vx [⟨t1, it1, ifs1, 0⟩, ⟨t2, it2, ifs2, 0⟩] scope pos) (tDc2 wi1 g1 tt1 wi2 g2 tt2 tk tv (own.map (·.2)) vs2) := by
  refine ⟨fun pins s σ H Q I h => ?_⟩
  rw [arm_eval_DictComp]
  refine out_core hc hN I hi ok h2 hg1 ht1 hi2 hg2 ht2 hk he hs1 hs2 h fun D L s' m H' I' q hn f => ⟨m, hn, fun h'' sb => ?_⟩
  obtain ⟨f0, f1, f2, f3, f4, f5⟩ := f
  exact ⟨.ref D, H', I'.turned (t' := s'.toks) (fun b o hb e => (sb.2 b hb).trans e) f0 f1 f3 f4 f5, rfl, q⟩
end
end VS
set_option Elab.async false
set_option linter.all false
set_option maxRecDepth 100000
set_option maxHeartbeats 2000000
/-! The VS layer, part I4: dict comprehensions of two clauses. -/
namespace VS
open PySem PySem.Spec PyProof.Rows L2
def dcO (own own2 : List Nat) (tg : Tg) (mt : M Bool) (it2 : M (List D)) (tg2 : Tg) (mt2 : M Bool) (mk me : M T) : List D → List (Key × D) → M (List (Key × D))
  | [], acc => ret acc
  | d :: ds, acc => fun ρ => match bindTg [] tg d ρ with
    | none => .stk
    | some ρ1 => match mt ρ1 with
      | .ok true ρ2 => match it2 ρ2 with
        | .ok ds2 ρ3 => match dcL own2 tg2 mt2 mk me ds2 acc (wipeE own2 ρ3) with
          | .ok acc' ρ4 => dcO own own2 tg mt it2 tg2 mt2 mk me ds acc' (wipeE own ρ4)
          | _ => .stk
        | _ => .stk
      | .ok false ρ2 => dcO own own2 tg mt it2 tg2 mt2 mk me ds acc (wipeE own ρ2)
      | _ => .stk
def dc2All (own own2 : List Nat) (tg : Tg) (mt : M Bool) (it2 : M (List D)) (tg2 : Tg) (mt2 : M Bool) (mk me : M T) (ds : List D) : M T := fun ρ =>
  if own.all (notOwn ρ) && tg.slots.all (fun i => own.contains i) && tg2.slots.all (fun i => own2.contains i) && own.all (fun i => decide (i < ρ.length)) then match dcO own own2 tg mt it2 tg2 mt2 mk me ds [] (wipeE own ρ) with
    | .ok xs ρ' => .ok (.dic xs) (backE own ρ ρ')
    | _ => .stk
  else .stk
def mDc2 (own own2 : List Nat) (it : M (List D)) (tg : Tg) (mt : M Bool) (it2 : M (List D)) (tg2 : Tg) (mt2 : M Bool) (mk me : M T) : M T := bnd it (dc2All own own2 tg mt it2 tg2 mt2 mk me)
/-- what is carried through the turns -/
structure Car (Da : Addr) (P : L2.St → Env → Hp → Prop) : Prop where
  step : ∀ σ ρ H σ' ρ' H', P σ ρ H → ¬ Own σ ρ Da → Ext (Own σ ρ) H (Own σ' ρ') H' → P σ' ρ' H'
  writ : ∀ σ ρ H o, P σ ρ H → P σ ρ (upd H Da o)
  less : ∀ σ ρ H σ' ρ', P σ ρ H → (∀ a, Own σ' ρ' a → Own σ ρ a) → P σ' ρ' H
theorem Car.ext {Da : Addr} {W0 : Av} {H0 : Hp} : Car Da fun σ ρ H => Ext W0 H0 (Both (Own σ ρ) (· = Da)) H :=
  ⟨fun σ ρ H σ' ρ' H' p n x => ⟨fun c o ec nn => by
      obtain ⟨h1, h2⟩ := p.mv c o ec nn
      obtain ⟨h3, h4⟩ := x.mv c o h1 fun z => h2 (.inl z)
      exact ⟨h3, fun z => z.elim h4 fun u => h2 (.inr u)⟩, fun c o ec => by
      obtain ⟨o', eo⟩ := p.dom c o ec
      exact x.dom c o' eo⟩, fun σ ρ H o p => p.updU, fun σ ρ H σ' ρ' p h => p.less fun a z => z.elim (fun u => .inl (h a u)) .inr⟩
theorem Car.mv {Da : Addr} {U W0 : Av} {H0 : Hp} : Car Da fun σ ρ H => Mv (Both (Both U (· = Da)) W0) H0 (Both (Both U (· = Da)) (Own σ ρ)) H :=
  ⟨fun σ ρ H σ' ρ' H' p n x => p.trans x.both, fun σ ρ H o p => p.trans (mv_upd (.inl (.inr rfl))), fun σ ρ H σ' ρ' p h => p.trans (Mv.less fun a z => z.elim .inl fun w => .inr (h a w))⟩
theorem Car.and {Da : Addr} {P P' : L2.St → Env → Hp → Prop} (h : Car Da P) (h' : Car Da P') : Car Da fun σ ρ H => P σ ρ H ∧ P' σ ρ H :=
  ⟨fun σ ρ H σ' ρ' H' p n x => ⟨h.step _ _ _ _ _ _ p.1 n x, h'.step _ _ _ _ _ _ p.2 n x⟩, fun σ ρ H o p => ⟨h.writ _ _ _ _ p.1, h'.writ _ _ _ _ p.2⟩, fun σ ρ H σ' ρ' p l => ⟨h.less _ _ _ _ _ p.1 l, h'.less _ _ _ _ _ p.2 l⟩⟩
/-- the state between turns -/
structure DSt (K : PySem.W.Frag) (U : Av) (Da : Addr) (P : L2.St → Env → Hp → Prop) (σ : L2.St) (ρ : Env) (H : Hp) (acc : List (Key × D)) : Prop where
  rel : Rel K (Both U (· = Da)) H σ ρ
  p : P σ ρ H
  at_ : ∃ vs, H Da = some (.dK (List.zip (acc.map (·.1)) vs)) ∧ DnAll K (Both (Both U (· = Da)) (Own σ ρ)) H vs (acc.map (·.2))
section
variable {C : Wd} {U : Av} {Da : Addr} {P : L2.St → Env → Hp → Prop} {σ σ' : L2.St} {ρ ρ' : Env} {H H' : Hp} {acc : List (Key × D)}
theorem DSt.nu {K : PySem.W.Frag} (s : DSt K U Da P σ ρ H acc) : ¬ Own σ ρ Da := fun z => s.rel.nu _ z (.inr rfl)
theorem DSt.step {K : PySem.W.Frag} (s : DSt K U Da P σ ρ H acc) (c : Car Da P) (R : Rel K (Both U (· = Da)) H' σ' ρ') (x : Ext (Own σ ρ) H (Own σ' ρ') H') : DSt K U Da P σ' ρ' H' acc := by
  obtain ⟨vs, e, d⟩ := s.at_
  exact ⟨R, c.step _ _ _ _ _ _ s.p s.nu x, vs, (x.mv _ _ e s.nu).1, d.mv x.both⟩
theorem DSt.wipe {K : PySem.W.Frag} {ow : List Nat} (s : DSt K U Da P σ ρ H acc) (c : Car Da P) : DSt K U Da P (L2.wipe σ ow) (wipeE ow ρ) H acc := by
  obtain ⟨vs, e, d⟩ := s.at_
  exact ⟨s.rel.wipe, c.less _ _ _ _ _ s.p fun a z => own_wipe z, vs, e, d.mv (Mv.less fun a z => z.elim .inl fun u => .inr (own_wipe u))⟩
theorem slots_wipe {ow : List Nat} {tg : Tg} {σb σ3 : L2.St} (hl : σ3.length = (wipe σb ow).length) (ct : tg.slots.all (fun i => ow.contains i) = true) (keep : ∀ j, j ∉ tg.slots → σ3[j]? = (wipe σb ow)[j]?) : wipe σ3 ow = wipe σb ow := by
  rw [wipe_eq (σ' := σ3) (σ := wipe σb ow) hl fun j hj => keep j fun z => hj (by
    have := List.all_eq_true.mp ct j z
    simpa using this)]
  exact wipe_eq (wipe_length σb ow) fun j hj => wipe_out hj
theorem dc_walk {ow : List Nat} {t : Tg} {mt : M Bool} {mk me : M T} {σb : L2.St} {J : It} {ds : List D} (hP : Car Da P) (hJ : ∀ σ' ρ' H', Rel C.K (Both U (· = Da)) H' σ' ρ' → P σ' ρ' H' → JW C.K (Both (Both U (· = Da)) (Own σ' ρ')) J ds H') (ct : t.slots.all (fun i => ow.contains i) = true)
    {acc0 xs : List (Key × D)} {ρ0 ρf : Env} {H0 : Hp} (s0 : DSt C.K U Da P (wipe σb ow) ρ0 H0 acc0) (e : dcL ow t mt mk me ds acc0 ρ0 = .ok xs ρf) {Nx : Hp → Prop} (hN : ∀ H', DSt C.K U Da P (wipe σb ow) ρf H' xs → Nx H') :
    ∃ W2 : Nat → Nat → Hp → Prop, (∃ m, W2 0 m H0) ∧ ∀ j m2 H, W2 j m2 H → (J.stop j H ∧ Nx H) ∨ (J.go j H ∧ ∃ Ny : Hp → Prop, (∀ H', Ny H' → ∃ m', m' < m2 ∧ W2 (j + 1) m' H') ∧ ∀ y H', J.yld j H y H' → tG C.nox [] t y (wipe σb ow) H' fun σ4 H5 => wipe σ4 ow = wipe σb ow ∧ tT C.nox mt σ4 H5 fun b2 H6 =>
      if b2 = true then tE C.nox mk σ4 H6 fun y1 H7 => tE C.nox me σ4 H7 fun z H8 => ∃ kvs k, y1 = kV k ∧ H8 Da = some (.dK kvs) ∧ kvs.length < sizeLine ∧ Ny (upd H8 Da (.dK (putK kvs k z))) else Ny H6) := by
  refine ⟨fun i m H' => m = ds.length - i ∧ i ≤ ds.length ∧ ∃ (ρ' : Env) (acc : List (Key × D)), DSt C.K U Da P (wipe σb ow) ρ' H' acc ∧ dcL ow t mt mk me (ds.drop i) acc ρ' = .ok xs ρf, ⟨ds.length, by simp, Nat.zero_le _, ρ0, acc0, s0, e⟩, ?_⟩
  rintro i m H' ⟨rfl, hi, ρ', acc, st, el⟩
  have w := hJ _ _ _ st.rel st.p
  by_cases hlt : i < ds.length
  · refine .inr ⟨w.go i hlt, fun H2 => ∃ (ρ2 : Env) (acc : List (Key × D)), DSt C.K U Da P (wipe σb ow) ρ2 H2 acc ∧ dcL ow t mt mk me (ds.drop (i + 1)) acc ρ2 = .ok xs ρf, fun H2 ⟨ρ2, acc, h1, h2⟩ => ⟨_, by omega, rfl, hlt, ρ2, acc, h1, h2⟩, fun y H2 hy => ?_⟩
    have hd : ds[i]? = some ds[i] := List.getElem?_eq_getElem hlt
    obtain ⟨sm, dy⟩ := w.yld i _ y H2 hd hy (tracked_both st.rel)
    rw [List.drop_eq_getElem_cons hlt] at el
    unfold dcL at el
    cases eb : bindTg [] t ds[i] ρ' with
    | none => simp only [eb] at el; cases el
    | some ρ2 =>
      simp only [eb] at el
      have R2 : Rel C.K (Both U (· = Da)) H2 (wipe σb ow) ρ' := st.rel.grow sm (fun _ z => .inl z) fun a z => by
        obtain ⟨o, eo⟩ := st.rel.tr a z
        exact ⟨o, sm a o eo⟩
      refine ⟨Both U (· = Da), ρ', ds[i], R2, dy, ρ2, eb, fun σ3 R3 ow3 _ keep => ?_⟩
      have wq := slots_wipe (by rw [R3.len, bind_len eb, R2.len]) ct keep
      have st3 : DSt C.K U Da P σ3 ρ2 H2 acc := st.step hP R3 ((Ext.of_same sm).less ow3)
      refine ⟨wq, Both U (· = Da), ρ2, R3, ?_⟩
      cases e3 : mt ρ2 with
      | stk => simp only [e3] at el; cases el
      | exn _ _ => simp only [e3] at el; cases el
      | ok b ρ3 =>
        intro b' H3 rb xb
        obtain ⟨Rb, rfl⟩ := rb
        have stb := st3.step hP Rb xb.drop
        cases b' with
        | false =>
          simp only [e3] at el
          rw [if_neg Bool.false_ne_true]
          refine ⟨wipeE ow ρ3, acc, ?_, el⟩
          rw [← wq]
          exact stb.wipe hP
        | true =>
          simp only [e3] at el
          rw [if_pos rfl]
          refine ⟨Both U (· = Da), ρ3, Rb, ?_⟩
          cases e4 : mk ρ3 with
          | stk => simp only [e4] at el; cases el
          | exn _ _ => simp only [e4] at el; cases el
          | ok tk ρ4 =>
            simp only [e4] at el
            cases ek : unD tk.toD with
            | none => simp only [ek] at el; cases el
            | some kk =>
              simp only [ek] at el
              intro yk H4 rk xk
              have stk := stb.step hP rk.drop xk.drop
              have ey : yk = kV kk := unD_kV (.inl rk.frz) ek
              refine ⟨Both U (· = Da), ρ4, rk.drop, ?_⟩
              cases e5 : me ρ4 with
              | stk => simp only [e5] at el; cases el
              | exn _ _ => simp only [e5] at el; cases el
              | ok tt ρ5 =>
                simp only [e5] at el
                split at el
                · rename_i lz
                  intro z H5 rz xz
                  have stz := stk.step hP rz.drop xz.drop
                  obtain ⟨vs, e6, d6⟩ := stz.at_
                  obtain ⟨vs', z1, z2⟩ := putK_zip (k := kk) rz.frz d6
                  refine ⟨_, kk, ey, e6, by rw [List.length_zip, d6.len, List.length_map, List.length_map, Nat.min_self]; exact lz, wipeE ow ρ5, _, ?_, el⟩
                  rw [z1, ← wq]
                  exact DSt.wipe ⟨stz.rel.updU (.inr rfl), hP.writ _ _ _ _ stz.p, vs', upd_same, z2.mv (mv_upd (.inl (.inr rfl)))⟩ hP
                · cases el
  · have ei : i = ds.length := by omega
    subst ei
    rw [List.drop_length] at el
    have el : VS.R.ok acc ρ' = VS.R.ok xs ρf := el
    cases el
    exact .inl ⟨w.stop, hN H' st⟩
theorem dc2_of {ow own2 : List Nat} {it it2 : M (List D)} {tg tg2 : Tg} {mt mt2 : M Bool} {mk me : M T} {σ : L2.St} {H : Hp} {Q : VK} (h2 : ∀ i ∈ own2, i ∈ ow) (h : tE C (mDc2 ow own2 it tg mt it2 tg2 mt2 mk me) σ H Q) :
    tDc2 (tIt C it) (tG C.nox [] tg) (tT C.nox mt) (tIt C.nox it2) (tG C.nox [] tg2) (tT C.nox mt2) (tE C.nox mk) (tE C.nox me) ow own2 σ H Q := by
  obtain ⟨U, ρ, R, p⟩ := h
  refine ⟨U, ρ, R, Post.seq p fun ds ρ1 J H1 rr x q => ?_⟩
  obtain ⟨R1, jw⟩ := rr
  intro Da hD
  unfold dc2All at q
  split at q
  · rename_i cond
    simp only [Bool.and_eq_true] at cond
    obtain ⟨⟨⟨cn, ct⟩, ct2⟩, cl⟩ := cond
    cases e : dcO ow own2 tg mt it2 tg2 mt2 mk me ds [] (wipeE ow ρ1) with
    | stk => simp only [e] at q; exact q.elim
    | exn _ _ => simp only [e] at q; exact q.elim
    | ok xs ρf =>
      simp only [e] at q
      have c1 : Car Da fun σ' ρ' H' => Ext (Own σ ρ1) H1 (Both (Own σ' ρ') (· = Da)) H' := Car.ext
      have s0 : DSt C.K U Da (fun σ' ρ' H' => Ext (Own σ ρ1) H1 (Both (Own σ' ρ') (· = Da)) H') (wipe σ ow) (wipeE ow ρ1) (upd H1 Da (.dK [])) [] := by
        refine ⟨(R1.wipe).grow (same_new hD) (fun a z => z.elim .inl fun w => .inr (by rw [w]; exact hD)) fun a z => z.elim (fun u => ?_) fun w => by rw [w]; exact ⟨_, upd_same⟩, ⟨fun b o eb n => ⟨same_new hD b o eb, fun z => z.elim (fun w => n (own_wipe w)) fun w => ?_⟩, fun b o eb => ⟨o, same_new hD b o eb⟩⟩, [], upd_same, .nil⟩
        · obtain ⟨o, eo⟩ := R1.tr a u
          exact ⟨o, same_new hD a o eo⟩
        · rw [w, hD] at eb; cases eb
      refine ⟨fun i m H' => m = ds.length - i ∧ i ≤ ds.length ∧ ∃ (ρ' : Env) (acc : List (Key × D)), DSt C.K U Da (fun σ' ρ' H' => Ext (Own σ ρ1) H1 (Both (Own σ' ρ') (· = Da)) H') (wipe σ ow) ρ' H' acc ∧ dcO ow own2 tg mt it2 tg2 mt2 mk me (ds.drop i) acc ρ' = .ok xs ρf, ⟨ds.length, by simp, Nat.zero_le _, _, [], s0, e⟩, ?_⟩
      rintro i m H' ⟨rfl, hi, ρ', acc, st, el⟩
      have mvU : Mv (Both U (Own σ ρ1)) H1 (Both (Both U (· = Da)) (Own (wipe σ ow) ρ')) H' := fun b o eb n => by
        obtain ⟨h3, h4⟩ := st.p.mv b o eb fun z => n (.inr z)
        exact ⟨h3, fun z => by
          rcases z with (z | z) | z
          · exact n (.inl z)
          · exact h4 (.inr z)
          · exact h4 (.inl z)⟩
      have w := jw _ _ mvU
      by_cases hlt : i < ds.length
      · refine .inr ⟨w.go i hlt, fun H2 => ∃ (ρ2 : Env) (acc : List (Key × D)), DSt C.K U Da (fun σ' ρ' H' => Ext (Own σ ρ1) H1 (Both (Own σ' ρ') (· = Da)) H') (wipe σ ow) ρ2 H2 acc ∧ dcO ow own2 tg mt it2 tg2 mt2 mk me (ds.drop (i + 1)) acc ρ2 = .ok xs ρf, fun H2 ⟨ρ2, acc, h3, h4⟩ => ⟨_, by omega, rfl, hlt, ρ2, acc, h3, h4⟩, fun y H2 hy => ?_⟩
        have hd : ds[i]? = some ds[i] := List.getElem?_eq_getElem hlt
        obtain ⟨sm, dy⟩ := w.yld i _ y H2 hd hy (tracked_both st.rel)
        rw [List.drop_eq_getElem_cons hlt] at el
        unfold dcO at el
        cases eb : bindTg [] tg ds[i] ρ' with
        | none => simp only [eb] at el; cases el
        | some ρ2 =>
          simp only [eb] at el
          have R2 : Rel C.K (Both U (· = Da)) H2 (wipe σ ow) ρ' := st.rel.grow sm (fun _ z => .inl z) fun a z => by
            obtain ⟨o, eo⟩ := st.rel.tr a z
            exact ⟨o, sm a o eo⟩
          refine ⟨Both U (· = Da), ρ', ds[i], R2, dy, ρ2, eb, fun σ3 R3 ow3 _ keep => ?_⟩
          have wq := slots_wipe (by rw [R3.len, bind_len eb, R2.len]) ct keep
          have st3 := st.step c1 R3 ((Ext.of_same sm).less ow3)
          refine ⟨wq, Both U (· = Da), ρ2, R3, ?_⟩
          cases e3 : mt ρ2 with
          | stk => simp only [e3] at el; cases el
          | exn _ _ => simp only [e3] at el; cases el
          | ok b ρ3 =>
            intro b' H3 rb xb
            obtain ⟨Rb, rfl⟩ := rb
            have stb := st3.step c1 Rb xb.drop
            cases b' with
            | false =>
              simp only [e3] at el
              rw [if_neg Bool.false_ne_true]
              refine ⟨wipeE ow ρ3, acc, ?_, el⟩
              rw [← wq]
              exact stb.wipe c1
            | true =>
              simp only [e3] at el
              rw [if_pos rfl]
              refine ⟨Both U (· = Da), ρ3, Rb, ?_⟩
              cases e4 : it2 ρ3 with
              | stk => simp only [e4] at el; cases el
              | exn _ _ => simp only [e4] at el; cases el
              | ok ds2 ρ4 =>
                simp only [e4] at el
                cases e5 : dcL own2 tg2 mt2 mk me ds2 acc (wipeE own2 ρ4) with
                | stk => simp only [e5] at el; cases el
                | exn _ _ => simp only [e5] at el; cases el
                | ok acc' ρ5 =>
                  simp only [e5] at el
                  intro J2 H4 rj xj
                  obtain ⟨R4, jw2⟩ := rj
                  have st4 := stb.step c1 R4 xj.drop
                  have st5 : DSt C.K U Da (fun σ' ρ' H' => Ext (Own σ ρ1) H1 (Both (Own σ' ρ') (· = Da)) H' ∧ Mv (Both (Both U (· = Da)) (Own σ3 ρ4)) H4 (Both (Both U (· = Da)) (Own σ' ρ')) H') σ3 ρ4 H4 acc := ⟨st4.rel, ⟨st4.p, Mv.refl⟩, st4.at_⟩
                  refine dc_walk (c1.and Car.mv) (fun σ' ρ' H' _ pp => jw2 _ _ pp.2) ct2 (st5.wipe (c1.and Car.mv)) e5 fun H5 s5 => ?_
                  have s6 : DSt C.K U Da (fun σ' ρ' H' => Ext (Own σ ρ1) H1 (Both (Own σ' ρ') (· = Da)) H') (wipe σ3 own2) ρ5 H5 acc' := ⟨s5.rel, s5.p.1, s5.at_⟩
                  refine ⟨wipeE ow ρ5, acc', ?_, el⟩
                  have s7 := s6.wipe (ow := ow) c1
                  rw [wipe_wipe h2, wq] at s7
                  exact s7
      · have ei : i = ds.length := by omega
        subst ei
        rw [List.drop_length] at el
        have el : VS.R.ok acc ρ' = VS.R.ok xs ρf := el
        cases el
        obtain ⟨vs, eD, dn⟩ := st.at_
        refine .inl ⟨w.stop, ?_⟩
        have RB := Rel.back R1 st.rel mvU cn cl
        have hlen : ρf.length = ρ1.length := by rw [← st.rel.len, wipe_length, R1.len]
        have ob : ∀ a, Own σ (backE ow ρ1 ρf) a → Own (wipe σ ow) ρf a := fun a z => own_back cn cl z hlen
        have one : ∀ a, OwnT (.dic xs) (.ref Da) a → a = Da := fun a z => by
          have := z.2
          cases this
          rfl
        refine q (.ref Da) H' ⟨RB.less fun a z => z.elim .inl fun u => .inr (one a u), ⟨Da, vs, rfl, eD, dn.mv (Mv.less fun a z => ?_)⟩, fun a z u => ?_⟩ (st.p.less fun a z => z.elim (fun u => .inl (ob a u)) fun u => .inr (one a u))
        · rcases z with (z | z) | z
          · exact .inl (.inl z)
          · exact .inl (.inr (one a z))
          · exact .inr (ob a z)
        · obtain ⟨o, eo⟩ := R1.tr a u
          rw [one a z, hD] at eo
          cases eo
  · exact q.elim
end
section
variable {X : Cx} {C : Wd}
theorem se_dc2 {kx vx t1 t2 it1 it2 : Expr} {ifs1 ifs2 : List Expr} {scope : Scope} {own : List (Str × Nat)} {pos : Pos} {own2 : List Nat} {it mit2 : M (List D)} {tg tg2 : Tg} {mt mt2 : M Bool} {mk me : M T}
    (hc : X.calm = true) (hN : X.N.Nodup) (hi : PI X t1 it1 (tIt C it)) (ok : BlkOk X.N X.env.scope scope own) (h2 : ∀ i ∈ own2, i ∈ own.map (·.2))
    (hg1 : ∀ (s : Shared) (H : Hp) (L : Addr) (cl : List (Str × Addr)) (fp : List Addr), PG (X.blk s H scope (compEnvC scope cl L X.env) fp) t1 (tG C.nox [] tg)) (ht1 : ∀ (s : Shared) (H : Hp) (L : Addr) (cl : List (Str × Addr)) (fp : List Addr), PTs (X.blk s H scope (compEnvC scope cl L X.env) fp) ifs1 (tT C.nox mt))
    (hi2 : ∀ (s : Shared) (H : Hp) (L : Addr) (cl : List (Str × Addr)) (fp : List Addr), PI (X.blk s H scope (compEnvC scope cl L X.env) fp) t2 it2 (tIt C.nox mit2))
    (hg2 : ∀ (s : Shared) (H : Hp) (L : Addr) (cl : List (Str × Addr)) (fp : List Addr), PG (X.blk s H scope (compEnvC scope cl L X.env) fp) t2 (tG C.nox [] tg2)) (ht2 : ∀ (s : Shared) (H : Hp) (L : Addr) (cl : List (Str × Addr)) (fp : List Addr), PTs (X.blk s H scope (compEnvC scope cl L X.env) fp) ifs2 (tT C.nox mt2))
    (hk : ∀ (s : Shared) (H : Hp) (L : Addr) (cl : List (Str × Addr)) (fp : List Addr), PE (X.blk s H scope (compEnvC scope cl L X.env) fp) kx (tE C.nox mk)) (he : ∀ (s : Shared) (H : Hp) (L : Addr) (cl : List (Str × Addr)) (fp : List Addr), PE (X.blk s H scope (compEnvC scope cl L X.env) fp) vx (tE C.nox me))
    (hs1 : ∀ x, foldedSetIterable it1 X.env x = pure x) (hs2 : ∀ (e : PySem.Env) x, foldedSetIterable it2 e x = pure x) :
    PE X (.DictComp kx vx [⟨t1, it1, ifs1, 0⟩, ⟨t2, it2, ifs2, 0⟩] scope pos) (tE C (mDc2 (own.map (·.2)) own2 it tg mt mit2 tg2 mt2 mk me)) := (pe_dc2 hc hN hi ok h2 hg1 ht1 hi2 hg2 ht2 hk he hs1 hs2).mono fun _ _ _ h => dc2_of h2 h
end
end VS
set_option Elab.async false
set_option linter.all false
set_option maxRecDepth 100000
set_option maxHeartbeats 1000000
/-! The VS layer, part J: arguments, calls, defs. -/
namespace VS
open PySem PySem.Spec PyProof.Rows L2

/-- an argument: a value that is handed over, or the slot whose own object it is -/
inductive A where
  | mv (t : T)
  | ref (i : Nat)
inductive RF where
  | ok (t : T) (outs : Env)
  | exn (x : Exn) (outs : Env)
  | stk
abbrev FS := List T → RF
def mAslot (i : Nat) : M A := fun ρ => match ρ[i]? with
  | some (some (.shr d)) => .ok (.mv (.shr d)) ρ
  | some (some _) => .ok (.ref i) ρ
  | _ => .stk
def mAval (m : M T) : M A := bnd m fun t => ret (.mv t)
def mAs : List (M A) → M (List A)
  | [] => ret []
  | m :: ms => bnd m fun a => bnd (mAs ms) fun as => ret (a :: as)
def A.get (ρ : Env) : A → Option T
  | .mv t => some t
  | .ref i => match ρ[i]? with
    | some (some t) => if t.own then some t else none
    | _ => none
def refs : List A → List Nat
  | [] => []
  | .mv _ :: r => refs r
  | .ref i :: r => i :: refs r
/-- what comes back is put where it came from -/
def backA : List A → Env → Env → Env
  | .ref i :: r, w :: outs, ρ => backA r outs (ρ.set i w)
  | .mv _ :: r, _ :: outs, ρ => backA r outs ρ
  | _, _, ρ => ρ
def finCall (f : FS) (as : List A) : M T := fun ρ => match mapO (A.get ρ) as with
  | some ts => if (refs as).Nodup then match f ts with
    | .ok t outs => if outs.length = as.length then .ok t (backA as outs ρ) else .stk
    | .exn x outs => if outs.length = as.length then .exn x (backA as outs ρ) else .stk
    | .stk => .stk
    else .stk
  | none => .stk
def mCall (f : FS) (ms : List (M A)) : M T := bnd (mAs ms) (finCall f)

def OwnA (vs : List V) (as : List A) (a : Addr) : Prop := ∃ (j : Nat) (t : T), as[j]? = some (.mv t) ∧ t.own = true ∧ vs[j]? = some (.ref a)
structure RAs (K : PySem.W.Frag) (U : Av) (σ : L2.St) (H : Hp) (ρ : Env) (vs : List V) (as : List A) : Prop where
  rel : Rel K (Both U (OwnA vs as)) H σ ρ
  len : vs.length = as.length
  mv : ∀ (j : Nat) (v : V) (t : T), vs[j]? = some v → as[j]? = some (.mv t) → RT K (Both (Both U (OwnA vs as)) (Own σ ρ)) H v t
  ref : ∀ (j i : Nat) (v : V), vs[j]? = some v → as[j]? = some (.ref i) → σ[i]? = some (some v)
  nu : ∀ a, OwnA vs as a → ¬ U a
  inj : ∀ (j k : Nat) (t u : T) (a : Addr), as[j]? = some (.mv t) → t.own = true → vs[j]? = some (.ref a) → as[k]? = some (.mv u) → u.own = true → vs[k]? = some (.ref a) → j = k
def RA1 (K : PySem.W.Frag) (U : Av) (σ : L2.St) (H : Hp) (ρ : Env) (v : V) : A → Prop
  | .mv t => RelR K U σ H ρ v t
  | .ref i => Rel K U H σ ρ ∧ σ[i]? = some (some v)
def OwA1 (v : V) : A → Av
  | .mv t => OwnT t v
  | .ref _ => fun _ => False
def tA (C : Wd) (m : M A) : TE := fun σ H Q => ∃ U ρ, Rel C.K U H σ ρ ∧ Post C U σ (RA1 C.K U σ) OwA1 H ρ Q (m ρ)
def tAs (C : Wd) (m : M (List A)) : TA := fun σ H Q => ∃ U ρ, Rel C.K U H σ ρ ∧ Post C U σ (RAs C.K U σ) OwnA H ρ Q (m ρ)
section
variable {C : Wd} {U : Av} {σ : L2.St} {H : Hp} {ρ : Env} {α β γ δ : Type}
/-- one behind another, told from the first state -/
theorem Post.seqU {RR1 : Hp → Env → β → α → Prop} {OW1 : β → α → Av} {RR2 : Hp → Env → δ → γ → Prop} {OW2 : δ → γ → Av} {Q1 : β → Hp → Prop} {Q2 : δ → Hp → Prop} {m : M α} {f : α → M γ}
    (h : Post C U σ RR2 OW2 H ρ Q2 (bnd m f ρ))
    (k : ∀ a ρ1 b H1, RR1 H1 ρ1 b a → Ext (Own σ ρ) H (Both (Own σ ρ1) (OW1 b a)) H1 → Post C U σ RR2 OW2 H ρ Q2 (f a ρ1) → Q1 b H1) : Post C U σ RR1 OW1 H ρ Q1 (m ρ) := by
  unfold bnd at h
  cases e : m ρ with
  | ok a ρ1 =>
    rw [e] at h
    exact fun b H' rr y => k a ρ1 b H' rr y h
  | exn x ρ1 =>
    rw [e] at h
    exact h
  | stk =>
    rw [e] at h
    exact h
end
section
variable {X : Cx} {C : Wd} {i : Nat}
theorem sa_slot {e : Expr} (h : PE X e (tVar i)) : PE X e (tA C (mAslot i)) := h.mono fun σ H Q ⟨U, ρ, R, p⟩ => by
  unfold mAslot at p
  cases e : ρ[i]? with
  | none => rw [e] at p; exact p.elim
  | some w =>
    cases w with
    | none => rw [e] at p; exact p.elim
    | some t =>
      obtain ⟨v, e1, r⟩ := R.slot i t e
      refine ⟨v, e1, ?_⟩
      rw [e] at p
      cases t with
      | shr d => exact p v H (RelR.shr R r) (Ext.refl.less fun a z => z.elim id fun w => by cases w.1)
      | lst ds => exact p v H ⟨R, e1⟩ (Ext.refl.less fun a z => z.elim id False.elim)
      | dic ds => exact p v H ⟨R, e1⟩ (Ext.refl.less fun a z => z.elim id False.elim)
theorem sa_val {e : Expr} {m : M T} (h : PE X e (tE C m)) : PE X e (tA C (mAval m)) := h.mono fun σ H Q ⟨U, ρ, R, p⟩ =>
  ⟨U, ρ, R, p.seqU fun t ρ1 v H1 rr x q => q v H1 rr x⟩
theorem sas_nil : PA X [] (tAs C (mAs [])) := pa_nil.mono fun σ H Q ⟨U, ρ, R, p⟩ => by
  have no : ∀ a, ¬ OwnA [] [] a := fun a ⟨j, t, e, _⟩ => by simp at e
  exact p [] H ⟨R.less fun a z => z.elim id fun w => (no a w).elim, rfl, fun j v t e => by simp at e, fun j i v e => by simp at e, fun a z => (no a z).elim, fun j k t u a e => by simp at e⟩ (Ext.refl.less fun a z => z.elim id fun w => (no a w).elim)
theorem ownA_cons {v : V} {vs : List V} {x : A} {as : List A} {a : Addr} : OwnA (v :: vs) (x :: as) a ↔ OwA1 v x a ∨ OwnA vs as a := by
  constructor
  · rintro ⟨j, t, e1, e2, e3⟩
    cases j with
    | zero => cases e1; cases e3; exact .inl ⟨e2, rfl⟩
    | succ j => exact .inr ⟨j, t, e1, e2, e3⟩
  · rintro (h | ⟨j, t, e1, e2, e3⟩)
    · cases x with
      | mv t => obtain ⟨h1, rfl⟩ := h; exact ⟨0, t, rfl, h1, rfl⟩
      | ref i => exact h.elim
    · exact ⟨j + 1, t, e1, e2, e3⟩
theorem RA1.rel {K : PySem.W.Frag} {U : Av} {σ : L2.St} {H : Hp} {ρ : Env} {v : V} {x : A} (h : RA1 K U σ H ρ v x) : Rel K (Both U (OwA1 v x)) H σ ρ := by
  cases x with
  | mv t => exact RelR.rel h
  | ref i => exact h.1.less fun a z => z.elim id False.elim
theorem RA1.nu {K : PySem.W.Frag} {U : Av} {σ : L2.St} {H : Hp} {ρ : Env} {v : V} {x : A} (h : RA1 K U σ H ρ v x) : ∀ a, OwA1 v x a → ¬ U a := by
  cases x with
  | mv t => exact RelR.nu h
  | ref i => exact fun a z => z.elim
theorem sas_cons {e : Expr} {es : List Expr} {m : M A} {ms : List (M A)} (h : PE X e (tA C m)) (hs : PA X es (tAs C (mAs ms))) (he : starEach (e :: es) X.env = (false, eval e X.env) :: starEach es X.env) : PA X (e :: es) (tAs C (mAs (m :: ms))) :=
  (pa_cons h hs he).mono fun σ H Q ⟨U, ρ, R, p⟩ => by
  refine ⟨U, ρ, R, p.seqU fun x ρ1 v H1 r1 x1 q => ?_⟩
  refine ⟨Both U (OwA1 v x), ρ1, r1.rel, ?_⟩
  -- the others, with the first one's own object kept out of
  have q' : Post C (Both U (OwA1 v x)) σ (fun H' ρ' vs as => RAs C.K (Both U (OwA1 v x)) σ H' ρ' vs as) OwnA H1 ρ1 (fun vs H2 => Q (v :: vs) H2) (mAs ms ρ1) := by
    unfold bnd at q
    cases e2 : mAs ms ρ1 with
    | stk => rw [e2] at q; exact q.elim
    | exn y ρ2 =>
      rw [e2] at q
      exact fun c dx H' rx R2 x2 => q c dx H' rx (R2.less fun a z => .inl z) (x1.drop.trans x2)
    | ok as ρ2 =>
      rw [e2] at q
      intro vs H2 rs x2
      -- the first one, behind the others
      have keep : ∀ b o, H1 b = some o → ¬ Own σ ρ1 b → H2 b = some o ∧ ¬ Both (Own σ ρ2) (OwnA vs as) b := fun b o eb n => x2.mv b o eb n
      have ea : ∀ a, Both U (OwnA (v :: vs) (x :: as)) a → Both (Both U (OwA1 v x)) (OwnA vs as) a := fun a z => z.elim (fun u => .inl (.inl u)) fun w => (ownA_cons.mp w).elim (fun u => .inl (.inr u)) .inr
      have ae : ∀ a, Both (Both U (OwA1 v x)) (OwnA vs as) a → Both U (OwnA (v :: vs) (x :: as)) a := fun a z => by
        rcases z with (z | z) | z
        · exact .inl z
        · exact .inr (ownA_cons.mpr (.inl z))
        · exact .inr (ownA_cons.mpr (.inr z))
      have head : ∀ t, x = .mv t → RT C.K (Both (Both U (OwnA (v :: vs) (x :: as))) (Own σ ρ2)) H2 v t := fun t ex => by
        subst ex
        have rv : RT C.K (Both (Both U (OwnT t v)) (Own σ ρ1)) H1 v t := RelR.val r1
        refine rv.mv (fun b o eb n => ?_) fun ht b o ev eb => ?_
        · obtain ⟨h1, h2⟩ := keep b o eb fun z => n (.inr z)
          refine ⟨h1, fun z => ?_⟩
          rcases z with z | z
          · rcases ea b z with z | z
            · exact n (.inl z)
            · exact h2 (.inr z)
          · exact h2 (.inl z)
        · exact (keep b o eb fun z => (RelR.rel r1).nu b z (.inr ⟨ht, ev⟩)).1
      refine q (v :: vs) H2 ⟨rs.rel.less ea, congrArg (· + 1) rs.len, fun j w t e1 e3 => ?_, fun j i w e1 e3 => ?_, fun a z => ?_, fun j k t u a e1 e3 e4 f1 f2 f3 => ?_⟩ ⟨fun b o eb n => ?_, fun b o eb => ?_⟩
      · cases j with
        | zero => cases e1; cases e3; exact head t rfl
        | succ j => exact (rs.mv j w t e1 e3).mv (Mv.less fun a z => z.elim (fun u => .inl (ea a u)) .inr) fun _ _ _ _ h => h
      · cases j with
        | zero => cases e1; cases e3; exact r1.2
        | succ j => exact rs.ref j i w e1 e3
      · rcases ownA_cons.mp z with w | w
        · exact r1.nu a w
        · exact fun u => rs.nu a w (.inl u)
      · cases j with
        | zero =>
          cases k with
          | zero => rfl
          | succ k =>
            exfalso
            cases e1
            cases e4
            exact rs.nu a ⟨k, u, f1, f2, f3⟩ (.inr ⟨e3, rfl⟩)
        | succ j =>
          cases k with
          | zero =>
            exfalso
            cases f1
            cases f3
            exact rs.nu a ⟨j, t, e1, e3, e4⟩ (.inr ⟨f2, rfl⟩)
          | succ k => rw [rs.inj j k t u a e1 e3 e4 f1 f2 f3]
      · obtain ⟨h1, h2⟩ := x1.mv b o eb n
        obtain ⟨h3, h4⟩ := keep b o h1 fun z => h2 (.inl z)
        refine ⟨h3, fun z => ?_⟩
        rcases z with z | z
        · exact h4 (.inl z)
        · rcases ownA_cons.mp z with w | w
          · exact h2 (.inr w)
          · exact h4 (.inr w)
      · obtain ⟨o', eo⟩ := x1.dom b o eb
        exact x2.dom b o' eo
  exact q'
end

/-! ### what a def promises -/
def PostF (C : Wd) (E : XK) (U : Av) (vs : List V) (ts : List T) (H : Hp) (Q : VK) : RF → Prop
  | .ok t outs => ∀ v H', RelR C.K U (vs.map some) H' outs v t → Ext (Own (vs.map some) (ts.map some)) H (Both (Own (vs.map some) outs) (OwnT t v)) H' → Q v H'
  | .exn x outs => ∀ c dx H', RX C.CA c dx x → Rel C.K U H' (vs.map some) outs → Ext (Own (vs.map some) (ts.map some)) H (Own (vs.map some) outs) H' → E c dx H'
  | .stk => False
def spF (C : Wd) (n : Nat) (f : FS) : Sp := fun vs H Q E => vs.length = n ∧ ∃ U ts, Rel C.K U H (vs.map some) (ts.map some) ∧ PostF C E U vs ts H Q (f ts)
end VS
set_option Elab.async false
set_option linter.all false
set_option maxRecDepth 100000
set_option maxHeartbeats 1000000
/-! The VS layer, part K: a call, seen from the caller. -/
namespace VS
open PySem PySem.Spec PyProof.Rows L2

/-- the slots whose own objects are handed over, emptied -/
def lend (rs : List Nat) (ρ : Env) : Env := wipeE rs ρ
section
variable {ρ : Env}
theorem mapO_get {α β : Type} {f : α → Option β} : ∀ {xs : List α} {ys : List β}, mapO f xs = some ys → ys.length = xs.length ∧ ∀ (j : Nat) (x : α), xs[j]? = some x → ∃ y, ys[j]? = some y ∧ f x = some y
  | [], _, e => by cases e; exact ⟨rfl, fun j x h => by simp at h⟩
  | x :: xs, ys, e => by
    unfold mapO at e
    cases e1 : f x with
    | none => simp only [e1] at e; cases e
    | some y =>
      cases e2 : mapO f xs with
      | none => simp only [e1, e2] at e; cases e
      | some zs =>
        simp only [e1, e2] at e
        cases e
        obtain ⟨l, h⟩ := mapO_get e2
        refine ⟨congrArg (· + 1) l, fun j z hz => ?_⟩
        cases j with
        | zero => cases hz; exact ⟨y, rfl, e1⟩
        | succ j => exact h j z hz
theorem A.get_ref {i : Nat} {t : T} (h : (A.ref i).get ρ = some t) : ρ[i]? = some (some t) ∧ t.own = true := by
  unfold A.get at h
  cases e : ρ[i]? with
  | none => simp only [e] at h; cases h
  | some w =>
    cases w with
    | none => simp only [e] at h; cases h
    | some u =>
      simp only [e] at h
      split at h
      · rename_i c; cases h; exact ⟨rfl, c⟩
      · cases h
theorem mem_refs {i : Nat} : ∀ {as : List A}, i ∈ refs as ↔ ∃ j : Nat, as[j]? = some (A.ref i)
  | [] => by simp [refs]
  | .mv t :: r => by
    show i ∈ refs r ↔ _
    rw [mem_refs]
    constructor
    · rintro ⟨j, e⟩; exact ⟨j + 1, e⟩
    · rintro ⟨j, e⟩
      cases j with
      | zero => cases e
      | succ j => exact ⟨j, e⟩
  | .ref k :: r => by
    show i ∈ k :: refs r ↔ _
    rw [List.mem_cons, mem_refs]
    constructor
    · rintro (rfl | ⟨j, e⟩)
      · exact ⟨0, rfl⟩
      · exact ⟨j + 1, e⟩
    · rintro ⟨j, e⟩
      cases j with
      | zero => cases e; exact .inl rfl
      | succ j => exact .inr ⟨j, e⟩
theorem refs_inj {i : Nat} : ∀ {as : List A} {j k : Nat}, (refs as).Nodup → as[j]? = some (A.ref i) → as[k]? = some (A.ref i) → j = k
  | [], j, _, _, e, _ => by simp at e
  | .mv t :: r, j, k, n, e, f => by
    cases j with
    | zero => cases e
    | succ j =>
      cases k with
      | zero => cases f
      | succ k => rw [refs_inj (as := r) n e f]
  | .ref l :: r, j, k, n, e, f => by
    have n := List.nodup_cons.mp (show (l :: refs r).Nodup from n)
    cases j with
    | zero =>
      cases k with
      | zero => rfl
      | succ k => cases e; exact absurd (mem_refs.mpr ⟨k, f⟩) n.1
    | succ j =>
      cases k with
      | zero => cases f; exact absurd (mem_refs.mpr ⟨j, e⟩) n.1
      | succ k => rw [refs_inj (as := r) n.2 e f]
theorem backA_len : ∀ {as : List A} {outs ρ : Env}, (backA as outs ρ).length = ρ.length
  | [], _, _ => rfl
  | .ref i :: r, w :: outs, ρ => by show (backA r outs (ρ.set i w)).length = _; rw [backA_len, List.length_set]
  | .mv _ :: r, _ :: outs, ρ => by show (backA r outs ρ).length = _; rw [backA_len]
  | .ref _ :: _, [], _ => rfl
  | .mv _ :: _, [], _ => rfl
theorem backA_out {i : Nat} : ∀ {as : List A} {outs ρ : Env}, i ∉ refs as → (backA as outs ρ)[i]? = ρ[i]?
  | [], _, _, _ => rfl
  | .ref j :: r, w :: outs, ρ, h => by
    show (backA r outs (ρ.set j w))[i]? = _
    have h : i ∉ j :: refs r := h
    rw [backA_out fun z => h (.tail _ z), List.getElem?_set_ne fun z => h (by rw [z]; exact .head _)]
  | .mv _ :: r, _ :: outs, ρ, h => by show (backA r outs ρ)[i]? = _; exact backA_out h
  | .ref _ :: _, [], _, _ => rfl
  | .mv _ :: _, [], _, _ => rfl
theorem backA_at {i : Nat} : ∀ {as : List A} {outs ρ : Env} {j : Nat}, (refs as).Nodup → outs.length = as.length → as[j]? = some (A.ref i) → i < ρ.length → (backA as outs ρ)[i]? = outs[j]?
  | [], _, _, j, _, _, e, _ => by simp at e
  | .ref l :: r, w :: outs, ρ, j, n, h, e, lt => by
    have n := List.nodup_cons.mp (show (l :: refs r).Nodup from n)
    show (backA r outs (ρ.set l w))[i]? = _
    cases j with
    | zero =>
      cases e
      rw [backA_out n.1, List.getElem?_set_self lt]
      rfl
    | succ j => exact backA_at (as := r) n.2 (Nat.succ.inj h) e (by rw [List.length_set]; exact lt)
  | .mv _ :: r, _ :: outs, ρ, j, n, h, e, lt => by
    show (backA r outs ρ)[i]? = _
    cases j with
    | zero => cases e
    | succ j => exact backA_at (as := r) n (Nat.succ.inj h) e lt
  | .ref _ :: _, [], _, _, _, h, _, _ => by cases h
  | .mv _ :: _, [], _, _, _, h, _, _ => by cases h
end
section
variable {C : Wd} {U : Av} {σ : L2.St} {H0 H : Hp} {ρ0 ρ : Env} {vs : List V} {as : List A} {ts : List T} {f : FS} {Q : VK}
theorem map_get {α β : Type} {g : α → β} {xs : List α} {j : Nat} {y : β} (h : (xs.map g)[j]? = some y) : ∃ x, xs[j]? = some x ∧ g x = y := by
  rw [List.getElem?_map] at h
  cases e : xs[j]? with
  | none => rw [e] at h; cases h
  | some x => rw [e] at h; cases h; exact ⟨x, rfl, rfl⟩
/-- the arguments' own objects -/
theorem own_args (R : RAs C.K U σ H ρ vs as) (e : mapO (A.get ρ) as = some ts) {a : Addr} : Own (vs.map some) (ts.map some) a →
    OwnA vs as a ∨ ∃ (j i : Nat) (t : T), as[j]? = some (A.ref i) ∧ ρ[i]? = some (some t) ∧ t.own = true ∧ σ[i]? = some (some (.ref a)) ∧ vs[j]? = some (.ref a) := by
  rintro ⟨j, t, h1, h2, h3⟩
  obtain ⟨u, h1, eu⟩ := map_get h1
  cases eu
  obtain ⟨w, h3, ew⟩ := map_get h3
  cases ew
  obtain ⟨l, g⟩ := mapO_get e
  have hj : j < as.length := by rw [← l]; exact (List.getElem?_eq_some_iff.mp h1).1
  obtain ⟨y, hy, gy⟩ := g j as[j] (List.getElem?_eq_getElem hj)
  rw [h1] at hy
  cases hy
  cases ea : as[j] with
  | mv t' =>
    rw [ea] at gy
    cases gy
    exact .inl ⟨j, _, by rw [List.getElem?_eq_getElem hj, ea], h2, h3⟩
  | ref i =>
    rw [ea] at gy
    obtain ⟨g1, g2⟩ := A.get_ref gy
    have ej : as[j]? = some (A.ref i) := by rw [List.getElem?_eq_getElem hj, ea]
    exact .inr ⟨j, i, _, ej, g1, g2, R.ref j i _ h3 ej, h3⟩
abbrev lent (as : List A) (U : Av) (σ : L2.St) (ρ : Env) : Av := Both U (Own σ (wipeE (refs as) ρ))
theorem own_lent {rs : List Nat} {a : Addr} (h : Own σ (wipeE rs ρ) a) : ∃ (k : Nat) (t : T), k ∉ rs ∧ ρ[k]? = some (some t) ∧ t.own = true ∧ σ[k]? = some (some (.ref a)) := by
  obtain ⟨k, t, e1, e2, e3⟩ := h
  obtain ⟨f1, f2⟩ := wipeE_in e1
  exact ⟨k, t, f2, f1, e2, e3⟩
theorem args_rel (R : RAs C.K U σ H ρ vs as) (e : mapO (A.get ρ) as = some ts) (nd : (refs as).Nodup) : Rel C.K (lent as U σ ρ) H (vs.map some) (ts.map some) := by
  obtain ⟨l, g⟩ := mapO_get e
  have lentOwn : ∀ a, Own σ (wipeE (refs as) ρ) a → Own σ ρ a := fun a z => by
    obtain ⟨k, t, _, e1, e2, e3⟩ := own_lent z
    exact ⟨k, t, e1, e2, e3⟩
  -- where the arguments' own objects are
  have oa : ∀ a, Own (vs.map some) (ts.map some) a → OwnA vs as a ∨ Own σ ρ a := fun a z => (own_args R e z).elim .inl fun ⟨j, i, t, h1, h2, h3, h4, _⟩ => .inr ⟨i, t, h2, h3, h4⟩
  have m : Mv (Both (Both U (OwnA vs as)) (Own σ ρ)) H (Both (lent as U σ ρ) (Own (vs.map some) (ts.map some))) H := Mv.less fun a z => by
    rcases z with (z | z) | z
    · exact .inl (.inl z)
    · exact .inr (lentOwn a z)
    · exact (oa a z).elim (fun w => .inl (.inr w)) .inr
  refine ⟨by rw [List.length_map, List.length_map, R.len, l], fun j t h => ?_, fun a z => z.elim (fun u => R.rel.tr a (.inl u)) fun w => R.rel.tracked (lentOwn a w), fun a z => ?_, fun j k t u a e1 e2 e3 f1 f2 f3 => ?_⟩
  · obtain ⟨u, h, eu⟩ := map_get h
    cases eu
    have hj : j < as.length := by rw [← l]; exact (List.getElem?_eq_some_iff.mp h).1
    have hv : j < vs.length := by rw [R.len]; exact hj
    have ev : vs[j]? = some vs[j] := List.getElem?_eq_getElem hv
    refine ⟨vs[j], by rw [List.getElem?_map, ev]; rfl, ?_⟩
    obtain ⟨y, hy, gy⟩ := g j as[j] (List.getElem?_eq_getElem hj)
    rw [h] at hy
    cases hy
    cases ea : as[j] with
    | mv t' =>
      rw [ea] at gy
      cases gy
      exact (R.mv j _ _ ev (by rw [List.getElem?_eq_getElem hj, ea])).mv m fun _ _ _ _ h => h
    | ref i =>
      rw [ea] at gy
      obtain ⟨g1, g2⟩ := A.get_ref gy
      obtain ⟨v', s1, s2⟩ := R.rel.slot i _ g1
      rw [R.ref j i _ ev (by rw [List.getElem?_eq_getElem hj, ea])] at s1
      cases s1
      exact s2.mv m fun _ _ _ _ h => h
  · rcases own_args R e z with w | ⟨j, i, t, h1, h2, h3, h4, _⟩
    · exact fun u => u.elim (R.nu a w) fun q => R.rel.nu a (lentOwn a q) (.inr w)
    · have hn : ¬ U a := fun u => R.rel.nu a ⟨i, t, h2, h3, h4⟩ (.inl u)
      refine fun u => u.elim hn fun q => ?_
      obtain ⟨k, t', nk, f1, f2, f3⟩ := own_lent q
      have := R.rel.inj i k t t' a h2 h3 h4 f1 f2 f3
      exact nk (by rw [← this]; exact mem_refs.mpr ⟨j, h1⟩)
  · have w1 := own_args R e ⟨j, t, e1, e2, e3⟩
    -- each side told by its place
    obtain ⟨t0, e1', et⟩ := map_get e1
    cases et
    obtain ⟨u0, f1', eu⟩ := map_get f1
    cases eu
    obtain ⟨v0, e3', ev⟩ := map_get e3
    cases ev
    obtain ⟨w0, f3', ew⟩ := map_get f3
    cases ew
    have hj : j < as.length := by rw [← l]; exact (List.getElem?_eq_some_iff.mp e1').1
    have hk : k < as.length := by rw [← l]; exact (List.getElem?_eq_some_iff.mp f1').1
    have aj : as[j]? = some as[j] := List.getElem?_eq_getElem hj
    have ak : as[k]? = some as[k] := List.getElem?_eq_getElem hk
    obtain ⟨y, hy, gy⟩ := g j as[j] aj
    rw [e1'] at hy
    cases hy
    obtain ⟨z, hz, gz⟩ := g k as[k] ak
    rw [f1'] at hz
    cases hz
    cases ea : as[j] with
    | mv t' =>
      rw [ea] at gy aj
      cases gy
      cases eb : as[k] with
      | mv u' =>
        rw [eb] at gz ak
        cases gz
        exact R.inj j k _ _ a aj e2 e3' ak f2 f3'
      | ref i' =>
        rw [eb] at gz ak
        obtain ⟨g1, g2⟩ := A.get_ref gz
        exact absurd (.inr ⟨j, _, aj, e2, e3'⟩) (R.rel.nu a ⟨i', _, g1, g2, R.ref k i' _ f3' ak⟩)
    | ref i =>
      rw [ea] at gy aj
      obtain ⟨g1, g2⟩ := A.get_ref gy
      have si := R.ref j i _ e3' aj
      cases eb : as[k] with
      | mv u' =>
        rw [eb] at gz ak
        cases gz
        exact absurd (.inr ⟨k, _, ak, f2, f3'⟩) (R.rel.nu a ⟨i, _, g1, g2, si⟩)
      | ref i' =>
        rw [eb] at gz ak
        obtain ⟨g3, g4⟩ := A.get_ref gz
        have := R.rel.inj i i' _ _ a g1 g2 si g3 g4 (R.ref k i' _ f3' ak)
        rw [← this] at ak
        exact refs_inj nd aj ak
/-- behind the call: the caller's slots again -/
theorem call_back {H' : Hp} {outs : Env} {W : Av} (R : RAs C.K U σ H ρ vs as) (e : mapO (A.get ρ) as = some ts) (nd : (refs as).Nodup) (hl : outs.length = as.length)
    (S : Rel C.K (Both (lent as U σ ρ) W) H' (vs.map some) outs) (hW : ∀ a, W a → ¬ lent as U σ ρ a) (y : Ext (Own (vs.map some) (ts.map some)) H (Both (Own (vs.map some) outs) W) H') :
    Rel C.K (Both U W) H' σ (backA as outs ρ) ∧ (∀ a, Own σ (backA as outs ρ) a → Own σ (wipeE (refs as) ρ) a ∨ Own (vs.map some) outs a) := by
  obtain ⟨l, g⟩ := mapO_get e
  -- a slot behind the call: one that was lent, or another
  have kind : ∀ {i : Nat} {t : T}, (backA as outs ρ)[i]? = some (some t) → (i ∉ refs as ∧ ρ[i]? = some (some t)) ∨ ∃ j : Nat, as[j]? = some (A.ref i) ∧ outs[j]? = some (some t) := fun {i t} h => by
    by_cases c : i ∈ refs as
    · obtain ⟨j, ej⟩ := mem_refs.mp c
      have hi : i < ρ.length := by
        rw [← backA_len (as := as) (outs := outs)]
        exact (List.getElem?_eq_some_iff.mp h).1
      rw [backA_at nd hl ej hi] at h
      exact .inr ⟨j, ej, h⟩
    · rw [backA_out c] at h
      exact .inl ⟨c, h⟩
  have vj : ∀ {j i : Nat}, as[j]? = some (A.ref i) → ∃ v, vs[j]? = some v ∧ σ[i]? = some (some v) := fun {j i} h => by
    have hj : j < vs.length := by rw [R.len]; exact (List.getElem?_eq_some_iff.mp h).1
    have ev : vs[j]? = some vs[j] := List.getElem?_eq_getElem hj
    exact ⟨_, ev, R.ref j i _ ev h⟩
  have own : ∀ a, Own σ (backA as outs ρ) a → Own σ (wipeE (refs as) ρ) a ∨ Own (vs.map some) outs a := fun a ⟨i, t, h1, h2, h3⟩ => by
    rcases kind h1 with ⟨c, h⟩ | ⟨j, ej, h⟩
    · exact .inl ⟨i, t, by rw [wipeE_out c]; exact h, h2, h3⟩
    · obtain ⟨v, e1, e2⟩ := vj ej
      rw [h3] at e2
      cases e2
      exact .inr ⟨j, t, h, h2, by rw [List.getElem?_map, e1]; rfl⟩
  refine ⟨⟨?_, fun i t h => ?_, fun a z => ?_, fun a z => ?_, fun i k t u a e1 e2 e3 f1 f2 f3 => ?_⟩, own⟩
  · rw [backA_len]; exact R.rel.len
  · rcases kind h with ⟨c, h⟩ | ⟨j, ej, h⟩
    · obtain ⟨v, s1, s2⟩ := R.rel.slot i t h
      refine ⟨v, s1, s2.mv (fun b o eb n => ?_) fun ht b o ev eb => ?_⟩
      · have nb : ¬ Own (vs.map some) (ts.map some) b := fun z => (own_args R e z).elim (fun w => n (.inl (.inr w))) fun ⟨j, i, t, h1, h2, h3, h4, _⟩ => n (.inr ⟨i, t, h2, h3, h4⟩)
        obtain ⟨h1, h2⟩ := y.mv b o eb nb
        refine ⟨h1, fun z => ?_⟩
        rcases z with (z | z) | z
        · exact n (.inl (.inl z))
        · exact h2 (.inr z)
        · rcases own b z with w | w
          · obtain ⟨k, t', _, f1, f2, f3⟩ := own_lent w
            exact n (.inr ⟨k, t', f1, f2, f3⟩)
          · exact h2 (.inl w)
      · have la : lent as U σ ρ b := .inr ⟨i, t, by rw [wipeE_out c]; exact h, ht, by rw [s1, ev]⟩
        exact (y.mv b o eb fun z => (args_rel R e nd).nu b z la).1
    · obtain ⟨v, e1, e2⟩ := vj ej
      obtain ⟨v', s1, s2⟩ := S.slot j t h
      rw [List.getElem?_map, e1] at s1
      cases s1
      refine ⟨v, e2, s2.mv (Mv.less fun b z => ?_) fun _ _ _ _ h => h⟩
      rcases z with (z | z) | z
      · exact .inl (.inl (.inl z))
      · exact .inl (.inr z)
      · rcases own b z with w | w
        · exact .inl (.inl (.inr w))
        · exact .inr w
  · exact z.elim (fun u => S.tr a (.inl (.inl u))) fun w => S.tr a (.inr w)
  · rcases own a z with w | w
    · have la : lent as U σ ρ a := .inr w
      obtain ⟨k, t', _, f1, f2, f3⟩ := own_lent w
      exact fun u => u.elim (fun u => R.rel.nu a ⟨k, t', f1, f2, f3⟩ (.inl u)) fun q => hW a q la
    · exact fun u => S.nu a w (u.elim (fun u => .inl (.inl u)) .inr)
  · rcases kind e1 with ⟨c, h⟩ | ⟨j, ej, h⟩
    · rcases kind f1 with ⟨c2, h2⟩ | ⟨j2, ej2, h2⟩
      · exact R.rel.inj i k t u a h e2 e3 h2 f2 f3
      · exfalso
        obtain ⟨v, a1, a2⟩ := vj ej2
        rw [f3] at a2
        cases a2
        exact S.nu a ⟨j2, u, h2, f2, by rw [List.getElem?_map, a1]; rfl⟩ (.inl (.inr ⟨i, t, by rw [wipeE_out c]; exact h, e2, e3⟩))
    · obtain ⟨v, a1, a2⟩ := vj ej
      rw [e3] at a2
      cases a2
      rcases kind f1 with ⟨c2, h2⟩ | ⟨j2, ej2, h2⟩
      · exact absurd (.inl (.inr ⟨k, u, by rw [wipeE_out c2]; exact h2, f2, f3⟩)) (S.nu a ⟨j, t, h, e2, by rw [List.getElem?_map, a1]; rfl⟩)
      · obtain ⟨v2, b1, b2⟩ := vj ej2
        rw [f3] at b2
        cases b2
        have := S.inj j j2 t u a h e2 (by rw [List.getElem?_map, a1]; rfl) h2 f2 (by rw [List.getElem?_map, b1]; rfl)
        subst this
        rw [ej] at ej2
        cases ej2
        rfl
/-- THE CALL: what the caller knows gives what the callee's promise asks -/
theorem call_ok {n : Nat} (hn : as.length = n) (R : RAs C.K U σ H ρ vs as) (x : Ext (Own σ ρ0) H0 (Both (Own σ ρ) (OwnA vs as)) H) (p : Post C U σ (RelR C.K U σ) (fun v t => OwnT t v) H0 ρ0 Q (finCall f as ρ)) :
    spF C n f vs H Q (fun c d H' => C.E c d σ H') := by
  refine ⟨by rw [R.len]; exact hn, lent as U σ ρ, ?_⟩
  unfold finCall at p
  cases e : mapO (A.get ρ) as with
  | none => simp only [e] at p; exact p.elim
  | some ts =>
    simp only [e] at p
    split at p
    · rename_i nd
      refine ⟨ts, args_rel R e nd, ?_⟩
      -- from the caller's first state to behind the call
      have whole : ∀ {H' : Hp} {outs : Env} {W : Av}, (∀ a, Own σ (backA as outs ρ) a → Own σ (wipeE (refs as) ρ) a ∨ Own (vs.map some) outs a) → (∀ a, W a → ¬ lent as U σ ρ a) → Ext (Own (vs.map some) (ts.map some)) H (Both (Own (vs.map some) outs) W) H' →
          Ext (Own σ ρ0) H0 (Both (Own σ (backA as outs ρ)) W) H' := fun {H' outs W} own hW y => ⟨fun b o eb n => by
        obtain ⟨h1, h2⟩ := x.mv b o eb n
        have nb : ¬ Own (vs.map some) (ts.map some) b := fun z => (own_args R e z).elim (fun w => h2 (.inr w)) fun ⟨j, i, t, g1, g2, g3, g4, _⟩ => h2 (.inl ⟨i, t, g2, g3, g4⟩)
        obtain ⟨h3, h4⟩ := y.mv b o h1 nb
        refine ⟨h3, fun z => ?_⟩
        rcases z with z | z
        · rcases own b z with w | w
          · obtain ⟨k, t', _, f1, f2, f3⟩ := own_lent w
            exact h2 (.inl ⟨k, t', f1, f2, f3⟩)
          · exact h4 (.inl w)
        · exact h4 (.inr z), fun b o eb => by
        obtain ⟨o', eo⟩ := x.dom b o eb
        exact y.dom b o' eo⟩
      cases ef : f ts with
      | stk => simp only [ef] at p; exact p.elim
      | ok t outs =>
        simp only [ef] at p
        split at p
        · rename_i hl
          intro v H' rr y
          obtain ⟨S, own⟩ := call_back R e nd hl rr.rel rr.nu y
          refine p v H' ⟨S, rr.val.mv (Mv.less fun a z => ?_) fun _ _ _ _ h => h, fun a z u => rr.nu a z (.inl u)⟩ (whole own rr.nu y)
          rcases z with (z | z) | z
          · exact .inl (.inl (.inl z))
          · exact .inl (.inr z)
          · rcases own a z with w | w
            · exact .inl (.inl (.inr w))
            · exact .inr w
        · exact p.elim
      | exn z outs =>
        simp only [ef] at p
        split at p
        · rename_i hl
          intro c dx H' rx S y
          have S' : Rel C.K (Both (lent as U σ ρ) fun _ => False) H' (vs.map some) outs := S.less fun a z => z.elim id False.elim
          obtain ⟨S2, own⟩ := call_back (W := fun _ => False) R e nd hl S' (fun a z => z.elim) (y.less fun a z => z.elim id False.elim)
          exact p c dx H' rx (S2.less fun a z => .inl z) ((whole (W := fun _ => False) own (fun a z => z.elim) (y.less fun a z => z.elim id False.elim)).less fun a z => .inl z)
        · exact p.elim
    · exact p.elim
end
end VS
set_option Elab.async false
set_option linter.all false
set_option maxRecDepth 100000
set_option maxHeartbeats 1000000
/-! The VS layer, part L: defs that keep their promise while nothing is being written out. -/
namespace VS
open PySem PySem.Spec PyProof.Rows L2

structure FnG (P : Program) (w : World) (K : PySem.W.Frag) (mg : Str → Option Value) (base : Heap) (k : Nat) (f : Addr) (fd : FuncData) (ps : List Str) (sp : Sp) : Prop where
  len : ∀ vs H Q E, sp vs H Q E → vs.length = ps.length
  go : ∀ (Ar : Around) (out : List PySem.Env) (s : Shared) (H : Hp) (args : Args) (us : List Value) (vs : List V) (Q : VK) (E : XK), Room k Ar → Ar.guards = some [] → Env0 P w K mg base Ar out s H → BindsTo s fd args (ps.zip us) → Vals vs us →
    sp vs H Q E → codeAny (model P w) Ar (.call (.ref f) args) (CR (L2.CX P w) out P w H s Q E) s
section
variable {P : Program} {w : World} {K : PySem.W.Frag} {mg : Str → Option Value} {base : Heap} {k : Nat} {f : Addr} {fd : FuncData} {ps : List Str} {sp : Sp}
theorem FnG.mono {j : Nat} (F : FnG P w K mg base j f fd ps sp) (h : j ≤ k) : FnG P w K mg base k f fd ps sp :=
  ⟨F.len, fun Ar out s H args us vs Q E hr => F.go Ar out s H args us vs Q E (hr.mono h)⟩
/-- a def of the text, by its body -/
theorem fnG_of {name qual : Str} {params : Arguments} {body : List Stmt} {scope : Scope} {dV kV doc pm cdv ct oc : Value} {an od : Option Addr} {osl : Array (Option Value)} {N : List Str}
    (hlk : K.lookup f = some ⟨oc, od, .func (PySem.W.fnOf name qual params body scope dV kV doc pm an cdv ct), osl⟩) (hcd : PySem.W.codeIn K cdv qual = true) (S : FnScope N ps scope)
    (hlen : ∀ vs H Q E, sp vs H Q E → vs.length = ps.length)
    (hb : ∀ (Ar : Around) (out : List PySem.Env) (s : Shared) (H : Hp) (vs : List V) (Q : VK) (E : XK), Room k (Ar.deeper (envOfC qual scope s.heap.objs.size f cdv)) → (Ar.deeper (envOfC qual scope s.heap.objs.size f cdv)).guards = some [] → sp vs H Q E →
      ∃ t, PSs (cxOf (L2.CX P w) P w K mg base N qual scope f cdv Ar out s H E) body t ∧ t { nx := fun _ H' => Q .non H', rt := Q } (start N vs) H) :
    FnG P w K mg base (k + 1) f (PySem.W.fnOf name qual params body scope dV kV doc pm an cdv ct) ps sp := by
  constructor
  · exact hlen
  intro Ar out s H args us vs Q E hr hgd h0 hbd rel hsp
  have inHeap : K.In s.heap := h0.mod.kin.keeps (fun b ob e => And.left (h0.bs b ob e))
  have noLim : s.heap.NoLimit := h0.mod.nolimit.keeps (fun b ob e => And.left (h0.bs b ob e))
  have kinds : ∀ y ∈ ps.zip us, scope.names.lookup y.1 = some .local ∨
      (scope.names.lookup y.1 = some .cell ∧ ((cellsFrom (s.heap.objs.size + 1) scope.names []).lookup y.1).isSome = true) := by
    rintro ⟨n, u⟩ hy
    rcases S.par n (List.of_mem_zip hy).1 with z | z
    · left; exact z
    · right; exact ⟨z, PySem.W.cellsFrom_some _ _ _ (.inl z)⟩
  apply codeAny_call_function hr.depth (inHeap _ _ hlk) rfl S.co S.gen rfl (PySem.W.codeRec_of inHeap hcd) (hbd _ _ _ _ ?_)
  apply wpAny_newFunctionEnv_cells S.kind kinds
  intro env henv s1 inc
  cases henv
  refine ⟨noLim.keeps inc.toInCall.keep, codeAny_func ?_⟩
  obtain ⟨t, ht, hq⟩ := hb Ar out s H vs Q E (Room.deeper hr _) hgd hsp
  have J0 := inv_start (CX := L2.CX P w) (N := N) (E := E) S hr.hd h0 (hlen _ _ _ _ hsp) rel inc
  refine wpAny_mono (ht.run [] s1 (start N vs) H _ J0 hq) (fun fl s2 hs => ?_) fun e s2 hs => hs
  cases fl
  case ret u =>
    obtain ⟨v, σ2, H2, J, rv, q⟩ := hs
    exact ⟨v, H2, J.os, J.bare, J.base, J.hok, rv, q⟩
  case next =>
    obtain ⟨σ2, H2, J, q⟩ := hs
    exact ⟨V.non, H2, J.os, J.bare, J.base, J.hok, rfl, q⟩
  case brk =>
    obtain ⟨_, _, _, q⟩ := hs
    exact q.elim
  case cont =>
    obtain ⟨_, _, _, q⟩ := hs
    exact q.elim
end
section
variable {X : Cx} {C : Wd} {k n : Nat} {fa : Addr} {fd : FuncData} {ps : List Str} {f : FS} {x : Str} {p pos : Pos} {e : Expr} {es : List Expr} {ms : List (M A)}
theorem run_callee {pins : List (Addr × Obj)} {σ : L2.St} {H : Hp} {s : Shared} {Q : VK} {us : List Value} {vs : List V} {sp : Sp} (F : FnG X.prog X.w X.K X.mg X.base k fa fd ps sp) (hr : Room k X.A) (hgd : X.A.guards = some []) (hb : Binds X.K fd ps []) (tk : Takes X C.E)
    (I : Inv X pins σ H s) (r : Vals vs us) (h : sp vs H Q (fun c d H' => C.E c d σ H')) : wpAny (model X.prog X.w) X.A (call (.ref fa) us) (EP X pins σ Q) X.xe s := by
  have hl : (us ++ ([] : List Value)).length = ps.length := by
    rw [List.append_nil, ← r.length]
    exact F.len _ _ _ _ h
  have hbd := hb s us I.kIn hl
  rw [List.append_nil] at hbd
  refine wpAny_call (codeAny_mono (F.go X.A X.stack s H ⟨us, []⟩ us vs Q _ hr hgd I.env0 hbd r h) (fun res s2 hq => ?_))
  match res, hq with
  | .error er, hq => exact passAt tk σ pins H s er s2 I hq
  | .ok (.ret u), hq => exact I.after hq
  | .ok .next, hq => exact hq.elim
  | .ok .brk, hq => exact hq.elim
  | .ok .cont, hq => exact hq.elim
theorem mAs_len : ∀ {ms : List (M A)} {ρ ρ' : Env} {as : List A}, mAs ms ρ = .ok as ρ' → as.length = ms.length
  | [], _, _, _, e => by cases e; rfl
  | m :: ms, ρ, ρ', as, e => by
    unfold mAs bnd at e
    cases e1 : m ρ with
    | stk => simp only [e1] at e; cases e
    | exn _ _ => simp only [e1] at e; cases e
    | ok a ρ1 =>
      simp only [e1] at e
      cases e2 : mAs ms ρ1 with
      | stk => simp only [e2] at e; cases e
      | exn _ _ => simp only [e2] at e; cases e
      | ok as' ρ2 =>
        simp only [e2] at e
        cases e
        exact congrArg (· + 1) (mAs_len e2)
theorem call_args {σ : L2.St} {H : Hp} {Q : VK} (hn : ms.length = n) (h : tE C (mCall f ms) σ H Q) : tAs C (mAs ms) σ H fun vs H1 => spF C n f vs H1 Q (fun c d H' => C.E c d σ H') := by
  obtain ⟨U, ρ, R, q⟩ := h
  refine ⟨U, ρ, R, ?_⟩
  unfold mCall bnd at q
  cases e : mAs ms ρ with
  | stk => simp only [e] at q; exact q.elim
  | exn y ρ1 => simp only [e] at q; exact q
  | ok as ρ1 =>
    simp only [e] at q
    exact fun vs H1 rs x1 => call_ok (by rw [mAs_len e]; exact hn) rs x1 q
theorem se_call (F : FnG X.prog X.w X.K X.mg X.base k fa fd ps (spF C n f)) (hr : Room k X.A) (hgd : X.A.guards = some []) (hg : Gl X x) (hm : X.mg x = some (.ref fa)) (hk : PySem.W.keepIn X.K (.ref fa) = true) (hb : Binds X.K fd ps []) (tk : Takes X C.E)
    (ha : PA X (e :: es) (tAs C (mAs ms))) (hn : ms.length = n) (hdb : (x == ("__debug__" : Str)) = false) (he : starEach (e :: es) X.env = (false, eval e X.env) :: starEach es X.env) (hpl : (backTo pos (starEach es X.env)).any (·.1) = false) :
    PE X (.Call (.Name x p) (e :: es) [] pos) (tE C (mCall f ms)) := by
  constructor
  intro pins s σ H Q I h
  apply wpAny_Call_Name_kw
  apply ld_glob I hg hm _ hdb
  refine PySem.W.callWith_K (h₀ := X.base) I.ok.mod.kin hk (thn (ha.run pos pins s σ H _ I (call_args hn h)) ?_) he hpl
  rintro us s1 ⟨vs, H1, I1, r, q⟩
  exact ⟨I1.kIn, run_callee F hr hgd hb tk I1 r q⟩
theorem se_call0 (F : FnG X.prog X.w X.K X.mg X.base k fa fd ps (spF C 0 f)) (hr : Room k X.A) (hgd : X.A.guards = some []) (hg : Gl X x) (hm : X.mg x = some (.ref fa)) (hk : PySem.W.keepIn X.K (.ref fa) = true) (hb : Binds X.K fd ps []) (tk : Takes X C.E)
    (hdb : (x == ("__debug__" : Str)) = false) : PE X (.Call (.Name x p) [] [] pos) (tE C (mCall f [])) := by
  constructor
  intro pins s σ H Q I h
  apply wpAny_Call_Name_kw
  apply ld_glob I hg hm _ hdb
  refine PySem.W.callWith_K0 I.kIn hk ?_
  refine run_callee F hr hgd hb tk (us := []) (vs := []) I .nil ?_
  obtain ⟨U, ρ, R, q⟩ := call_args (n := 0) rfl h
  have no : ∀ a, ¬ OwnA [] [] a := fun a ⟨j, t, e, _⟩ => by simp at e
  exact q [] H ⟨R.less fun a z => z.elim id fun w => (no a w).elim, rfl, fun j v t e => by simp at e, fun j i v e => by simp at e, fun a z => (no a z).elim, fun j k t u a e => by simp at e⟩ (Ext.refl.less fun a z => z.elim id fun w => (no a w).elim)
end
/-! ### a def, from its body -/
def outsOf (lk : Lks) (ρ : Env) : Env := (List.range lk.length).map fun j => if lkd lk j then (ρ[j]?).getD none else none
/-- what a def does: m its body, nN how many names it has -/
def runF (nN : Nat) (m : Lks → M Fl) : FS := fun ts => match m (ts.map T.own) (ts.map some ++ List.replicate (nN - ts.length) none) with
  | .ok (.ret t) ρ => .ok t (outsOf (ts.map T.own) ρ)
  | .ok .next ρ => .ok (.shr .none) (outsOf (ts.map T.own) ρ)
  | .ok .brk _ => .stk
  | .ok .cont _ => .stk
  | .exn x ρ => .exn x (outsOf (ts.map T.own) ρ)
  | .stk => .stk
section
variable {K : PySem.W.Frag} {U W : Av} {H H' : Hp} {vs : List V} {ts : List T} {σ' : L2.St} {ρ' : Env} {N : List Str}
theorem app_get {α : Type} {xs : List α} {n j : Nat} {y : α} (h : (xs.map some ++ List.replicate n none)[j]? = some (some y)) : xs[j]? = some y := by
  by_cases c : j < xs.length
  · rw [List.getElem?_append_left (by simpa using c), List.getElem?_map, List.getElem?_eq_getElem c] at h
    rw [List.getElem?_eq_getElem c]
    cases h
    rfl
  · rw [List.getElem?_append_right (by simpa using c), List.getElem?_replicate] at h
    split at h <;> cases h
theorem get_app {α : Type} {xs : List α} {n j : Nat} {y : α} (h : xs[j]? = some y) : (xs.map some ++ List.replicate n none)[j]? = some (some y) := by
  have c : j < xs.length := (List.getElem?_eq_some_iff.mp h).1
  rw [List.getElem?_append_left (by simpa using c), List.getElem?_map, h]
  rfl
theorem map_some {α : Type} {xs : List α} {j : Nat} {y : α} : (xs.map some)[j]? = some (some y) ↔ xs[j]? = some y := by
  rw [List.getElem?_map]
  cases xs[j]? with
  | none => simp
  | some z => simp
theorem own_start {n m : Nat} {a : Addr} : Own (vs.map some ++ List.replicate n none) (ts.map some ++ List.replicate m none) a ↔ Own (vs.map some) (ts.map some) a := by
  constructor
  · rintro ⟨j, t, e1, e2, e3⟩
    exact ⟨j, t, map_some.mpr (app_get e1), e2, map_some.mpr (app_get e3)⟩
  · rintro ⟨j, t, e1, e2, e3⟩
    exact ⟨j, t, get_app (map_some.mp e1), e2, get_app (map_some.mp e3)⟩
theorem rel_start {n : Nat} (R : Rel K U H (vs.map some) (ts.map some)) : Rel K U H (vs.map some ++ List.replicate n none) (ts.map some ++ List.replicate n none) := by
  have hl : vs.length = ts.length := by have := R.len; simpa using this
  have m : Mv (Both U (Own (vs.map some) (ts.map some))) H (Both U (Own (vs.map some ++ List.replicate n none) (ts.map some ++ List.replicate n none))) H := Mv.less fun a z => z.elim .inl fun w => .inr (own_start.mp w)
  refine ⟨by simp [hl], fun j t e => ?_, R.tr, fun a z => R.nu a (own_start.mp z), fun j k t u a e1 e2 e3 f1 f2 f3 => R.inj j k t u a (map_some.mpr (app_get e1)) e2 (map_some.mpr (app_get e3)) (map_some.mpr (app_get f1)) f2 (map_some.mpr (app_get f3))⟩
  obtain ⟨v, h1, h2⟩ := R.slot j t (map_some.mpr (app_get e))
  exact ⟨v, get_app (map_some.mp h1), h2.mv m fun _ _ _ _ h => h⟩
theorem lkd_own {j : Nat} (h : lkd (ts.map T.own) j = true) : ∃ t, ts[j]? = some t ∧ t.own = true := by
  unfold lkd at h
  rw [List.getD_eq_getElem?_getD, List.getElem?_map] at h
  cases e : ts[j]? with
  | none => rw [e] at h; cases h
  | some t => rw [e] at h; exact ⟨t, rfl, h⟩
theorem outs_get {lk : Lks} {j : Nat} {t : T} (h : (outsOf lk ρ')[j]? = some (some t)) : lkd lk j = true ∧ ρ'[j]? = some (some t) := by
  unfold outsOf at h
  rw [List.getElem?_map] at h
  cases e : (List.range lk.length)[j]? with
  | none => rw [e] at h; cases h
  | some i =>
    rw [e] at h
    have hj : j < (List.range lk.length).length := (List.getElem?_eq_some_iff.mp e).1
    rw [List.getElem?_range (by simpa using hj)] at e
    cases e
    have h : (if lkd lk j then (ρ'[j]?).getD none else none) = some t := Option.some.inj h
    split at h
    · rename_i c
      refine ⟨c, ?_⟩
      cases e2 : ρ'[j]? with
      | none => rw [e2] at h; cases h
      | some w => rw [e2] at h; rw [show w = some t from h]
    · cases h
theorem outs_own {n : Nat} (hl : vs.length = ts.length) (lk : Lk (ts.map T.own) (vs.map some ++ List.replicate n none) σ') {a : Addr} (h : Own (vs.map some) (outsOf (ts.map T.own) ρ') a) : Own σ' ρ' a := by
  obtain ⟨j, t, e1, e2, e3⟩ := h
  obtain ⟨f1, f2⟩ := outs_get e1
  exact ⟨j, t, f2, e2, by rw [lk j f1]; exact get_app (map_some.mp e3)⟩
theorem rel_outs {n : Nat} (hl : vs.length = ts.length) (R : Rel K U H' σ' ρ') (lk : Lk (ts.map T.own) (vs.map some ++ List.replicate n none) σ') : Rel K U H' (vs.map some) (outsOf (ts.map T.own) ρ') := by
  have oo : ∀ a, Own (vs.map some) (outsOf (ts.map T.own) ρ') a → Own σ' ρ' a := fun a z => outs_own hl lk z
  have m : Mv (Both U (Own σ' ρ')) H' (Both U (Own (vs.map some) (outsOf (ts.map T.own) ρ'))) H' := Mv.less fun a z => z.elim .inl fun w => .inr (oo a w)
  have sl : ∀ {j : Nat} {v : V}, lkd (ts.map T.own) j = true → σ'[j]? = some (some v) → (vs.map some)[j]? = some (some v) := fun {j v} h e => by
    rw [lk j h] at e
    exact map_some.mpr (app_get e)
  have ls : ∀ {j : Nat} {v : V}, lkd (ts.map T.own) j = true → (vs.map some)[j]? = some (some v) → σ'[j]? = some (some v) := fun {j v} h e => by
    rw [lk j h]
    exact get_app (map_some.mp e)
  refine ⟨by unfold outsOf; simp [hl], fun j t e => ?_, R.tr, fun a z => R.nu a (oo a z), fun j k t u a e1 e2 e3 f1 f2 f3 => ?_⟩
  · obtain ⟨g1, g2⟩ := outs_get e
    obtain ⟨v, h1, h2⟩ := R.slot j t g2
    exact ⟨v, sl g1 h1, h2.mv m fun _ _ _ _ h => h⟩
  · obtain ⟨g1, g2⟩ := outs_get e1
    obtain ⟨g3, g4⟩ := outs_get f1
    exact R.inj j k t u a g2 e2 (ls g1 e3) g4 f2 (ls g3 f3)
end
section
variable {X : Cx} {C : Wd} {E : XK} {n nN : Nat} {m : Lks → M Fl} {body : List Stmt} {N : List Str}
/-- THE DEF: its body does what m says: it keeps the promise -/
theorem def_ok {vs : List V} {H : Hp} {Q : VK} (hN : N.length = nN) (hb : ∀ lk, PSs X body (tS { C with E := fun c d _ H => E c d H } lk (m lk))) (h : spF C n (runF nN m) vs H Q E) :
    ∃ t, PSs X body t ∧ t { nx := fun _ H' => Q .non H', rt := Q } (start N vs) H := by
  obtain ⟨hv, U, ts, R, p⟩ := h
  have hl : vs.length = ts.length := by have := R.len; simpa using this
  refine ⟨_, hb (ts.map T.own), ?_⟩
  have es : start N vs = vs.map some ++ List.replicate (nN - ts.length) none := by
    unfold L2.start
    rw [hN, hl]
  rw [es]
  refine ⟨U, ts.map some ++ List.replicate (nN - ts.length) none, rel_start R, ?_⟩
  unfold runF at p
  cases e : m (ts.map T.own) (ts.map some ++ List.replicate (nN - ts.length) none) with
  | stk => simp only [e] at p; exact p.elim
  | exn x ρ' =>
    simp only [e] at p
    intro c dx σ' H' rx R' y l
    exact p c dx H' rx (rel_outs hl R' l) ((y.more fun a z => own_start.mp z).less fun a z => outs_own hl l z)
  | ok fl ρ' =>
    cases fl with
    | brk => simp only [e] at p; exact p.elim
    | cont => simp only [e] at p; exact p.elim
    | next =>
      simp only [e] at p
      intro σ' H' R' y l
      exact p .non H' (RelR.shr (rel_outs hl R' l) .non) ((y.more fun a z => own_start.mp z).less fun a z => z.elim (fun w => outs_own hl l w) fun w => by cases w.1)
    | ret t =>
      simp only [e] at p
      intro v σ' H' rr y l
      exact p v H' ⟨rel_outs hl rr.rel l, rr.val.mv (Mv.less fun a z => z.elim .inl fun w => .inr (outs_own hl l w)) fun _ _ _ _ h => h, rr.nu⟩ ((y.more fun a z => own_start.mp z).less fun a z => z.elim (fun w => .inl (outs_own hl l w)) .inr)
end
end VS
set_option Elab.async false
set_option linter.all false
set_option maxRecDepth 100000
set_option maxHeartbeats 1000000
/-! The VS layer, part M: a, b = x, y; raise; try; name = [..]. -/
namespace VS
open PySem PySem.Spec PyProof.Rows L2

def putAll (lk : Lks) : List Nat → List A → Env → Option Env
  | [], [], ρ => some ρ
  | i :: is, .mv t :: as, ρ => if lkd lk i = false ∧ i < ρ.length then putAll lk is as (ρ.set i (some t)) else none
  | _, _, _ => none
def finPar (lk : Lks) (is : List Nat) (as : List A) : M Fl := fun ρ => match putAll lk is as ρ with
  | some ρ' => .ok .next ρ'
  | none => .stk
def mPar (lk : Lks) (is : List Nat) (ms : List (M A)) : M Fl := bnd (mAs ms) (finPar lk is)
def mRaise (c : Nat) : M Fl := fun ρ => .exn ⟨c, []⟩ ρ
def noExn {α : Type} : R α → R α
  | .exn _ _ => .stk
  | r => r
def mTry (ex : Nat → Option Bool) (mb ms : M Fl) : M Fl := fun ρ => match mb ρ with
  | .exn x ρ' => match ex x.cls with
    | some true => noExn (ms ρ')
    | some false => .exn x ρ'
    | none => .stk
  | r => r
section
variable {K : PySem.W.Frag} {U : Av} {σ : L2.St} {H : Hp} {ρ ρ' : Env} {v : V} {vs : List V} {t : T} {as : List A} {i : Nat} {lk : Lks}
theorem RAs.put (R : RAs K U σ H ρ (v :: vs) (.mv t :: as)) (hi : i < ρ.length) (hm : ∀ (j k : Nat), as[j]? ≠ some (A.ref k)) : RAs K U (σ.set i (some v)) H (ρ.set i (some t)) vs as := by
  have ow : ∀ a, Both U (OwnA (v :: vs) (.mv t :: as)) a → Both (Both U (OwnA vs as)) (OwnT t v) a := fun a z => z.elim (fun u => .inl (.inl u)) fun w => (ownA_cons.mp w).elim .inr (fun q => .inl (.inr q))
  have wo : ∀ a, Both (Both U (OwnA vs as)) (OwnT t v) a → Both U (OwnA (v :: vs) (.mv t :: as)) a := fun a z => by
    rcases z with (z | z) | z
    · exact .inl z
    · exact .inr (ownA_cons.mpr (.inr z))
    · exact .inr (ownA_cons.mpr (.inl z))
  have rr : RelR K (Both U (OwnA vs as)) σ H ρ v t := ⟨R.rel.less wo, (R.mv 0 v t rfl rfl).mv (Mv.less fun a z => z.elim (fun u => .inl (wo a u)) .inr) fun _ _ _ _ h => h, fun a z u => by
    rcases u with u | u
    · exact R.nu a (ownA_cons.mpr (.inl z)) u
    · obtain ⟨j, t', e1, e2, e3⟩ := u
      obtain ⟨o, rfl⟩ := z
      have := R.inj 0 (j + 1) t t' a rfl o rfl e1 e2 e3
      cases this⟩
  refine ⟨rr.put hi, Nat.succ.inj R.len, fun j w u e1 e2 => (R.mv (j + 1) w u e1 e2).mv (Mv.less fun a z => ?_) fun _ _ _ _ h => h, fun j k w e1 e2 => ?_, fun a z => R.nu a (ownA_cons.mpr (.inr z)), fun j k u w a e1 e2 e3 f1 f2 f3 => by
    have := R.inj (j + 1) (k + 1) u w a e1 e2 e3 f1 f2 f3
    omega⟩
  · rcases z with z | z
    · exact .inl (wo a (.inl z))
    · exact (own_put z).elim .inr fun q => .inl (wo a (.inr q))
  · exact absurd e2 (hm j k)
theorem putAll_mv : ∀ {is : List Nat} {as : List A} {ρ ρ' : Env}, putAll lk is as ρ = some ρ' → ∀ (j k : Nat), as[j]? ≠ some (A.ref k)
  | [], [], _, _, _, j, k, h => by simp at h
  | [], _ :: _, _, _, e, _, _, _ => by cases e
  | _ :: _, [], _, _, e, _, _, _ => by cases e
  | _ :: _, .ref _ :: _, _, _, e, _, _, _ => by cases e
  | i :: is, .mv t :: as, ρ, ρ', e, j, k, h => by
    unfold putAll at e
    split at e
    · cases j with
      | zero => cases h
      | succ j => exact putAll_mv e j k h
    · cases e
theorem put_all : ∀ {is : List Nat} {vs : List V} {as : List A} {σ : L2.St} {ρ ρ' : Env}, RAs K U σ H ρ vs as → putAll lk is as ρ = some ρ' → is.length = vs.length ∧
    ∀ σ', σ' = (is.zip vs).foldl (fun s p => s.set p.1 (some p.2)) σ → Rel K U H σ' ρ' ∧ (∀ a, Own σ' ρ' a → Own σ ρ a ∨ OwnA vs as a) ∧ Lk lk σ σ'
  | [], vs, [], σ, ρ, ρ', R, e => by
    cases e
    have := R.len
    cases vs with
    | nil => exact ⟨rfl, fun σ' e => by subst e; exact ⟨R.rel.less fun a z => .inl z, fun _ z => .inl z, Lk.refl⟩⟩
    | cons _ _ => cases this
  | [], _, _ :: _, _, _, _, _, e => by cases e
  | _ :: _, _, [], _, _, _, _, e => by cases e
  | _ :: _, _, .ref _ :: _, _, _, _, _, e => by cases e
  | i :: is, vs, .mv t :: as, σ, ρ, ρ', R, e => by
    have hm := putAll_mv e
    unfold putAll at e
    split at e
    · rename_i c
      cases vs with
      | nil => cases R.len
      | cons v vs =>
        obtain ⟨l, ih⟩ := put_all (R.put c.2 fun j k => hm (j + 1) k) e
        refine ⟨congrArg (· + 1) l, fun σ' es => ?_⟩
        obtain ⟨a1, a2, a3⟩ := ih σ' es
        refine ⟨a1, fun a z => ?_, (lk_set c.1).trans a3⟩
        rcases a2 a z with w | w
        · exact (own_put w).elim .inl fun q => .inr (ownA_cons.mpr (.inl q))
        · exact .inr (ownA_cons.mpr (.inr w))
    · cases e
end
section
variable {X : Cx} {C : Wd} {lk : Lks} {pos pt px py pz pt2 : Pos} {kt k2 : Nat} {x y z : Str} {i j l : Nat}
/-- what a, b = x, y comes to, at the values -/
theorem par_of {is : List Nat} {ms : List (M A)} {N : Ends} {σ : L2.St} {H : Hp} (h : tS C lk (mPar lk is ms) N σ H) :
    tAs C (mAs ms) σ H fun vs H1 => is.length = vs.length ∧ ∀ H2, Same H1 H2 → N.nx ((is.zip vs).foldl (fun s p => s.set p.1 (some p.2)) σ) H2 := by
  obtain ⟨U, ρ, R, p⟩ := h
  refine ⟨U, ρ, R, PostS.seq p fun as ρ1 vs H1 rs x1 q => ?_⟩
  unfold finPar at q
  cases e : putAll lk is as ρ1 with
  | none => simp only [e] at q; exact q.elim
  | some ρ2 =>
    simp only [e] at q
    obtain ⟨l, g⟩ := put_all rs e
    refine ⟨l, fun H2 sm => ?_⟩
    obtain ⟨a1, a2, a3⟩ := g _ rfl
    have R2 := a1.grow sm (fun _ z => .inl z) fun a z => by
      obtain ⟨o, eo⟩ := a1.tr a z
      exact ⟨o, sm a o eo⟩
    exact q _ H2 R2 ((x1.trans (Ext.of_same sm)).less fun a z => (a2 a z).elim .inl .inr) a3
theorem ss_par2 {a b : Expr} {ms : List (M A)} (hc : X.calm = true) (hN : X.N.Nodup) (hi : X.N[i]? = some x) (hj : X.N[j]? = some y) (hij : i ≠ j) (hx : X.env.scope.names.lookup x = some .local) (hy : X.env.scope.names.lookup y = some .local) (ha : PA X [a, b] (tAs C (mAs ms)))
    (hw : swappedStores [.Tuple [.Name x px, .Name y py] kt pt] (.Tuple [a, b] k2 pt2) X.env = pure (some [x, y])) (hs : swapsWithSole [.Tuple [.Name x px, .Name y py] kt pt] (.Tuple [a, b] k2 pt2) pos.line X.env = pure false) :
    PS X (.Assign [.Tuple [.Name x px, .Name y py] kt pt] (.Tuple [a, b] k2 pt2) pos) (tS C lk (mPar lk [i, j] ms)) := (ps_par hc hN hi hj hij hx hy ha hw hs).mono fun N σ H h => by
  obtain ⟨U, ρ, R, p⟩ := par_of h
  refine ⟨U, ρ, R, p.imp fun as ρ' vs H' rr xx k => ?_⟩
  obtain ⟨l, q⟩ := k vs H' rr xx
  match vs, l with
  | [v, w], _ => exact ⟨v, w, rfl, q H' (Same.refl _)⟩
theorem ss_par3 {a b c : Expr} {ms : List (M A)} (hc : X.calm = true) (hN : X.N.Nodup) (hi : X.N[i]? = some x) (hj : X.N[j]? = some y) (hl : X.N[l]? = some z) (hij : i ≠ j) (hil : i ≠ l) (hjl : j ≠ l) (hx : X.env.scope.names.lookup x = some .local) (hy : X.env.scope.names.lookup y = some .local) (hz : X.env.scope.names.lookup z = some .local)
    (ha : PA X [a, b, c] (tAs C (mAs ms))) (hw : swappedStores [.Tuple [.Name x px, .Name y py, .Name z pz] kt pt] (.Tuple [a, b, c] k2 pt2) X.env = pure (some [x, y, z])) (hs : swapsWithSole [.Tuple [.Name x px, .Name y py, .Name z pz] kt pt] (.Tuple [a, b, c] k2 pt2) pos.line X.env = pure false) :
    PS X (.Assign [.Tuple [.Name x px, .Name y py, .Name z pz] kt pt] (.Tuple [a, b, c] k2 pt2) pos) (tS C lk (mPar lk [i, j, l] ms)) := (ps_par3 hc hN hi hj hl hij hil hjl hx hy hz ha hw hs).mono fun N σ H h => by
  obtain ⟨U, ρ, R, p⟩ := par_of h
  refine ⟨U, ρ, R, p.imp fun as ρ' vs H' rr xx k => ?_⟩
  obtain ⟨l, q⟩ := k vs H' rr xx
  match vs, l with
  | [u, v, w], _ => exact ⟨u, v, w, rfl, q H' (Same.refl _)⟩
/-- .. through a tuple that is made and unpacked -/
theorem ss_parT {es ts : List Expr} {is : List Nat} {ms : List (M A)} (hc : X.calm = true) (hK : C.K = X.K) (hN : X.N.Nodup) (ha : PA X es (tAs C (mAs ms))) (h : Nms X ts is) (hz : is.length ≤ sizeLine) (hs : swapsWithSole [.Tuple ts kt pt] (.Tuple es k2 pt2) pos.line X.env = pure false) (hw : swappedStores [.Tuple ts kt pt] (.Tuple es k2 pt2) X.env = pure none) (h1 : (assignEach [.Tuple ts kt pt] X.env).map (·.2) = [assign (.Tuple ts kt pt) X.env]) :
    PS X (.Assign [.Tuple ts kt pt] (.Tuple es k2 pt2) pos) (tS C lk (mPar lk is ms)) := (ps_asg (pe_tup ha) (pg_tup hc (nms_pgs hN h) (nms_each h).1 (nms_each h).2) hs hw h1).mono fun N σ H h => by
  obtain ⟨U, ρ, R, p⟩ := par_of h
  refine ⟨U, ρ, R, p.imp fun as ρ' vs H' rr xx k => ?_⟩
  obtain ⟨l, q⟩ := k vs H' rr xx
  refine ⟨by rw [← l]; exact hz, fun pp hp => ?_⟩
  exact ⟨pp, vs, rfl, .of upd_same, l.symm, gAll_of l (q _ (same_new hp))⟩
theorem ss_raise {e : Expr} {c : Nat} (hc : X.calm = true) (tk : Takes X C.E) (he : PMk X e (fun _ H Q => Q (.ref (C.CA c)) none H)) : PS X (.Raise (some e) none pos) (tS C lk (mRaise c)) := (ps_raise hc tk he).mono fun N σ H ⟨U, ρ, R, p⟩ =>
  p _ _ σ H ⟨rfl, rfl, rfl⟩ R Ext.refl Lk.refl
theorem noExn_post {U : Av} {σ : L2.St} {H : Hp} {ρ : Env} {N : Ends} {r : R Fl} (p : PostS C lk U σ H ρ N (noExn r)) : PostS C.nox lk U σ H ρ N r := by
  cases r with
  | ok fl ρ' => cases fl <;> exact p
  | exn _ _ => exact p.elim
  | stk => exact p
theorem ss_try {np pos' : Pos} {c : Value} {body suite : List Stmt} {b0 : Stmt} {mb ms : M Fl} {ex : Nat → Option Bool} (hs : X.stack = X.env :: X.outer) (hf : X.env.frame = some X.env.locals) (hc : Names X x c) (tk : Takes X C.E)
    (hex : ∀ i b, ex i = some b → PySem.W.exmOne X.K (.ref (C.CA i)) c = some b)
    (hb : ∀ (W : WX) (pn : List (Addr × Obj)) (xe : Value → Shared → Prop), Takes (X.tr pn xe) W → PassesOwn (model X.prog X.w) X.A X.env xe → PSs (X.tr pn xe) body (tS { C with E := W } lk mb))
    (hsu : ∀ (a : Addr) (oe : Obj) (pn : List (Addr × Obj)), PSs (X.suite a ((a, oe) :: pn)) (b0 :: suite) (tS C.nox lk ms)) :
    PS X (.Try body [.ExceptHandler (some (.Name x np)) none (b0 :: suite) pos'] [] [] pos) (tS C lk (mTry ex mb ms)) :=
  (ps_try_only (tb := fun W => tS { C with E := W } lk mb) (ts := fun _ _ _ => tS C.nox lk ms) (Wout := C.E) hs hf hc tk hb (fun a oe cls d pn _ _ => hsu a oe pn)).mono fun N σ H ⟨U, ρ, R, p⟩ => by
  refine ⟨U, ρ, R, ?_⟩
  unfold mTry at p
  cases e : mb ρ with
  | ok fl ρ' =>
    rw [e] at p
    cases fl <;> exact p
  | stk => rw [e] at p; exact p.elim
  | exn y ρ' =>
    rw [e] at p
    intro cc dx σ' H' rx R' x1 l1
    cases ee : ex y.cls with
    | none => simp only [ee] at p; exact p.elim
    | some b =>
      simp only [ee] at p
      have h1 := hex _ _ ee
      rw [← rx.1] at h1
      refine ⟨b, h1, fun hb1 a _ => ?_, fun hb1 => ?_⟩
      · subst hb1
        simp only at p
        exact ⟨U, ρ', R', PostS.shift (noExn_post p) x1 l1⟩
      · subst hb1
        simp only at p
        exact p cc dx σ' H' rx R' x1 l1
/-- name = [..] on one line -/
theorem ss_setLc {elt tg iter : Expr} {ifs : List Expr} {scope : Scope} {own : List (Str × Nat)} {spos : Pos} {it : M (List D)} {t : Tg} {mt : M Bool} {me : M T} (hc : X.calm = true) (hN : X.N.Nodup) (hy : X.N[i]? = some y) (hyl : X.env.scope.names.lookup y = some .local)
    (hsw : swapsWith (.ListComp elt [⟨tg, iter, ifs, 0⟩] scope pos) (some (.Name y py)) spos.line X.env = pure true) (hi : PI X tg iter (tIt C it)) (ok : BlkOk X.N X.env.scope scope own)
    (hg : ∀ (s : Shared) (H : Hp) (L : Addr) (cl : List (Str × Addr)) (fp : List Addr), PG (X.blk s H scope (compEnvC scope cl L X.env) fp) tg (tG C.nox [] t))
    (ht : ∀ (s : Shared) (H : Hp) (L : Addr) (cl : List (Str × Addr)) (fp : List Addr), PTs (X.blk s H scope (compEnvC scope cl L X.env) fp) ifs (tT C.nox mt))
    (he : ∀ (s : Shared) (H : Hp) (L : Addr) (cl : List (Str × Addr)) (fp : List Addr), PE (X.blk s H scope (compEnvC scope cl L X.env) fp) elt (tE C.nox me)) (hs : ∀ x, foldedSetIterable iter X.env x = pure x) :
    PS X (.Assign [.Name y py] (.ListComp elt [⟨tg, iter, ifs, 0⟩] scope pos) spos) (tS C lk (mSet lk i (mLc (own.map (·.2)) it t mt me))) := (ps_setLc hc hN hy hyl hsw hi ok hg ht he hs).mono fun N σ H ⟨U, ρ, R, p⟩ => by
  refine lc_of ⟨U, ρ, R, PostS.seq p fun t ρ1 v H1 rr x q => ?_⟩
  unfold put at q
  split at q
  · rename_i h
    exact q _ H1 (rr.put h.2) (x.less fun a z => own_put z) (lk_set h.1)
  · exact q.elim
end
end VS
set_option Elab.async false
set_option linter.all false
set_option maxRecDepth 100000
set_option maxHeartbeats 1000000
/-! The VS layer, part N: programs as small trees, what they do. -/
namespace VS
open PySem PySem.Spec PyProof.Rows L2

inductive ItK where
  | data | rng1 | rng2
mutual
inductive IE where
  | lit (d : D)
  | slot (i : Nat)
  | op (o : Op) (es : IEs)
  | tup (es : IEs)
  | lst (es : IEs)
  | dict0
  | one (a : IE)
  | and (a b : IE)
  | or (a b : IE)
  | not (a : IE)
  | ite (c a b : IE)
  | chain (o o' : Op) (a b c : IE)
  | sl (lo hi : Bool) (es : IEs)
  | call (f : Nat) (es : IEs)
  | mu (m : Mu) (i : Nat) (es : IEs)
  | lc (own : List (Str × Nat)) (k : ItK) (it : IEs) (tg : Tg) (ifs : IEs) (elt : IE)
  | kix (x : Str) (tab : Tb) (a : IE)
  | kin (neg : Bool) (x : Str) (tab : Tb) (a : IE)
  | upd (i : Nat) (es : IEs)
  | dc (own : List (Str × Nat)) (k : ItK) (it : IEs) (tg : Tg) (ifs : IEs) (key val : IE)
  | dc2 (own own2 : List (Str × Nat)) (k : ItK) (it : IEs) (tg : Tg) (ifs : IEs) (k2 : ItK) (it2 : IEs) (tg2 : Tg) (ifs2 : IEs) (key val : IE)
inductive IEs where
  | nil
  | cons (e : IE) (es : IEs)
end
/-- an expression's meanings: as a value, a test, an operand, a stored operand, an argument -/
structure Sm where
  e : M T
  t : M Bool
  o : M O
  v : M O
  a : M A
def Sm.mk' (m : M T) : Sm := ⟨m, mTruth (mOpd m), mOpd m, mOpd m, mAval m⟩
def isCmp : Op → Bool
  | .eq | .ne | .lt | .le | .gt | .ge | .isin | .notin | .isN | .notN => true
  | _ => false
def evIt (k : ItK) (ss : List Sm) : M (List D) := match k, ss with
  | .data, [s] => mIter s.e
  | .rng1, ss => mRng1 (ss.map Sm.o)
  | .rng2, ss => mRng2 (ss.map Sm.o)
  | _, _ => stuck
def evIf : List Sm → M Bool
  | [] => ret true
  | [s] => s.t
  | _ => stuck
def evSl (lo hi : Bool) (ss : List Sm) : M T := match lo, hi, ss with
  | false, false, [a] => mSl a.o none none
  | true, false, [a, l] => mSl a.o (some l.o) none
  | false, true, [a, h] => mSl a.o none (some h.o)
  | true, true, [a, l, h] => mSl a.o (some l.o) (some h.o)
  | _, _, _ => stuck
mutual
def ev (Φ : Nat → FS) : IE → Sm
  | .lit d => ⟨mLit d, mTruth (mOpd (mLit d)), mOpd (mLit d), mOpd (mLit d), mAval (mLit d)⟩
  | .slot i => ⟨mSlot i, mTruth (mOslot i), mOslot i, mOpd (mSlot i), mAslot i⟩
  | .op o es => let m := mApp o ((evs Φ es).map Sm.o); ⟨m, if isCmp o then mBool m else mTruth (mOpd m), mOpd m, mOpd m, mAval m⟩
  | .tup es => .mk' (mTup ((evs Φ es).map Sm.v))
  | .lst es => .mk' (mLst ((evs Φ es).map Sm.v))
  | .dict0 => .mk' (ret (.dic []))
  | .one a => let s := ev Φ a; ⟨s.e, s.t, mOpd s.e, mOpd s.e, mAval s.e⟩
  | .and a b => let s := ev Φ a; let u := ev Φ b; let m := mAndV s.e u.e; ⟨m, mAndT s.t u.t, mOpd m, mOpd m, mAval m⟩
  | .or a b => let s := ev Φ a; let u := ev Φ b; let m := mOrV s.e u.e; ⟨m, mOrT s.t u.t, mOpd m, mOpd m, mAval m⟩
  | .not a => let s := ev Φ a; let m := mNotV s.o; ⟨m, mNot s.t, mOpd m, mOpd m, mAval m⟩
  | .ite c a b => let m := mIf (ev Φ c).t (ev Φ a).e (ev Φ b).e; ⟨m, stuck, mOpd m, mOpd m, mAval m⟩
  | .chain o o' a b c => let m := mChain o o' (ev Φ a).o (ev Φ b).o (ev Φ c).o; ⟨m, mBool m, mOpd m, mOpd m, mAval m⟩
  | .sl lo hi es => .mk' (evSl lo hi (evs Φ es))
  | .call f es => .mk' (mCall (Φ f) ((evs Φ es).map Sm.a))
  | .mu m i es => .mk' (mMu m i ((evs Φ es).map Sm.v))
  | .lc own k it tg ifs elt => .mk' (mLc (own.map (·.2)) (evIt k (evs Φ it)) tg (evIf (evs Φ ifs)) (ev Φ elt).e)
  | .kix _ tab a => .mk' (mKix tab (ev Φ a).o)
  | .kin neg _ tab a => let m := mKin neg tab (ev Φ a).o; ⟨m, mBool m, mOpd m, mOpd m, mAval m⟩
  | .upd i es => .mk' (mUpd i ((evs Φ es).map Sm.v))
  | .dc own k it tg ifs key val => .mk' (mDc (own.map (·.2)) (evIt k (evs Φ it)) tg (evIf (evs Φ ifs)) (ev Φ key).e (ev Φ val).e)
  | .dc2 own own2 k it tg ifs k2 it2 tg2 ifs2 key val => .mk' (mDc2 (own.map (·.2)) (own2.map (·.2)) (evIt k (evs Φ it)) tg (evIf (evs Φ ifs)) (evIt k2 (evs Φ it2)) tg2 (evIf (evs Φ ifs2)) (ev Φ key).e (ev Φ val).e)
def evs (Φ : Nat → FS) : IEs → List Sm
  | .nil => []
  | .cons e es => ev Φ e :: evs Φ es
end


/-! statements -/
mutual
inductive IS where
  | nop
  | brk
  | cont
  | set (i : Nat) (e : IE)
  | asg (tg : Tg) (e : IE)
  | par (is : List Nat) (es : IEs)
  | store (c k v : IE)
  | augS (op : Op) (c k v : IE)
  | ite (c : IE) (a b : ISs)
  | whl (n : Nat) (c : IE) (b : ISs)
  | for (k : ItK) (it : IEs) (tg : Tg) (b : ISs)
  | ret (e : IE)
  | retN
  | raise (c : Nat)
  | tr (c : Nat) (b su : ISs)
  | drop (e : IE)
inductive ISs where
  | nil
  | cons (s : IS) (ss : ISs)
end
def evItL (k : ItK) (ss : List Sm) : M (List D) := evIt k ss
mutual
def evS (xm : Nat → Nat → Option Bool) (Φ : Nat → FS) (lk : Lks) : IS → M Fl
  | .nop => VS.ret .next
  | .brk => VS.ret .brk
  | .cont => VS.ret .cont
  | .set i e => mSet lk i (ev Φ e).e
  | .asg tg e => mAsg lk tg (ev Φ e).e
  | .par is es => mPar lk is ((evs Φ es).map Sm.a)
  | .store c k v => mStore (ev Φ c).o (ev Φ k).o (ev Φ v).e
  | .augS op c k v => mAugS op (ev Φ c).o (ev Φ k).o (ev Φ v).e
  | .ite c a b => mIfS (ev Φ c).t (evSs xm Φ lk a) (evSs xm Φ lk b)
  | .whl n c b => whileL (ev Φ c).t (evSs xm Φ lk b) n
  | .for k it tg b => mFor lk (evIt k (evs Φ it)) tg (evSs xm Φ lk b)
  | .ret e => mRet (ev Φ e).e
  | .retN => mRetN
  | .raise c => mRaise c
  | .tr c b su => mTry (fun i => xm i c) (evSs xm Φ lk b) (evSs xm Φ lk su)
  | .drop e => mDrop (ev Φ e).e
def evSs (xm : Nat → Nat → Option Bool) (Φ : Nat → FS) (lk : Lks) : ISs → M Fl
  | .nil => VS.ret .next
  | .cons s ss => seqM (evS xm Φ lk s) (evSs xm Φ lk ss)
end
/-- a def: how many names, its body -/
structure IF where
  nN : Nat
  body : ISs
/-- the defs by levels: at 0 none answers -/
def evF (xm : Nat → Nat → Option Bool) (fs : List IF) : Nat → Nat → FS
  | 0, _ => fun _ => .stk
  | n + 1, i => match fs[i]? with
    | some f => runF f.nN fun lk => evSs xm (evF xm fs n) lk f.body
    | none => fun _ => .stk

/-! ### the text's shapes -/
/-- what is not starred -/
def nst : Expr → Bool
  | .Starred _ _ => false
  | _ => true
def binTab : Operator → Option Op
  | .Add => some .add
  | .Sub => some .sub
  | .Mult => some .mul
  | .FloorDiv => some .fdiv
  | .Mod => some .mod
  | .Pow => some .pow
  | _ => none
def cmpTab : CmpOp → Option Op
  | .Eq => some .eq
  | .NotEq => some .ne
  | .Lt => some .lt
  | .LtE => some .le
  | .Gt => some .gt
  | .GtE => some .ge
  | .In => some .isin
  | .NotIn => some .notin
  | _ => none
def isTab : CmpOp → Option Op
  | .Is => some .isN
  | .IsNot => some .notN
  | _ => none
/-- the built-in functions -/
def bTab (x : Str) : Option Op :=
  if x = "len" then some .len else if x = "abs" then some .abs else if x = "any" then some .any else if x = "all" then some .all else if x = "sum" then some .sum else if x = "sorted" then some .sorted else if x = "repr" then some .repr else none
/-- the built-in types, called -/
def tTab (x : Str) : Option Op :=
  if x = "tuple" then some .tuple else if x = "list" then some .list else if x = "int" then some .int else if x = "str" then some .str else if x = "bool" then some .bool else none
/-- the built-in types, named in isinstance -/
def tyTab (x : Str) : Option String :=
  if x = "int" then some "int" else if x = "str" then some "str" else if x = "tuple" then some "tuple" else if x = "bool" then some "bool" else if x = "list" then some "list" else none
def plainIxB : Expr → Bool
  | .Slice _ _ _ _ => false
  | _ => true
/-- static facts: the defs by number (name, arguments), the module's constants, the free names of what is built in, the classes of errors -/
structure GI where
  funs : List (Str × Nat)
  cons : List (Str × D)
  free : List Str
  clss : List Str
  exm : Nat → Nat → Option Bool
  kds : List (Str × Tb)
mutual
def beqD : D → D → Bool
  | .none, .none => true
  | .bool a, .bool b => a == b
  | .int i, .int j => i == j
  | .str x, .str y => decide (x = y)
  | .list xs, .list ys => beqDs xs ys
  | .tuple xs, .tuple ys => beqDs xs ys
  | _, _ => false
def beqDs : List D → List D → Bool
  | [], [] => true
  | x :: xs, y :: ys => beqD x y && beqDs xs ys
  | _, _ => false
end
mutual
theorem beqD_eq : ∀ {d e : D}, beqD d e = true → d = e
  | .none, .none, _ => rfl
  | .bool a, .bool b, h => by rw [beqD, beq_iff_eq] at h; rw [h]
  | .int i, .int j, h => by rw [beqD, beq_iff_eq] at h; rw [h]
  | .str x, .str y, h => by rw [beqD, decide_eq_true_eq] at h; rw [h]
  | .list xs, .list ys, h => by rw [beqD] at h; rw [beqDs_eq h]
  | .tuple xs, .tuple ys, h => by rw [beqD] at h; rw [beqDs_eq h]
  | .none, .bool _, h | .none, .int _, h | .none, .str _, h | .none, .list _, h | .none, .tuple _, h | .none, .dict _, h => by simp [beqD] at h
  | .bool _, .none, h | .bool _, .int _, h | .bool _, .str _, h | .bool _, .list _, h | .bool _, .tuple _, h | .bool _, .dict _, h => by simp [beqD] at h
  | .int _, .none, h | .int _, .bool _, h | .int _, .str _, h | .int _, .list _, h | .int _, .tuple _, h | .int _, .dict _, h => by simp [beqD] at h
  | .str _, .none, h | .str _, .bool _, h | .str _, .int _, h | .str _, .list _, h | .str _, .tuple _, h | .str _, .dict _, h => by simp [beqD] at h
  | .list _, .none, h | .list _, .bool _, h | .list _, .int _, h | .list _, .str _, h | .list _, .tuple _, h | .list _, .dict _, h => by simp [beqD] at h
  | .tuple _, .none, h | .tuple _, .bool _, h | .tuple _, .int _, h | .tuple _, .str _, h | .tuple _, .list _, h | .tuple _, .dict _, h => by simp [beqD] at h
  | .dict _, .none, h | .dict _, .bool _, h | .dict _, .int _, h | .dict _, .str _, h | .dict _, .list _, h | .dict _, .tuple _, h | .dict _, .dict _, h => by simp [beqD] at h
theorem beqDs_eq : ∀ {xs ys : List D}, beqDs xs ys = true → xs = ys
  | [], [], _ => rfl
  | x :: xs, y :: ys, h => by
    rw [beqDs, Bool.and_eq_true] at h
    rw [beqD_eq h.1, beqDs_eq h.2]
  | [], _ :: _, h => by simp [beqDs] at h
  | _ :: _, [], h => by simp [beqDs] at h
end
def beqT : Tb → Tb → Bool
  | [], [] => true
  | (x, d) :: r, (y, e) :: t => decide (x = y) && beqD d e && beqT r t
  | _, _ => false
theorem beqT_eq : ∀ {r t : Tb}, beqT r t = true → r = t
  | [], [], _ => rfl
  | (x, d) :: r, (y, e) :: t, h => by
    rw [beqT, Bool.and_eq_true, Bool.and_eq_true, decide_eq_true_eq] at h
    rw [h.1.1, beqD_eq h.1.2, beqT_eq h.2]
  | [], _ :: _, h => by cases h
  | _ :: _, [], h => by cases h
end VS
set_option Elab.async false
set_option linter.all false
set_option maxRecDepth 100000
set_option maxHeartbeats 1000000
/-! The VS layer, part O: the text's shapes, and whether a small tree is one of the text's. -/
namespace VS
open PySem PySem.Spec PyProof.Rows L2

/-- an expression's shape -/
inductive Vw where
  | con (c : Const)
  | name (x : Str)
  | bin (op : Operator) (a b : Expr)
  | cmp1 (op : CmpOp) (a b : Expr)
  | cmp2 (o1 o2 : CmpOp) (a b c : Expr)
  | neg (a : Expr)
  | not (a : Expr)
  | bl1 (op : BoolOp) (a : Expr)
  | bl (op : BoolOp) (a b : Expr) (rest : List Expr) (pos : Pos)
  | ite (c a b : Expr)
  | sl (a : Expr) (lo hi : Option Expr)
  | ix (a b : Expr)
  | call (x : Str) (es : List Expr)
  | mth (o : Expr) (m : Str) (es : List Expr) (apos cpos : Pos)
  | tup (es : List Expr)
  | lst (es : List Expr)
  | dict0
  | lc (elt tg it : Expr) (ifs : List Expr) (sc : Scope)
  | slr (a : Expr)
  | dc (kx vx tg it : Expr) (ifs : List Expr) (sc : Scope)
  | dc2 (kx vx tg it : Expr) (ifs : List Expr) (tg2 it2 : Expr) (ifs2 : List Expr) (sc : Scope)
  | oth
def vw : Expr → Vw
  | .Constant c _ _ => .con c
  | .Name x _ => .name x
  | .BinOp a op b _ => .bin op a b
  | .Compare a ops es _ => match ops, es with
    | [op], [b] => .cmp1 op a b
    | [o1, o2], [b, c] => .cmp2 o1 o2 a b c
    | _, _ => .oth
  | .UnaryOp op a _ => match op with
    | .USub => .neg a
    | .Not => .not a
    | _ => .oth
  | .BoolOp op vs pos => match vs with
    | [a] => .bl1 op a
    | a :: b :: rest => .bl op a b rest pos
    | _ => .oth
  | .IfExp c a b _ => .ite c a b
  | .Subscript a b _ => match b with
    | .Slice lo hi st _ => match st with
      | none => .sl a lo hi
      | some u => match lo, hi, u with
        | none, none, .UnaryOp .USub (.Constant (.int 1) _ _) _ => .slr a
        | _, _, _ => .oth
    | _ => .ix a b
  | .Call f es kws cpos => match kws with
    | [] => match f with
      | .Name x _ => .call x es
      | .Attribute o m apos => .mth o m es apos cpos
      | _ => .oth
    | _ => .oth
  | .Tuple es _ _ => .tup es
  | .List es _ => .lst es
  | .Dict ks vs _ => match ks, vs with
    | [], [] => .dict0
    | _, _ => .oth
  | .ListComp elt gens sc _ => match gens with
    | [⟨tg, it, ifs, 0⟩] => .lc elt tg it ifs sc
    | _ => .oth
  | .DictComp kx vx gens sc _ => match gens with
    | [⟨tg, it, ifs, 0⟩] => .dc kx vx tg it ifs sc
    | [⟨tg, it, ifs, 0⟩, ⟨tg2, it2, ifs2, 0⟩] => .dc2 kx vx tg it ifs tg2 it2 ifs2 sc
    | _ => .oth
  | _ => .oth
section
variable {e a b c o elt tg it : Expr} {op : Operator} {cop o1 o2 : CmpOp} {bop : BoolOp} {es rest ifs : List Expr} {x m : Str} {k : Const} {pos apos cpos : Pos} {lo hi : Option Expr} {sc : Scope}
theorem vw_con (h : vw e = .con k) : ∃ j p, e = .Constant k j p := by
  unfold vw at h
  repeat' (split at h)
  all_goals first | (cases h; exact ⟨_, _, rfl⟩) | cases h
theorem vw_name (h : vw e = .name x) : ∃ p, e = .Name x p := by
  unfold vw at h
  repeat' (split at h)
  all_goals first | (cases h; exact ⟨_, rfl⟩) | cases h
theorem vw_bin (h : vw e = .bin op a b) : ∃ p, e = .BinOp a op b p := by
  unfold vw at h
  repeat' (split at h)
  all_goals first | (cases h; exact ⟨_, rfl⟩) | cases h
theorem vw_cmp1 (h : vw e = .cmp1 cop a b) : ∃ p, e = .Compare a [cop] [b] p := by
  unfold vw at h
  repeat' (split at h)
  all_goals first | (cases h; exact ⟨_, rfl⟩) | cases h
theorem vw_cmp2 (h : vw e = .cmp2 o1 o2 a b c) : ∃ p, e = .Compare a [o1, o2] [b, c] p := by
  unfold vw at h
  repeat' (split at h)
  all_goals first | (cases h; exact ⟨_, rfl⟩) | cases h
theorem vw_neg (h : vw e = .neg a) : ∃ p, e = .UnaryOp .USub a p := by
  unfold vw at h
  repeat' (split at h)
  all_goals first | (cases h; exact ⟨_, rfl⟩) | cases h
theorem vw_not (h : vw e = .not a) : ∃ p, e = .UnaryOp .Not a p := by
  unfold vw at h
  repeat' (split at h)
  all_goals first | (cases h; exact ⟨_, rfl⟩) | cases h
theorem vw_bl1 (h : vw e = .bl1 bop a) : ∃ p, e = .BoolOp bop [a] p := by
  unfold vw at h
  repeat' (split at h)
  all_goals first | (cases h; exact ⟨_, rfl⟩) | cases h
theorem vw_bl (h : vw e = .bl bop a b rest pos) : e = .BoolOp bop (a :: b :: rest) pos := by
  unfold vw at h
  repeat' (split at h)
  all_goals first | (cases h; rfl) | cases h
theorem vw_ite (h : vw e = .ite c a b) : ∃ p, e = .IfExp c a b p := by
  unfold vw at h
  repeat' (split at h)
  all_goals first | (cases h; exact ⟨_, rfl⟩) | cases h
theorem vw_sl (h : vw e = .sl a lo hi) : ∃ p p2, e = .Subscript a (.Slice lo hi none p2) p := by
  unfold vw at h
  repeat' (split at h)
  all_goals first | (cases h; exact ⟨_, _, rfl⟩) | cases h
theorem vw_ix (h : vw e = .ix a b) : (∃ p, e = .Subscript a b p) ∧ ∀ lo hi st p, b ≠ .Slice lo hi st p := by
  unfold vw at h
  repeat' (split at h)
  all_goals first | (rename_i hn; cases h; exact ⟨⟨_, rfl⟩, fun lo hi st p e => hn lo hi st p e⟩) | cases h
theorem vw_call (h : vw e = .call x es) : ∃ p q, e = .Call (.Name x q) es [] p := by
  unfold vw at h
  repeat' (split at h)
  all_goals first | (cases h; exact ⟨_, _, rfl⟩) | cases h
theorem vw_mth (h : vw e = .mth o m es apos cpos) : e = .Call (.Attribute o m apos) es [] cpos := by
  unfold vw at h
  repeat' (split at h)
  all_goals first | (cases h; rfl) | cases h
theorem vw_tup (h : vw e = .tup es) : ∃ k p, e = .Tuple es k p := by
  unfold vw at h
  repeat' (split at h)
  all_goals first | (cases h; exact ⟨_, _, rfl⟩) | cases h
theorem vw_lst (h : vw e = .lst es) : ∃ p, e = .List es p := by
  unfold vw at h
  repeat' (split at h)
  all_goals first | (cases h; exact ⟨_, rfl⟩) | cases h
theorem vw_dict0 (h : vw e = .dict0) : ∃ p, e = .Dict [] [] p := by
  unfold vw at h
  repeat' (split at h)
  all_goals first | (cases h; exact ⟨_, rfl⟩) | cases h
theorem vw_lc (h : vw e = .lc elt tg it ifs sc) : ∃ p, e = .ListComp elt [⟨tg, it, ifs, 0⟩] sc p := by
  unfold vw at h
  repeat' (split at h)
  all_goals first | (cases h; exact ⟨_, rfl⟩) | cases h
theorem vw_slr (h : vw e = .slr a) : ∃ p1 p2 p3 p k, e = .Subscript a (.Slice none none (some (.UnaryOp .USub (.Constant (.int 1) k p1) p2)) p3) p := by
  unfold vw at h
  repeat' (split at h)
  all_goals first | (cases h; exact ⟨_, _, _, _, _, rfl⟩) | cases h
theorem vw_dc {kx vx : Expr} (h : vw e = .dc kx vx tg it ifs sc) : ∃ p, e = .DictComp kx vx [⟨tg, it, ifs, 0⟩] sc p := by
  unfold vw at h
  repeat' (split at h)
  all_goals first | (cases h; exact ⟨_, rfl⟩) | cases h
theorem vw_dc2 {kx vx tg2 it2 : Expr} {ifs2 : List Expr} (h : vw e = .dc2 kx vx tg it ifs tg2 it2 ifs2 sc) : ∃ p, e = .DictComp kx vx [⟨tg, it, ifs, 0⟩, ⟨tg2, it2, ifs2, 0⟩] sc p := by
  unfold vw at h
  repeat' (split at h)
  all_goals first | (cases h; exact ⟨_, rfl⟩) | cases h
end
/-! ### scopes -/
def visB (sc : Scope) (x : Str) : Bool := match sc.names.lookup x with
  | some .local => true
  | some .cell => true
  | some .free => true
  | _ => false
def locB (sc : Scope) (top : Bool) (x : Str) : Bool := match sc.names.lookup x with
  | some .local => true
  | some .cell => top
  | _ => false
def lclB (sc : Scope) (x : Str) : Bool := match sc.names.lookup x with
  | some .local => true
  | _ => false
def glB (sc : Scope) (x : Str) : Bool := match sc.names.lookup x with
  | some .globalImplicit => true
  | _ => false
/-- is x the i-th name -/
def atB (N : List Str) (i : Nat) (x : Str) : Bool := match N[i]? with
  | some y => decide (y = x)
  | none => false
def noDb (x : Str) : Bool := !(x == ("__debug__" : Str)) && !(x == ("__classdict__" : Str)) && !(x == ("__name__" : Str))
/-- a comprehension's scope -/
def blkB (N : List Str) (sc scope : Scope) (own : List (Str × Nat)) : Bool :=
  (scope.kind == .function) && scope.names.all (fun y => scope.names.lookup y.1 == some y.2) && own.all (fun p => atB N p.2 p.1) &&
  scope.names.all (fun y => !(y.2 == .free) || (sc.names.lookup y.1 == some .cell || sc.names.lookup y.1 == some .free)) &&
  scope.names.all (fun y => !(y.2 == .local || y.2 == .cell) || (decide (y.1 ∈ own.map (·.1)) || !decide (y.1 ∈ N)))
section
variable {sc scope : Scope} {x : Str} {N : List Str} {i : Nat} {top : Bool} {own : List (Str × Nat)}
theorem visB_ok (h : visB sc x = true) : Vis sc x := by
  unfold visB at h
  split at h
  · exact .inl (by assumption)
  · exact .inr (.inl (by assumption))
  · exact .inr (.inr (by assumption))
  · cases h
theorem locB_ok (h : locB sc top x = true) : Loc sc x ∧ (top = true ∨ sc.names.lookup x = some .local) := by
  unfold locB at h
  split at h
  · exact ⟨.inl (by assumption), .inr (by assumption)⟩
  · exact ⟨.inr (by assumption), .inl h⟩
  · cases h
theorem lclB_ok (h : lclB sc x = true) : sc.names.lookup x = some .local := by
  unfold lclB at h
  split at h
  · assumption
  · cases h
theorem glB_ok (h : glB sc x = true) : sc.names.lookup x = some .globalImplicit := by
  unfold glB at h
  split at h
  · assumption
  · cases h
theorem atB_ok (h : atB N i x = true) : N[i]? = some x := by
  unfold atB at h
  split at h
  · rename_i y e
    rw [e, of_decide_eq_true h]
  · cases h
theorem noDb_ok (h : noDb x = true) : (x == ("__debug__" : Str)) = false ∧ (x == ("__classdict__" : Str)) = false ∧ x ≠ "__name__" := by
  unfold noDb at h
  simp only [Bool.and_eq_true, Bool.not_eq_true'] at h
  exact ⟨h.1.1, h.1.2, fun e => by rw [e] at h; simp at h⟩
theorem blkB_ok (h : blkB N sc scope own = true) : BlkOk N sc scope own := by
  unfold blkB at h
  simp only [Bool.and_eq_true] at h
  obtain ⟨⟨⟨⟨h1, h2⟩, h3⟩, h4⟩, h5⟩ := h
  refine ⟨by simpa using h1, fun y hy => by simpa using List.all_eq_true.mp h2 y hy, fun p hp => atB_ok (List.all_eq_true.mp h3 p hp), fun y hy e => ?_, fun y hy e => ?_⟩
  · have := List.all_eq_true.mp h4 y hy
    rw [e] at this
    simpa using this
  · have := List.all_eq_true.mp h5 y hy
    rcases e with e | e <;> (rw [e] at this; simpa using this)
end
/-! ### is the small tree the text's? -/
def conD : Const → Option D
  | .int i => some (.int i)
  | .bool b => some (.bool b)
  | .none => some .none
  | .str s => some (.str s)
  | _ => none
def litB (d : D) (c : Const) : Bool := match conD c with
  | some e => beqD d e
  | none => false
def vwN (e : Expr) : Option Str := match vw e with
  | .name x => some x
  | _ => none
def isNoneE (e : Expr) : Bool := match vw e with
  | .con .none => true
  | _ => false
/-- the cells that a block makes itself -/
def ownC (scope : Scope) (x : Str) : Bool := scope.names.lookup x == some .cell
/-- slots of a tuple target's names -/
def nmsB (sc : Scope) (N : List Str) (top : Str → Bool) : List Expr → List Nat → Bool
  | [], [] => true
  | e :: es, i :: is => match vwN e with
    | some x => atB N i x && locB sc (top x) x && nmsB sc N top es is
    | none => false
  | _, _ => false
def tgB (sc : Scope) (N : List Str) (top : Str → Bool) (tg : Tg) (e : Expr) : Bool := match tg with
  | .name i => match vwN e with
    | some x => atB N i x && locB sc (top x) x
    | none => false
  | .tup is => match vw e with
    | .tup es => nmsB sc N top es is
    | _ => false
def clsFree (G : GI) (x : Str) : Bool := decide (x ∈ G.free)
def argN (n : Nat) (es : List Expr) : Bool := es.length == n
/-- the methods -/
def muTab (m : Mu) : Str := match m with
  | .append => "append"
  | .extend => "extend"
  | .insert => "insert"
  | .pop => "pop"
  | .popAt => "pop"
def fewB (cpos : Pos) (n : Nat) : Bool := decide (n < 30)
/-- no set display -/
def noSet : Expr → Bool
  | .Set _ _ _ => false
  | _ => true
/-- what a loop walks over: its arguments -/
def itA (G : GI) (sc : Scope) : ItK → Expr → Option (List Expr)
  | .data, e => some [e]
  | .rng1, e => match vw e with
    | .call x as => if decide (x = "range") && glB sc x && clsFree G x && decide (as.length = 1) then some as else none
    | _ => none
  | .rng2, e => match vw e with
    | .call x as => if decide (x = "range") && glB sc x && clsFree G x && decide (as.length = 2) then some as else none
    | _ => none
mutual
def chk (G : GI) (sc : Scope) (N : List Str) : IE → Expr → Bool
  | .lit d, e => match vw e with
    | .con c => litB d c
    | .name x => glB sc x && noDb x && (match G.cons.lookup x with
      | some d' => beqD d d'
      | none => false)
    | _ => false
  | .slot i, e => match vwN e with
    | some x => atB N i x && visB sc x && noDb x
    | none => false
  | .op o es, e => match vw e with
    | .bin bop a b => decide (binTab bop = some o) && chks G sc N es [a, b]
    | .cmp1 cop a b => (decide (cmpTab cop = some o) && noSet b && chks G sc N es [a, b]) || (decide (isTab cop = some o) && isNoneE b && chks G sc N es [a])
    | .neg a => decide (o = .neg) && chks G sc N es [a]
    | .ix a b => decide (o = .idx) && chks G sc N es [a, b]
    | .slr a => decide (o = .rev) && chks G sc N es [a]
    | .call x as => glB sc x && noDb x && clsFree G x && ((decide (bTab x = some o) && chks G sc N es as && decide (0 < as.length)) || (decide (tTab x = some o) && chks G sc N es as && decide (0 < as.length)) ||
        (match as with
          | [b] => match vw b with
            | .call y cs => glB sc y && clsFree G y && nst b && ((decide (x = "list") && decide (y = "range") && decide (o = .rngL) && decide (cs.length = 1) && chks G sc N es cs) || (decide (x = "sorted") && decide (y = "set") && decide (o = .sset) && decide (cs.length = 1) && chks G sc N es cs))
            | _ => false
          | [a, t] => (decide (x = "sum") && decide (o = .sumL) && (match vw t with
            | .lst [] => true
            | _ => false) && nst a && chks G sc N es [a]) || decide (x = "isinstance") && (match vwN t with
            | some y => glB sc y && noDb y && clsFree G y && (match tyTab y with
              | some ty => decide (o = .isi ty)
              | none => false) && chks G sc N es [a] && nst a
            | none => false)
          | _ => false))
    | _ => false
  | .tup es, e => match vw e with
    | .tup as => chks G sc N es as
    | _ => false
  | .lst es, e => match vw e with
    | .lst as => chks G sc N es as
    | _ => false
  | .dict0, e => match vw e with
    | .dict0 => true
    | _ => false
  | .one a, e => match vw e with
    | .bl1 _ x => chk G sc N a x
    | _ => false
  | .and a b, e => match vw e with
    | .bl .And x y rest pos => chk G sc N a x && chk G sc N b (.BoolOp .And (y :: rest) pos)
    | _ => false
  | .or a b, e => match vw e with
    | .bl .Or x y rest pos => chk G sc N a x && chk G sc N b (.BoolOp .Or (y :: rest) pos)
    | _ => false
  | .not a, e => match vw e with
    | .not x => chk G sc N a x
    | _ => false
  | .ite c a b, e => match vw e with
    | .ite x y z => chk G sc N c x && chk G sc N a y && chk G sc N b z
    | _ => false
  | .chain o o' a b c, e => match vw e with
    | .cmp2 o1 o2 x y z => decide (cmpTab o1 = some o) && decide (cmpTab o2 = some o') && noSet z && chk G sc N a x && chk G sc N b y && chk G sc N c z
    | _ => false
  | .sl lo hi es, e => match vw e with
    | .sl a l h => match lo, hi, l, h with
      | false, false, none, none => chks G sc N es [a]
      | true, false, some l, none => chks G sc N es [a, l]
      | false, true, none, some h => chks G sc N es [a, h]
      | true, true, some l, some h => chks G sc N es [a, l, h]
      | _, _, _, _ => false
    | _ => false
  | .call f es, e => match vw e with
    | .call x as => glB sc x && noDb x && (match G.funs[f]? with
      | some (y, n) => decide (y = x) && decide (as.length = n)
      | none => false) && chks G sc N es as
    | _ => false
  | .mu m i es, e => match vw e with
    | .mth o name as apos cpos => decide (muTab m = name) && (match vwN o with
      | some x => atB N i x && visB sc x && noDb x
      | none => false) && decide (apos.endLine = cpos.line) && decide (as.length < 29) && chks G sc N es as && decide (m ≠ .popAt)
    | _ => false
  | .lc own k it tg ifs elt, e => match vw e with
    | .lc elt' tg' it' ifs' scope => blkB N sc scope own && (match itA G sc k it' with
      | some as => chks G sc N it as
      | none => false) && tgB (relS scope sc) N (ownC scope) tg tg' && chks G (relS scope sc) N ifs ifs' && decide (ifs'.length ≤ 1) && chk G (relS scope sc) N elt elt' && noSet it'
    | _ => false
  | .kix x tab a, e => match vw e with
    | .ix o b => decide (vwN o = some x) && glB sc x && noDb x && (match G.kds.lookup x with
      | some t => beqT tab t
      | none => false) && chk G sc N a b
    | _ => false
  | .kin neg x tab a, e => match vw e with
    | .cmp1 cop b o => decide (vwN o = some x) && glB sc x && noDb x && (match G.kds.lookup x with
      | some t => beqT tab t
      | none => false) && chk G sc N a b && decide (cop = if neg then .NotIn else .In)
    | _ => false
  | .upd i es, e => match vw e with
    | .mth o name as apos cpos => decide (name = "update") && (match vwN o with
      | some x => atB N i x && visB sc x && noDb x
      | none => false) && decide (apos.endLine = cpos.line) && decide (as.length < 29) && chks G sc N es as && decide (as.length = 1)
    | _ => false
  | .dc own k it tg ifs key val, e => match vw e with
    | .dc key' val' tg' it' ifs' scope => blkB N sc scope own && (match itA G sc k it' with
      | some as => chks G sc N it as
      | none => false) && tgB (relS scope sc) N (ownC scope) tg tg' && chks G (relS scope sc) N ifs ifs' && decide (ifs'.length ≤ 1) && chk G (relS scope sc) N key key' && chk G (relS scope sc) N val val' && noSet it'
    | _ => false
  | .dc2 own own2 k it tg ifs k2 it2 tg2 ifs2 key val, e => match vw e with
    | .dc2 key' val' tg' it' ifs' tg2' it2' ifs2' scope => blkB N sc scope own && decide (∀ p ∈ own2, p ∈ own) && (match itA G sc k it' with
      | some as => chks G sc N it as
      | none => false) && tgB (relS scope sc) N (ownC scope) tg tg' && chks G (relS scope sc) N ifs ifs' && decide (ifs'.length ≤ 1) &&
      (match itA G (relS scope sc) k2 it2' with
      | some as => chks G (relS scope sc) N it2 as
      | none => false) && tgB (relS scope sc) N (ownC scope) tg2 tg2' && chks G (relS scope sc) N ifs2 ifs2' && decide (ifs2'.length ≤ 1) && chk G (relS scope sc) N key key' && chk G (relS scope sc) N val val' && noSet it' && noSet it2'
    | _ => false
def chks (G : GI) (sc : Scope) (N : List Str) : IEs → List Expr → Bool
  | .nil, es => es.isEmpty
  | .cons a as, es => match es with
    | e :: es => nst e && chk G sc N a e && chks G sc N as es
    | [] => false
end
def chkIt (G : GI) (sc : Scope) (N : List Str) (es : IEs) (k : ItK) (e : Expr) : Bool := match itA G sc k e with
  | some as => chks G sc N es as
  | none => false
end VS
set_option Elab.async false
set_option linter.all false
set_option maxRecDepth 100000
set_option maxHeartbeats 1000000
/-! The VS layer, part P: what is around, what a meaning promises; the leaves. -/
namespace VS
open PySem PySem.Spec PyProof.Rows L2

structure GlobOk (G : GI) (P : Program) (w : World) (K : PySem.W.Frag) (mg : Str → Option Value) (base : Heap) (CA : Nat → Addr) (k : Nat) (Φ : Nat → FS) : Prop where
  fn : ∀ i x n, G.funs[i]? = some (x, n) → ∃ fa fd ps, mg x = some (.ref fa) ∧ PySem.W.keepIn K (.ref fa) = true ∧ Binds K fd ps [] ∧ ps.length = n ∧ FnG P w K mg base k fa fd ps (spF ⟨K, CA, fun _ _ _ _ => False⟩ n (Φ i))
  con : ∀ x d, G.cons.lookup x = some d → ∃ v u, mg x = some u ∧ RelV v u ∧ ∀ B H, Dn K B H v d
  free : ∀ x, x ∈ G.free → mg x = none
  kds : ∀ x t, G.kds.lookup x = some t → ∃ a, mg x = some (.ref a) ∧ TabOk K w a t
  cls : ∀ c x, G.clss[c]? = some x → mg x = some (.ref (CA c)) ∧ PySem.W.keepIn K (.ref (CA c)) = true ∧ (∃ (B newId initId : String) (bmB : List Value), ExcBaseFacts B newId initId bmB ∧ PySem.W.excIn K (CA c) bmB newId = true) ∧
    PySem.W.subIn K (.ref (CA c)) (.type "BaseException") = some true ∧ PySem.W.typeIn K (.ref (CA c)) = some (.type "type")
  exm : ∀ i j b, G.exm i j = some b → PySem.W.exmOne K (.ref (CA i)) (.ref (CA j)) = some b
/-- what is around an expression -/
structure Ct (G : GI) (k : Nat) (Φ : Nat → FS) (X : Cx) (C : Wd) (sc : Scope) (N : List Str) (top : Str → Bool) : Prop where
  hsc : X.env.scope = sc
  hN : X.N = N
  nd : N.Nodup
  hK : C.K = X.K
  calm : X.calm = true
  room : Room k X.A
  gd : X.A.guards = some []
  tk : Takes X C.E
  fn : ∀ x, top x = true → X.fn x = true
  kd : sc.kind = .function
  glo : GlobOk G X.prog X.w X.K X.mg X.base C.CA k Φ
structure SmOk (X : Cx) (C : Wd) (e : Expr) (s : Sm) : Prop where
  me : PE X e (tE C s.e)
  mt : PT X e (tT C s.t)
  mo : PE X e (tO C s.o)
  mv : PE X e (tO C s.v)
  ma : PE X e (tA C s.a)
  mw : (∃ op vs p, e = .BoolOp op vs p) → PW X e (tT C s.t)
inductive SmsOk (X : Cx) (C : Wd) : List Expr → List Sm → Prop where
  | nil : SmsOk X C [] []
  | cons {e : Expr} {es : List Expr} {s : Sm} {ss : List Sm} : nst e = true → SmOk X C e s → SmsOk X C es ss → SmsOk X C (e :: es) (s :: ss)
section
variable {G : GI} {k : Nat} {Φ : Nat → FS} {X : Cx} {C : Wd} {sc : Scope} {N : List Str} {top : Str → Bool} {e : Expr} {es : List Expr} {s : Sm} {ss : List Sm}
theorem star_nst (h : nst e = true) : starEach (e :: es) X.env = (false, eval e X.env) :: starEach es X.env := by
  cases e <;> first | rfl | cases h
theorem Ct.hu (c : Ct G k Φ X C sc N top) : X.A.units + 66 < cLine := by have := c.room.un; omega
theorem SmsOk.star (h : SmsOk X C es ss) : (starEach es X.env).any (·.1) = false := by
  induction h with
  | nil => rfl
  | cons h1 _ _ ih => rw [star_nst h1, List.any_cons, ih]; rfl
theorem SmsOk.star1 (h : SmsOk X C es ss) (pos : Pos) : (backTo pos (starEach es X.env)).any (·.1) = false := by
  have : ∀ l : List (Bool × Sem Value), (backTo pos l).any (·.1) = l.any (·.1) := fun l => by
    unfold backTo
    rw [List.any_map]
    rfl
  rw [this, h.star]
theorem SmsOk.os (h : SmsOk X C es ss) : PA X es (tOs C (mOs (ss.map Sm.o))) := by
  induction h with
  | nil => exact se_onil
  | cons h1 h2 _ ih => exact se_ocons h2.mo ih (star_nst h1)
theorem SmsOk.vs (h : SmsOk X C es ss) : PA X es (tOs C (mOs (ss.map Sm.v))) := by
  induction h with
  | nil => exact se_onil
  | cons h1 h2 _ ih => exact se_ocons h2.mv ih (star_nst h1)
theorem SmsOk.as (h : SmsOk X C es ss) : PA X es (tAs C (mAs (ss.map Sm.a))) := by
  induction h with
  | nil => exact sas_nil
  | cons h1 h2 _ ih => exact sas_cons h2.ma ih (star_nst h1)
theorem pt_stuck {e : Expr} : PT X e (tT C stuck) := ⟨fun _ _ σ H Q I ⟨_, _, _, p⟩ => p.elim⟩
/-- a test by the value's truth -/
theorem truth_pt (hK : C.K = X.K) {m : M O} (h : PE X e (tO C m)) (he : ∀ whole, isTrue e X.env whole = (do let v ← whole; standAt e.pos; holding [v] (truthy v))) : PT X e (tT C (mTruth m)) := st_truth h hK he
/-- all meanings from the value's -/
theorem SmOk.of (hK : C.K = X.K) {m : M T} (h : PE X e (tE C m)) (he : ∀ whole, isTrue e X.env whole = (do let v ← whole; standAt e.pos; holding [v] (truthy v))) (nb : ∀ op vs p, e ≠ .BoolOp op vs p) : SmOk X C e (Sm.mk' m) :=
  ⟨h, st_truth (se_opd h) hK he, se_opd h, se_opd h, sa_val h, fun ⟨_, _, _, q⟩ => absurd q (nb _ _ _)⟩
theorem SmOk.ofT {m : M T} {n : M Bool} (h : PE X e (tE C m)) (ht : PT X e (tT C n)) (nb : ∀ op vs p, e ≠ .BoolOp op vs p) : SmOk X C e ⟨m, n, mOpd m, mOpd m, mAval m⟩ :=
  ⟨h, ht, se_opd h, se_opd h, sa_val h, fun ⟨_, _, _, q⟩ => absurd q (nb _ _ _)⟩
theorem Ct.vis (c : Ct G k Φ X C sc N top) {x : Str} {i : Nat} {p : Pos} (h1 : atB N i x = true) (h2 : visB sc x = true) (h3 : noDb x = true) : PE X (.Name x p) (tVar i) := by
  obtain ⟨a, b, _⟩ := noDb_ok h3
  exact pe_var (by rw [c.hN]; exact atB_ok h1) (by rw [c.hsc]; exact visB_ok h2) a b
theorem Ct.gl (c : Ct G k Φ X C sc N top) {x : Str} (h : glB sc x = true) : Gl X x := by
  show X.env.scope.names.lookup x = _
  rw [c.hsc]
  exact glB_ok h
theorem lit_ok (c : Ct G k Φ X C sc N top) {cc : Const} {d : D} {j : Nat} {p : Pos} (h : litB d cc = true) : PE X (.Constant cc j p) (tE C (mLit d)) := by
  unfold litB at h
  cases cc <;> simp only [conD] at h <;> (try (cases h)) <;> (cases beqD_eq h)
  · exact se_lit pe_non fun _ _ => .non
  · exact se_lit pe_bl fun _ _ => .bl _
  · exact se_lit pe_int fun _ _ => .int _
  · exact se_lit pe_str fun _ _ => .str _
theorem slot_ok (c : Ct G k Φ X C sc N top) {x : Str} {i : Nat} {p : Pos} (h : PE X (.Name x p) (tVar i)) : SmOk X C (.Name x p) (ev Φ (.slot i)) :=
  ⟨se_slot h, st_truth (se_oslot h) c.hK fun _ => rfl, se_oslot h, se_opd (se_slot h), sa_slot h, fun ⟨_, _, _, q⟩ => by cases q⟩
theorem nms_ok (c : Ct G k Φ X C sc N top) : ∀ {es : List Expr} {is : List Nat}, nmsB sc N top es is = true → Nms X es is
  | [], [], _ => .nil
  | [], _ :: _, h => by cases h
  | _ :: _, [], h => by cases h
  | e :: es, i :: is, h => by
    unfold nmsB at h
    split at h
    · rename_i x hx
      unfold vwN at hx
      split at hx
      · rename_i y hy
        cases hx
        obtain ⟨p, rfl⟩ := vw_name hy
        simp only [Bool.and_eq_true] at h
        obtain ⟨⟨h1, h2⟩, h3⟩ := h
        obtain ⟨l1, l2⟩ := locB_ok h2
        exact .cons (by rw [c.hN]; exact atB_ok h1) (by rw [c.hsc]; exact l1) (by rw [c.hsc]; exact l2.imp_left fun z => c.fn _ z) (nms_ok c h3)
      · cases hx
    · cases h
theorem tg_ok (c : Ct G k Φ X C sc N top) {lk : Lks} {tg : Tg} {te : Expr} (h : tgB sc N top tg te = true) : PG X te (tG C lk tg) := by
  unfold tgB at h
  cases tg with
  | name i =>
    simp only at h
    split at h
    · rename_i x hx
      unfold vwN at hx
      split at hx
      · rename_i y hy
        cases hx
        obtain ⟨p, rfl⟩ := vw_name hy
        simp only [Bool.and_eq_true] at h
        obtain ⟨l1, l2⟩ := locB_ok h.2
        exact sg_name (by rw [c.hN]; exact c.nd) (by rw [c.hN]; exact atB_ok h.1) (by rw [c.hsc]; exact l1) (by rw [c.hsc]; exact l2.imp_left fun z => c.fn _ z)
      · cases hx
    · cases h
  | tup is =>
    simp only at h
    split at h
    · rename_i es he
      obtain ⟨j, p, rfl⟩ := vw_tup he
      exact sg_tup c.calm c.hK (by rw [c.hN]; exact c.nd) (nms_ok c h)
    · cases h
theorem relS_kind {scope sc : Scope} : (relS scope sc).kind = scope.kind := rfl
/-- within a comprehension's block -/
theorem Ct.blk (c : Ct G k Φ X C sc N top) {scope : Scope} {own : List (Str × Nat)} (ok : BlkOk N sc scope own) (s : Shared) (H : Hp) (L : Addr) (cl : List (Str × Addr)) (fp : List Addr) :
    Ct G k Φ (X.blk s H scope (compEnvC scope cl L X.env) fp) C.nox (relS scope sc) N (ownC scope) :=
  ⟨by rw [← c.hsc]; rfl, c.hN, c.nd, c.hK, c.calm, c.room, c.gd, takes0, fun x z => z, ok.kind, c.glo⟩
theorem Ct.bk (c : Ct G k Φ X C sc N top) : X.env.blockKind = .function := by
  unfold Env.blockKind
  rw [c.hsc, c.kd]
  rfl
theorem nomark {op : CmpOp} {b : Expr} (h : noSet b = true) : behindInMarks op b = false := by
  cases b <;> first | rfl | cases h
theorem pl_ix {b : Expr} (h : ∀ lo hi st p, b ≠ .Slice lo hi st p) : PlainIx b := fun o i => by
  cases b <;> first | rfl | exact absurd rfl (h _ _ _ _)
theorem fset {b : Expr} (h : noSet b = true) : ∀ x, foldedSetIterable b X.env x = pure x := fun x => by
  cases b <;> first | rfl | cases h
end
end VS
set_option Elab.async false
set_option linter.all false
set_option maxRecDepth 100000
set_option maxHeartbeats 1000000
/-! The VS layer, part Q: a small tree that is the text's says what the text does. -/
namespace VS
open PySem PySem.Spec PyProof.Rows L2
section
variable {G : GI} {k : Nat} {Φ : Nat → FS} {X : Cx} {C : Wd} {sc : Scope} {N : List Str} {top : Str → Bool} {e : Expr} {es : List Expr} {s : Sm} {ss : List Sm}
theorem bin_ok (c : Ct G k Φ X C sc N top) {bop : Operator} {o : Op} (h : binTab bop = some o) : OpR X (binaryOp bop) (r2 C.K o) := by
  rw [c.hK]
  cases bop <;> simp only [binTab] at h <;> (try (cases h))
  · exact o_add
  · exact o_sub
  · exact o_mul
  · exact o_mod
  · exact o_pow
  · exact o_fdiv
theorem cmp_ok (c : Ct G k Φ X C sc N top) {cop : CmpOp} {o : Op} (h : cmpTab cop = some o) : OpR X (compareOp cop) (r2 C.K o) := by
  have hu := c.hu
  rw [c.hK]
  cases cop <;> simp only [cmpTab] at h <;> (try (cases h))
  · exact o_eq (by omega)
  · exact o_ne (by omega)
  · exact o_lt
  · exact o_le
  · exact o_gt
  · exact o_ge
  · exact o_in (by omega)
  · exact o_notin (by omega)
theorem is_ok (c : Ct G k Φ X C sc N top) {cop : CmpOp} {o : Op} (h : isTab cop = some o) : OpR X (compareOp cop) (fun x y H Q => y = .non ∧ r1 C.K o x H Q) := by
  rw [c.hK]
  cases cop <;> simp only [isTab] at h <;> (try (cases h))
  · exact o_isN
  · exact o_notN
theorem bT_ok (c : Ct G k Φ X C sc N top) {x : Str} {o : Op} (h : bTab x = some o) : ∃ id, CallR X (.builtin id) (rN C.K o) ∧ bootBuiltins x = some (.builtin id) := by
  have hc := c.calm
  have hu : X.A.units + 200 < cLine := by have := c.room.un; omega
  rw [c.hK]
  unfold bTab at h
  split at h
  · rename_i e; cases h; subst e; exact ⟨_, c_len, by decide +kernel⟩
  split at h
  · rename_i e; cases h; subst e; exact ⟨_, c_abs, by decide +kernel⟩
  split at h
  · rename_i e; cases h; subst e; exact ⟨_, c_any hc, by decide +kernel⟩
  split at h
  · rename_i e; cases h; subst e; exact ⟨_, c_all hc, by decide +kernel⟩
  split at h
  · rename_i e; cases h; subst e; exact ⟨_, c_sum hc, by decide +kernel⟩
  split at h
  · rename_i e; cases h; subst e; exact ⟨_, c_sorted hc (by omega), by decide +kernel⟩
  split at h
  · rename_i e; cases h; subst e; exact ⟨_, c_repr c.gd (by omega), by decide +kernel⟩
  · cases h
theorem tT_ok (c : Ct G k Φ X C sc N top) {x : Str} {o : Op} (h : tTab x = some o) : ∃ ty, CallR X (.type ty) (rN C.K o) ∧ bootBuiltins x = some (.type ty) := by
  have hc := c.calm
  rw [c.hK]
  unfold tTab at h
  split at h
  · rename_i e; cases h; subst e; exact ⟨_, c_tuple, by decide +kernel⟩
  split at h
  · rename_i e; cases h; subst e; exact ⟨_, c_list hc, by decide +kernel⟩
  split at h
  · rename_i e; cases h; subst e; exact ⟨_, c_int, by decide +kernel⟩
  split at h
  · rename_i e; cases h; subst e; exact ⟨_, c_str, by decide +kernel⟩
  split at h
  · rename_i e; cases h; subst e; exact ⟨_, c_bool, by decide +kernel⟩
  · cases h
theorem ty_ok {y : Str} {ty : String} (h : tyTab y = some ty) : bootBuiltins y = some (.type ty) := by
  unfold tyTab at h
  split at h
  · rename_i e; cases h; subst e; decide +kernel
  split at h
  · rename_i e; cases h; subst e; decide +kernel
  split at h
  · rename_i e; cases h; subst e; decide +kernel
  split at h
  · rename_i e; cases h; subst e; decide +kernel
  split at h
  · rename_i e; cases h; subst e; decide +kernel
  · cases h
theorem vwN_ok {x : Str} (h : vwN e = some x) : ∃ p, e = .Name x p := by
  unfold vwN at h
  split at h
  · rename_i y hy
    cases h
    exact vw_name hy
  · cases h
theorem isNoneE_ok (h : isNoneE e = true) : ∃ j p, e = .Constant .none j p := by
  unfold isNoneE at h
  split at h
  · rename_i hy
    exact vw_con hy
  · cases h
/-- an operation's meaning -/
def opSm (o : Op) (ss : List Sm) : Sm := let m := mApp o (ss.map Sm.o); ⟨m, if isCmp o then mBool m else mTruth (mOpd m), mOpd m, mOpd m, mAval m⟩
theorem opT_ok (hK : C.K = X.K) {o : Op} (h : PE X e (tE C (mApp o (ss.map Sm.o)))) (hb : isCmp o = true → PT X e (tT C (mBool (mApp o (ss.map Sm.o))))) (he : isCmp o = false → ∀ whole, isTrue e X.env whole = (do let v ← whole; standAt e.pos; holding [v] (truthy v))) (nb : ∀ op vs p, e ≠ .BoolOp op vs p) : SmOk X C e (opSm o ss) := by
  refine SmOk.ofT h ?_ nb
  cases c : isCmp o with
  | true => rw [if_pos rfl]; exact hb c
  | false => rw [if_neg Bool.false_ne_true]; exact st_truth (se_opd h) hK (he c)
theorem SmsOk.one {a : Expr} (h : SmsOk X C [a] ss) : ∃ s, ss = [s] ∧ SmOk X C a s := by
  cases h with
  | cons _ h t => cases t; exact ⟨_, rfl, h⟩
theorem SmsOk.two {a b : Expr} (h : SmsOk X C [a, b] ss) : ∃ s u, ss = [s, u] ∧ SmOk X C a s ∧ SmOk X C b u := by
  cases h with
  | cons _ h t =>
    obtain ⟨u, rfl, g⟩ := t.one
    exact ⟨_, u, rfl, h, g⟩
theorem SmsOk.three {a b d : Expr} (h : SmsOk X C [a, b, d] ss) : ∃ s u v, ss = [s, u, v] ∧ SmOk X C a s ∧ SmOk X C b u ∧ SmOk X C d v := by
  cases h with
  | cons _ h t =>
    obtain ⟨u, v, rfl, g⟩ := t.two
    exact ⟨_, u, v, rfl, h, g⟩
theorem cmp_of {cop : CmpOp} {o : Op} (h : cmpTab cop = some o) : isCmp o = true := by cases cop <;> simp only [cmpTab] at h <;> (try (cases h)) <;> rfl
theorem cmp_is {cop : CmpOp} {o : Op} (h : isTab cop = some o) : isCmp o = true := by cases cop <;> simp only [isTab] at h <;> (try (cases h)) <;> rfl
theorem bin_of {cop : Operator} {o : Op} (h : binTab cop = some o) : isCmp o = false := by cases cop <;> simp only [binTab] at h <;> (try (cases h)) <;> rfl
theorem b_of {x : Str} {o : Op} (h : bTab x = some o) : isCmp o = false := by
  unfold bTab at h
  repeat' (split at h)
  all_goals first | (cases h; rfl) | cases h
theorem t_of {x : Str} {o : Op} (h : tTab x = some o) : isCmp o = false := by
  unfold tTab at h
  repeat' (split at h)
  all_goals first | (cases h; rfl) | cases h
end
end VS
set_option Elab.async false
set_option linter.all false
set_option maxRecDepth 100000
set_option maxHeartbeats 2000000
/-! The VS layer, part R: a small tree that is the text's says what the text does: expressions. -/
namespace VS
open PySem PySem.Spec PyProof.Rows L2
section
variable {G : GI} {k : Nat} {Φ : Nat → FS} {X : Cx} {C : Wd} {sc : Scope} {N : List Str} {top : Str → Bool} {e : Expr} {es : List Expr} {s : Sm} {ss : List Sm}
theorem PTs.mono {es : List Expr} {t t' : TT} (h : PTs X es t) (k : ∀ σ H Q, t' σ H Q → t σ H Q) : PTs X es t' := ⟨fun pins s σ H Q I q => h.run pins s σ H Q I (k σ H Q q)⟩
theorem ifs_ok (h : SmsOk X C es ss) (hl : es.length ≤ 1) : PTs X es (tT C (evIf ss)) := by
  cases h with
  | nil => exact PTs.mono pts_nil fun σ H Q ⟨U, ρ, R, p⟩ => p true H ⟨R, rfl⟩ noOw_refl
  | cons _ h t =>
    cases t with
    | nil => exact pts_one h.mt
    | cons _ _ _ => simp at hl
theorem sl_ok (c : Ct G k Φ X C sc N top) {a : Expr} {lo hi : Option Expr} {ml mh : Option (M O)} {ma : M O} {p p2 : Pos} (ha : PE X a (tO C ma)) (hl : PO X lo (tP C (mPart ml))) (hh : PO X hi (tP C (mPart mh))) : SmOk X C (.Subscript a (.Slice lo hi none p2) p) (Sm.mk' (mSl ma ml mh)) :=
  SmOk.of c.hK (se_sl (by rw [c.hK]; exact o_sl) ha hl hh) (fun _ => rfl) (fun _ _ _ q => by cases q)
theorem m_of (c : Ct G k Φ X C sc N top) {m : Mu} (hm : m ≠ .popAt) : ∃ id, Slot "list" (muTab m) id ∧ typeOf (.builtin id) = pure (.type "method_descriptor") ∧ MtR X id (rMu C.K m) := by
  rw [c.hK]
  cases m with
  | append => exact ⟨_, PySem.F.slot_list_append, PySem.F.type_list_append, m_append⟩
  | extend => exact ⟨_, PySem.F.slot_list_extend, PySem.F.type_list_extend, m_extend⟩
  | insert => exact ⟨_, PySem.F.slot_list_insert, PySem.F.type_list_insert, m_insert⟩
  | pop => exact ⟨_, PySem.F.slot_list_pop, PySem.F.type_list_pop, m_pop⟩
  | popAt => exact absurd rfl hm
theorem bk_false : ∀ l : List (Bool × Sem Value), l.any (·.1) = false → ∀ pos, (backTo pos l).all (fun x => !x.1) = true
  | [], _, _ => rfl
  | (b, t) :: l, h, pos => by
    rw [List.any_cons, Bool.or_eq_false_iff] at h
    show ((!b) && (backTo pos l).all _) = true
    rw [show b = false from h.1, bk_false l h.2 pos]
    rfl
theorem chkIt_of (ies : IEs) (kk : ItK) {X : Cx} {C : Wd} {sc : Scope} {top : Str → Bool} {tg e : Expr} (c : Ct G k Φ X C sc N top) (hs : ∀ {es : List Expr}, chks G sc N ies es = true → SmsOk X C es (evs Φ ies)) (h : (match itA G sc kk e with
      | some as => chks G sc N ies as
      | none => false) = true) : PI X tg e (tIt C (evIt kk (evs Φ ies))) := by
  cases kk with
  | data =>
    obtain ⟨s, e2, ha⟩ := (hs (show chks G sc N ies [e] = true from h)).one
    rw [e2]
    exact si_data c.hK ha.me
  | rng1 =>
    cases ha : itA G sc .rng1 e with
    | none => rw [ha] at h; cases h
    | some as =>
      rw [ha] at h
      simp only [itA] at ha
      split at ha
      · rename_i x as' hv
        split at ha
        · rename_i cond
          cases ha
          obtain ⟨p, q, rfl⟩ := vw_call hv
          simp only [Bool.and_eq_true, decide_eq_true_eq] at cond
          obtain ⟨⟨⟨rfl, h1⟩, h2⟩, h3⟩ := cond
          match as, h3 with
          | [a], _ =>
            have hs := hs h
            have hn : nst a = true := by
              generalize evs Φ ies = zs at hs
              cases hs with
              | cons z _ _ => exact z
            exact si_rng1 (c.gl h1) (c.glo.free _ (of_decide_eq_true h2)) hs.os (by rw [star_nst hn]; rfl)
        · cases ha
      · cases ha
  | rng2 =>
    cases ha : itA G sc .rng2 e with
    | none => rw [ha] at h; cases h
    | some as =>
      rw [ha] at h
      simp only [itA] at ha
      split at ha
      · rename_i x as' hv
        split at ha
        · rename_i cond
          cases ha
          obtain ⟨p, q, rfl⟩ := vw_call hv
          simp only [Bool.and_eq_true, decide_eq_true_eq] at cond
          obtain ⟨⟨⟨rfl, h1⟩, h2⟩, h3⟩ := cond
          match as, h3 with
          | [a, b], _ =>
            have hs := hs h
            have hn : nst a = true ∧ nst b = true := by
              generalize evs Φ ies = zs at hs
              cases hs with
              | cons z _ t =>
                cases t with
                | cons z2 _ _ => exact ⟨z, z2⟩
            exact si_rng2 (c.gl h1) (c.glo.free _ (of_decide_eq_true h2)) hs.os (by rw [star_nst hn.1, star_nst hn.2]; rfl) (by rw [star_nst hn.2]; rfl)
        · cases ha
      · cases ha
mutual
theorem chk_ok : ∀ (ie : IE) {X : Cx} {C : Wd} {sc : Scope} {top : Str → Bool} {e : Expr}, Ct G k Φ X C sc N top → chk G sc N ie e = true → SmOk X C e (ev Φ ie)
  | .lit d, X, C, sc, top, e, c, h => by
    unfold chk at h
    split at h
    · rename_i cc hv
      obtain ⟨j, p, rfl⟩ := vw_con hv
      have h1 := lit_ok (j := j) (p := p) c h
      exact SmOk.of c.hK h1 (fun _ => rfl) fun _ _ _ q => by cases q
    · rename_i x hv
      obtain ⟨p, rfl⟩ := vw_name hv
      simp only [Bool.and_eq_true] at h
      obtain ⟨⟨h1, h2⟩, h3⟩ := h
      split at h3
      · rename_i d' hd
        cases beqD_eq h3
        obtain ⟨v, u, m1, m2, m3⟩ := c.glo.con _ _ hd
        have h1 : PE X (.Name x p) (tE C (mLit d)) := se_lit (pe_glob (c.gl h1) m1 m2 (noDb_ok h2).1) (by rw [c.hK]; exact m3)
        exact SmOk.of c.hK h1 (fun _ => rfl) fun _ _ _ q => by cases q
      · cases h3
    · cases h
  | .slot i, X, C, sc, top, e, c, h => by
    unfold chk at h
    split at h
    · rename_i x hv
      obtain ⟨p, rfl⟩ := vwN_ok hv
      simp only [Bool.and_eq_true] at h
      exact slot_ok c (c.vis h.1.1 h.1.2 h.2)
    · cases h
  | .op o es, X, C, sc, top, e, c, h => by
    show SmOk X C e (opSm o (evs Φ es))
    unfold chk at h
    split at h
    · rename_i bop a b hv
      obtain ⟨p, rfl⟩ := vw_bin hv
      rw [Bool.and_eq_true] at h
      have h1 := of_decide_eq_true h.1
      obtain ⟨s, u, e2, ha, hb⟩ := (chks_ok es c h.2).two
      rw [e2]
      refine opT_ok c.hK (se_bin (bin_ok c h1) ha.mo hb.mo) (fun z => ?_) (fun _ _ => rfl) fun _ _ _ q => by cases q
      rw [bin_of h1] at z
      cases z
    · rename_i cop a b hv
      obtain ⟨p, rfl⟩ := vw_cmp1 hv
      rw [Bool.or_eq_true] at h
      rcases h with h | h
      · simp only [Bool.and_eq_true, decide_eq_true_eq] at h
        obtain ⟨⟨h1, h2⟩, h3⟩ := h
        obtain ⟨s, u, e2, ha, hb⟩ := (chks_ok es c h3).two
        rw [e2]
        exact opT_ok c.hK (se_cmp (cmp_ok c h1) ha.mo hb.mo (nomark h2)) (fun _ => st_cmp (cmp_ok c h1) ha.mo hb.mo (nomark h2)) (fun z => (by rw [cmp_of h1] at z; cases z)) fun _ _ _ q => by cases q
      · simp only [Bool.and_eq_true, decide_eq_true_eq] at h
        obtain ⟨⟨h1, h2⟩, h3⟩ := h
        obtain ⟨j, pp, rfl⟩ := isNoneE_ok h2
        obtain ⟨s, e2, ha⟩ := (chks_ok es c h3).one
        rw [e2]
        exact opT_ok c.hK (se_isN (is_ok c h1) ha.mo rfl) (fun _ => st_isN (is_ok c h1) ha.mo rfl) (fun z => (by rw [cmp_is h1] at z; cases z)) fun _ _ _ q => by cases q
    · rename_i a hv
      obtain ⟨p, rfl⟩ := vw_neg hv
      rw [Bool.and_eq_true] at h
      have h1 := of_decide_eq_true h.1
      subst h1
      obtain ⟨s, e2, ha⟩ := (chks_ok es c h.2).one
      rw [e2]
      exact opT_ok c.hK (se_neg (by rw [c.hK]; exact o_neg) ha.mo) (fun z => by cases z) (fun _ _ => rfl) fun _ _ _ q => by cases q
    · rename_i a b hv
      obtain ⟨⟨p, rfl⟩, hn⟩ := vw_ix hv
      rw [Bool.and_eq_true] at h
      have h1 := of_decide_eq_true h.1
      subst h1
      obtain ⟨s, u, e2, ha, hb⟩ := (chks_ok es c h.2).two
      rw [e2]
      have hu := c.hu
      exact opT_ok c.hK (se_idx (by rw [c.hK]; exact o_idx (by omega)) ha.mo hb.mo (pl_ix hn)) (fun z => by cases z) (fun _ _ => rfl) fun _ _ _ q => by cases q
    · rename_i a hv
      obtain ⟨p1, p2, p3, p, j, rfl⟩ := vw_slr hv
      rw [Bool.and_eq_true] at h
      have h1 := of_decide_eq_true h.1
      subst h1
      obtain ⟨s, e2, ha⟩ := (chks_ok es c h.2).one
      rw [e2]
      exact opT_ok c.hK (se_turn c.hK ha.mo) (fun z => by cases z) (fun _ _ => rfl) fun _ _ _ q => by cases q
    · rename_i x as hv
      obtain ⟨p, q, rfl⟩ := vw_call hv
      simp only [Bool.and_eq_true, Bool.or_eq_true] at h
      obtain ⟨⟨⟨h1, h2⟩, h3⟩, h4⟩ := h
      have hg := c.gl h1
      obtain ⟨d1, d2, d3⟩ := noDb_ok h2
      have hm := c.glo.free _ (of_decide_eq_true h3)
      rcases h4 with (⟨⟨h4, h5⟩, h6⟩ | ⟨⟨h4, h5⟩, h6⟩) | h4
      · have h4 := of_decide_eq_true h4
        obtain ⟨id, r1, r2⟩ := bT_ok c h4
        have hs := chks_ok es c h5
        generalize evs Φ es = zs at hs ⊢
        cases hs with
        | nil => simp at h6
        | cons g1 g2 g3 =>
          exact opT_ok c.hK (se_callB r1 hg hm r2 (SmsOk.os (.cons g1 g2 g3)) d3 d1 (star_nst g1) (g3.star1 _)) (fun z => (by rw [b_of h4] at z; cases z)) (fun _ _ => rfl) fun _ _ _ q => by cases q
      · have h4 := of_decide_eq_true h4
        obtain ⟨id, r1, r2⟩ := tT_ok c h4
        have hs := chks_ok es c h5
        generalize evs Φ es = zs at hs ⊢
        cases hs with
        | nil => simp at h6
        | cons g1 g2 g3 =>
          exact opT_ok c.hK (se_callTy r1 hg hm r2 (SmsOk.os (.cons g1 g2 g3)) d3 d1 (star_nst g1) (g3.star1 _)) (fun z => (by rw [t_of h4] at z; cases z)) (fun _ _ => rfl) fun _ _ _ q => by cases q
      · split at h4
        · rename_i b
          split at h4
          · rename_i y cs hy
            obtain ⟨p2, q2, rfl⟩ := vw_call hy
            simp only [Bool.and_eq_true, Bool.or_eq_true, decide_eq_true_eq] at h4
            obtain ⟨⟨⟨k1, k2⟩, k3⟩, k4⟩ := h4
            have hg2 := c.gl k1
            have hm2 := c.glo.free _ (of_decide_eq_true k2)
            have hu : X.A.units + 66 < cLine := c.hu
            rcases k4 with ⟨⟨⟨⟨rfl, rfl⟩, rfl⟩, k5⟩, k6⟩ | ⟨⟨⟨⟨rfl, rfl⟩, rfl⟩, k5⟩, k6⟩
            · match cs, k5 with
              | [a], _ =>
                have hsa := chks_ok es c k6
                have hn : nst a = true := by
                  generalize evs Φ es = zs at hsa
                  cases hsa with
                  | cons z _ _ => exact z
                obtain ⟨s, e2, ha⟩ := hsa.one
                rw [e2]
                exact opT_ok c.hK (se_listRg c.calm hg hm hg2 hm2 ha.mo (star_nst hn)) (fun z => by cases z) (fun _ _ => rfl) fun _ _ _ q => by cases q
            · match cs, k5 with
              | [a], _ =>
                have hsa := chks_ok es c k6
                have hn : nst a = true := by
                  generalize evs Φ es = zs at hsa
                  cases hsa with
                  | cons z _ _ => exact z
                obtain ⟨s, e2, ha⟩ := hsa.one
                rw [e2]
                exact opT_ok c.hK (se_sset c.hK c.calm (by have := c.room.un; omega) hg hm hg2 hm2 ha.mo (star_nst hn)) (fun z => by cases z) (fun _ _ => rfl) fun _ _ _ q => by cases q
          · cases h4
        · rename_i a t
          rw [Bool.or_eq_true] at h4
          rcases h4 with h4 | h4
          · simp only [Bool.and_eq_true, decide_eq_true_eq] at h4
            obtain ⟨⟨⟨⟨rfl, rfl⟩, k3⟩, k4⟩, k5⟩ := h4
            split at k3
            · rename_i hl
              obtain ⟨p2, rfl⟩ := vw_lst hl
              obtain ⟨s, e2, ha⟩ := (chks_ok es c k5).one
              rw [e2]
              exact opT_ok c.hK (se_sumL c.hK c.calm hg hm ha.mo (by rw [star_nst k4]; rfl)) (fun z => by cases z) (fun _ _ => rfl) fun _ _ _ q => by cases q
            · cases k3
          · rw [Bool.and_eq_true] at h4
            obtain ⟨h4, h5⟩ := h4
            have h4 := of_decide_eq_true h4
            subst h4
            split at h5
            · rename_i y hy
              obtain ⟨p2, rfl⟩ := vwN_ok hy
              simp only [Bool.and_eq_true] at h5
              obtain ⟨⟨⟨⟨⟨k1, k2⟩, k3⟩, k4⟩, k5⟩, k6⟩ := h5
              split at k4
              · rename_i ty hty
                have k4 := of_decide_eq_true k4
                subst k4
                obtain ⟨s, e2, ha⟩ := (chks_ok es c k5).one
                rw [e2]
                obtain ⟨f1, f2, f3⟩ := noDb_ok k2
                exact opT_ok c.hK (se_isi (by rw [c.hK]; exact c_isi) hg hm ha.mo (c.gl k1) (c.glo.free _ (of_decide_eq_true k3)) (ty_ok hty) f3 f1 (by rw [star_nst k6, star_nst (es := []) (e := .Name y p2) rfl]; rfl)) (fun z => by cases z) (fun _ _ => rfl) fun _ _ _ q => by cases q
              · cases k4
            · cases h5
        · cases h4
    · cases h
  | .tup es, X, C, sc, top, e, c, h => by
    unfold chk at h
    split at h
    · rename_i as hv
      obtain ⟨j, p, rfl⟩ := vw_tup hv
      exact SmOk.of c.hK (se_tup (chks_ok es c h).vs) (fun _ => rfl) fun _ _ _ q => by cases q
    · cases h
  | .lst es, X, C, sc, top, e, c, h => by
    unfold chk at h
    split at h
    · rename_i as hv
      obtain ⟨p, rfl⟩ := vw_lst hv
      exact SmOk.of c.hK (se_lst (chks_ok es c h).vs) (fun _ => rfl) fun _ _ _ q => by cases q
    · cases h
  | .dict0, X, C, sc, top, e, c, h => by
    unfold chk at h
    split at h
    · rename_i hv
      obtain ⟨p, rfl⟩ := vw_dict0 hv
      exact SmOk.of c.hK se_dict0 (fun _ => rfl) fun _ _ _ q => by cases q
    · cases h
  | .one a, X, C, sc, top, e, c, h => by
    unfold chk at h
    split at h
    · rename_i bop x hv
      obtain ⟨p, rfl⟩ := vw_bl1 hv
      have ha := chk_ok a c h
      have hw : PW X (.BoolOp bop [x] p) (tT C (ev Φ a).t) := by
        cases bop with
        | And => exact pw_and1 ha.mt
        | Or => exact pw_or1 ha.mt
      exact ⟨pe_one ha.me, hw.pt, se_opd (pe_one ha.me), se_opd (pe_one ha.me), sa_val (pe_one ha.me), fun _ => hw⟩
    · cases h
  | .and a b, X, C, sc, top, e, c, h => by
    unfold chk at h
    split at h
    · rename_i x y rest pos hv
      obtain rfl := vw_bl hv
      rw [Bool.and_eq_true] at h
      have ha := chk_ok a c h.1
      have hb := chk_ok b c h.2
      have hw := st_and ha.mt (hb.mw ⟨_, _, _, rfl⟩)
      have he := se_and c.hK ha.me hb.me
      exact ⟨he, hw.pt, se_opd he, se_opd he, sa_val he, fun _ => hw⟩
    · cases h
  | .or a b, X, C, sc, top, e, c, h => by
    unfold chk at h
    split at h
    · rename_i x y rest pos hv
      obtain rfl := vw_bl hv
      rw [Bool.and_eq_true] at h
      have ha := chk_ok a c h.1
      have hb := chk_ok b c h.2
      have hw := st_or ha.mt (hb.mw ⟨_, _, _, rfl⟩)
      have he := se_or c.hK ha.me hb.me
      exact ⟨he, hw.pt, se_opd he, se_opd he, sa_val he, fun _ => hw⟩
    · cases h
  | .not a, X, C, sc, top, e, c, h => by
    unfold chk at h
    split at h
    · rename_i x hv
      obtain ⟨p, rfl⟩ := vw_not hv
      have ha := chk_ok a c h
      exact SmOk.ofT (se_not c.hK ha.mo) (st_not ha.mt) fun _ _ _ q => by cases q
    · cases h
  | .ite c' a b, X, C, sc, top, e, c, h => by
    unfold chk at h
    split at h
    · rename_i x y z hv
      obtain ⟨p, rfl⟩ := vw_ite hv
      simp only [Bool.and_eq_true] at h
      have hc := chk_ok c' c h.1.1
      have ha := chk_ok a c h.1.2
      have hb := chk_ok b c h.2
      exact SmOk.ofT (se_if hc.mt ha.me hb.me) pt_stuck fun _ _ _ q => by cases q
    · cases h
  | .chain o o' a b d, X, C, sc, top, e, c, h => by
    unfold chk at h
    split at h
    · rename_i o1 o2 x y z hv
      obtain ⟨p, rfl⟩ := vw_cmp2 hv
      simp only [Bool.and_eq_true, decide_eq_true_eq] at h
      obtain ⟨⟨⟨⟨⟨h1, h2⟩, h3⟩, h4⟩, h5⟩, h6⟩ := h
      have ha := chk_ok a c h4
      have hb := chk_ok b c h5
      have hd := chk_ok d c h6
      have hm : lastMarks [o1, o2] [y, z] = false := nomark h3
      exact SmOk.ofT (se_chain (cmp_ok c h1) (cmp_ok c h2) ha.mo hb.mo hd.mo hm) (st_chain (cmp_ok c h1) (cmp_ok c h2) ha.mo hb.mo hd.mo hm) fun _ _ _ q => by cases q
    · cases h
  | .sl lo hi es, X, C, sc, top, e, c, h => by
    unfold chk at h
    split at h
    · rename_i a l hh hv
      obtain ⟨p, p2, rfl⟩ := vw_sl hv
      split at h
      · obtain ⟨s, e2, ha⟩ := (chks_ok es c h).one
        show SmOk X C _ (Sm.mk' (evSl _ _ (evs Φ es)))
        rw [e2]
        exact sl_ok c ha.mo sp_none sp_none
      · obtain ⟨s, u, e2, ha, hb⟩ := (chks_ok es c h).two
        show SmOk X C _ (Sm.mk' (evSl _ _ (evs Φ es)))
        rw [e2]
        exact sl_ok c ha.mo (sp_some hb.mo) sp_none
      · obtain ⟨s, u, e2, ha, hb⟩ := (chks_ok es c h).two
        show SmOk X C _ (Sm.mk' (evSl _ _ (evs Φ es)))
        rw [e2]
        exact sl_ok c ha.mo sp_none (sp_some hb.mo)
      · obtain ⟨s, u, v, e2, ha, hb, hd⟩ := (chks_ok es c h).three
        show SmOk X C _ (Sm.mk' (evSl _ _ (evs Φ es)))
        rw [e2]
        exact sl_ok c ha.mo (sp_some hb.mo) (sp_some hd.mo)
      · cases h
    · cases h
  | .call f es, X, C, sc, top, e, c, h => by
    unfold chk at h
    split at h
    · rename_i x as hv
      obtain ⟨p, q, rfl⟩ := vw_call hv
      simp only [Bool.and_eq_true] at h
      obtain ⟨⟨⟨h1, h2⟩, h3⟩, h4⟩ := h
      split at h3
      · rename_i y n hf
        simp only [Bool.and_eq_true, decide_eq_true_eq] at h3
        obtain ⟨rfl, h3⟩ := h3
        obtain ⟨fa, fd, ps, m1, m2, m3, m4, F⟩ := c.glo.fn _ _ _ hf
        have hs := chks_ok es c h4
        have F' : FnG X.prog X.w X.K X.mg X.base k fa fd ps (spF C n (Φ f)) := by
          have e1 : (spF C n (Φ f)) = (spF ⟨X.K, C.CA, fun _ _ _ _ => False⟩ n (Φ f)) := by
            obtain ⟨CK, CCA, CE⟩ := C
            have := c.hK
            subst this
            rfl
          rw [e1]
          exact F
        obtain ⟨d1, d2, d3⟩ := noDb_ok h2
        show SmOk X C _ (Sm.mk' (mCall (Φ f) ((evs Φ es).map Sm.a)))
        generalize evs Φ es = zs at hs ⊢
        have key : PE X (.Call (.Name y q) as [] p) (tE C (mCall (Φ f) (zs.map Sm.a))) := by
          cases hs with
          | nil =>
            subst h3
            exact se_call0 F' c.room c.gd (c.gl h1) m1 m2 m3 c.tk d1
          | cons g1 g2 g3 =>
            refine se_call F' c.room c.gd (c.gl h1) m1 m2 m3 c.tk (SmsOk.as (.cons g1 g2 g3)) ?_ d1 (star_nst g1) (g3.star1 _)
            rw [← h3, List.length_map]
            clear h3 F F' h4 m4
            have : ∀ {es : List Expr} {ss : List Sm}, SmsOk X C es ss → ss.length = es.length := fun {es ss} h => by
              induction h with
              | nil => rfl
              | cons _ _ _ ih => exact congrArg (· + 1) ih
            exact congrArg (· + 1) (this g3)
        exact SmOk.of c.hK key (fun _ => rfl) fun _ _ _ q => by cases q
      · cases h3
    · cases h
  | .mu m i es, X, C, sc, top, e, c, h => by
    unfold chk at h
    split at h
    · rename_i o name as apos cpos hv
      obtain rfl := vw_mth hv
      simp only [Bool.and_eq_true, decide_eq_true_eq] at h
      obtain ⟨⟨⟨⟨⟨h1, h2⟩, h3⟩, h4⟩, h5⟩, h6⟩ := h
      split at h2
      · rename_i x hx
        obtain ⟨p, rfl⟩ := vwN_ok hx
        simp only [Bool.and_eq_true] at h2
        have ho := c.vis (p := p) h2.1.1 h2.1.2 h2.2
        subst h1
        have hs := chks_ok es c h5
        · obtain ⟨id, r1, r2, r3⟩ := m_of c h6
          show SmOk X C _ (Sm.mk' (mMu m i ((evs Φ es).map Sm.v)))
          generalize evs Φ es = zs at hs ⊢
          have key : PE X (.Call (.Attribute (.Name x p) (muTab m) apos) as [] cpos) (tE C (mMu m i (zs.map Sm.v))) := by
            cases hs with
            | nil => exact se_mu0 c.hK PySem.F.plainAttrs_list r1 r2 r3 ho rfl (by simp [h3])
            | cons g1 g2 g3 =>
              have z := SmsOk.star (.cons g1 g2 g3)
              refine se_mu c.hK PySem.F.plainAttrs_list r1 r2 r3 ho (SmsOk.vs (.cons g1 g2 g3)) rfl ?_ (by simp [h3]) (star_nst g1) (g3.star1 _)
              rw [bk_false _ z]
              simp only [List.length_cons] at h4 ⊢
              show (true && (backToKw cpos (keywordEach [] X.env)).all _ && _) = true
              simp [keywordEach, backToKw]
              omega
          exact SmOk.of c.hK key (fun _ => rfl) fun _ _ _ q => by cases q
      · cases h2
    · cases h
  | .lc own kk it tg ifs elt, X, C, sc, top, e, c, h => by
    unfold chk at h
    split at h
    · rename_i elt' tg' it' ifs' scope hv
      obtain ⟨p, rfl⟩ := vw_lc hv
      simp only [Bool.and_eq_true, decide_eq_true_eq] at h
      obtain ⟨⟨⟨⟨⟨⟨h1, h2⟩, h3⟩, h4⟩, h5⟩, h6⟩, h7⟩ := h
      have ok := blkB_ok h1
      have okX : BlkOk X.N X.env.scope scope own := by rw [c.hN, c.hsc]; exact ok
      exact SmOk.of c.hK (se_lc c.calm (by rw [c.hN]; exact c.nd) (chkIt_of it kk c (fun h => chks_ok it c h) h2) okX (fun s H L cl fp => tg_ok (c.blk ok s H L cl fp) h3) (fun s H L cl fp => ifs_ok (chks_ok ifs (c.blk ok s H L cl fp) h4) h5)
        (fun s H L cl fp => (chk_ok elt (c.blk ok s H L cl fp) h6).me) (fset h7)) (fun _ => rfl) fun _ _ _ q => by cases q
    · cases h
  | .kix x tab a, X, C, sc, top, e, c, h => by
    unfold chk at h
    split at h
    · rename_i o b hv
      obtain ⟨⟨p, rfl⟩, hn⟩ := vw_ix hv
      simp only [Bool.and_eq_true, decide_eq_true_eq] at h
      obtain ⟨⟨⟨⟨h1, h2⟩, h3⟩, h4⟩, h5⟩ := h
      obtain ⟨q, rfl⟩ := vwN_ok h1
      split at h4
      · rename_i t ht
        cases beqT_eq h4
        obtain ⟨d, m1, m2⟩ := c.glo.kds _ _ ht
        exact SmOk.of c.hK (se_kix c.hK m2 (c.gl h2) m1 (noDb_ok h3).1 (chk_ok a c h5).mo (pl_ix hn)) (fun _ => rfl) fun _ _ _ q => by cases q
      · cases h4
    · cases h
  | .kin neg x tab a, X, C, sc, top, e, c, h => by
    unfold chk at h
    split at h
    · rename_i cop b o hv
      obtain ⟨p, rfl⟩ := vw_cmp1 hv
      simp only [Bool.and_eq_true, decide_eq_true_eq] at h
      obtain ⟨⟨⟨⟨⟨h1, h2⟩, h3⟩, h4⟩, h5⟩, h6⟩ := h
      obtain ⟨q, rfl⟩ := vwN_ok h1
      split at h4
      · rename_i t ht
        cases beqT_eq h4
        obtain ⟨d, m1, m2⟩ := c.glo.kds _ _ ht
        obtain ⟨r1, r2⟩ := se_kin (pos := p) (q := q) h6 c.hK m2 (c.gl h2) m1 (noDb_ok h3).1 (chk_ok a c h5).mo
        exact SmOk.ofT r1 r2 fun _ _ _ q => by cases q
      · cases h4
    · cases h
  | .upd i es, X, C, sc, top, e, c, h => by
    unfold chk at h
    split at h
    · rename_i o name as apos cpos hv
      obtain rfl := vw_mth hv
      simp only [Bool.and_eq_true, decide_eq_true_eq] at h
      obtain ⟨⟨⟨⟨⟨rfl, h2⟩, h3⟩, h4⟩, h5⟩, h6⟩ := h
      split at h2
      · rename_i x hx
        obtain ⟨p, rfl⟩ := vwN_ok hx
        simp only [Bool.and_eq_true] at h2
        have ho := c.vis (p := p) h2.1.1 h2.1.2 h2.2
        have hs := chks_ok es c h5
        show SmOk X C _ (Sm.mk' (mUpd i ((evs Φ es).map Sm.v)))
        generalize evs Φ es = zs at hs ⊢
        cases hs with
        | nil => cases h6
        | cons g1 g2 g3 =>
          have z := SmsOk.star (.cons g1 g2 g3)
          refine SmOk.of c.hK (se_upd c.hK ho (SmsOk.vs (.cons g1 g2 g3)) rfl ?_ (by simp [h3]) (star_nst g1) (g3.star1 _)) (fun _ => rfl) fun _ _ _ q => by cases q
          rw [bk_false _ z]
          simp only [List.length_cons] at h4 ⊢
          show (true && (backToKw cpos (keywordEach [] X.env)).all _ && _) = true
          simp [keywordEach, backToKw]
          omega
      · cases h2
    · cases h
  | .dc own kk it tg ifs key val, X, C, sc, top, e, c, h => by
    unfold chk at h
    split at h
    · rename_i key' val' tg' it' ifs' scope hv
      obtain ⟨p, rfl⟩ := vw_dc hv
      simp only [Bool.and_eq_true, decide_eq_true_eq] at h
      obtain ⟨⟨⟨⟨⟨⟨⟨h1, h2⟩, h3⟩, h4⟩, h5⟩, h6⟩, h7⟩, h8⟩ := h
      have ok := blkB_ok h1
      have okX : BlkOk X.N X.env.scope scope own := by rw [c.hN, c.hsc]; exact ok
      exact SmOk.of c.hK (se_dc c.calm (by rw [c.hN]; exact c.nd) (chkIt_of it kk c (fun h => chks_ok it c h) h2) okX (fun s H L cl fp => tg_ok (c.blk ok s H L cl fp) h3) (fun s H L cl fp => ifs_ok (chks_ok ifs (c.blk ok s H L cl fp) h4) h5)
        (fun s H L cl fp => (chk_ok key (c.blk ok s H L cl fp) h6).me) (fun s H L cl fp => (chk_ok val (c.blk ok s H L cl fp) h7).me) (fset h8)) (fun _ => rfl) fun _ _ _ q => by cases q
    · cases h
  | .dc2 own own2 kk it tg ifs k2 it2 tg2 ifs2 key val, X, C, sc, top, e, c, h => by
    unfold chk at h
    split at h
    · rename_i key' val' tg' it' ifs' tg2' it2' ifs2' scope hv
      obtain ⟨p, rfl⟩ := vw_dc2 hv
      simp only [Bool.and_eq_true, decide_eq_true_eq] at h
      obtain ⟨⟨⟨⟨⟨⟨⟨⟨⟨⟨⟨⟨⟨h1, h0⟩, h2⟩, h3⟩, h4⟩, h5⟩, g2⟩, g3⟩, g4⟩, g5⟩, h6⟩, h7⟩, h8⟩, h9⟩ := h
      have ok := blkB_ok h1
      have okX : BlkOk X.N X.env.scope scope own := by rw [c.hN, c.hsc]; exact ok
      have sub : ∀ i ∈ own2.map (·.2), i ∈ own.map (·.2) := fun i hi => by
        obtain ⟨q, hq, rfl⟩ := List.mem_map.mp hi
        exact List.mem_map.mpr ⟨q, h0 q hq, rfl⟩
      exact SmOk.of c.hK (se_dc2 c.calm (by rw [c.hN]; exact c.nd) (chkIt_of it kk c (fun h => chks_ok it c h) h2) okX sub (fun s H L cl fp => tg_ok (c.blk ok s H L cl fp) h3) (fun s H L cl fp => ifs_ok (chks_ok ifs (c.blk ok s H L cl fp) h4) h5)
        (fun s H L cl fp => chkIt_of it2 k2 (c.blk ok s H L cl fp) (fun h => chks_ok it2 (c.blk ok s H L cl fp) h) g2) (fun s H L cl fp => tg_ok (c.blk ok s H L cl fp) g3) (fun s H L cl fp => ifs_ok (chks_ok ifs2 (c.blk ok s H L cl fp) g4) g5)
        (fun s H L cl fp => (chk_ok key (c.blk ok s H L cl fp) h6).me) (fun s H L cl fp => (chk_ok val (c.blk ok s H L cl fp) h7).me) (fset h8) fun e x => by
          cases it2' <;> first | rfl | cases h9) (fun _ => rfl) fun _ _ _ q => by cases q
    · cases h
theorem chks_ok : ∀ (ies : IEs) {X : Cx} {C : Wd} {sc : Scope} {top : Str → Bool} {es : List Expr}, Ct G k Φ X C sc N top → chks G sc N ies es = true → SmsOk X C es (evs Φ ies)
  | .nil, X, C, sc, top, es, c, h => by
    unfold chks at h
    cases es with
    | nil => exact .nil
    | cons _ _ => cases h
  | .cons a as, X, C, sc, top, es, c, h => by
    unfold chks at h
    cases es with
    | nil => cases h
    | cons e es =>
      simp only [Bool.and_eq_true] at h
      exact .cons h.1.1 (chk_ok a c h.1.2) (chks_ok as c h.2)
end
theorem chkIt_ok (ies : IEs) (kk : ItK) {X : Cx} {C : Wd} {sc : Scope} {top : Str → Bool} {tg e : Expr} (c : Ct G k Φ X C sc N top) (h : chkIt G sc N ies kk e = true) : PI X tg e (tIt C (evIt kk (evs Φ ies))) :=
  chkIt_of ies kk c (fun h => chks_ok ies c h) h
end
end VS
set_option Elab.async false
set_option linter.all false
set_option maxRecDepth 100000
set_option maxHeartbeats 2000000
/-! The VS layer, part S: statements: shapes, the check. -/
namespace VS
open PySem PySem.Spec PyProof.Rows L2
/-- a statement's shape -/
inductive Sw where
  | nop
  | brk
  | cont
  | asg (t v : Expr) (pos : Pos)
  | aug (o k : Expr) (op : Operator) (v : Expr)
  | ite (c : Expr) (a b : List Stmt)
  | whl (c : Expr) (b : List Stmt)
  | for (tg it : Expr) (b : List Stmt)
  | ret (e : Expr)
  | retN
  | raise (e : Expr)
  | tr (b : List Stmt) (x : Str) (s0 : Stmt) (su : List Stmt)
  | drop (e : Expr) (pos : Pos)
  | oth
def docB : Expr → Pos → Bool
  | .Constant (.str _) _ _, _ => true
  | _, _ => false
def sw : Stmt → Sw
  | .Pass _ => .nop
  | .Break _ => .brk
  | .Continue _ => .cont
  | .Expr e pos => .drop e pos
  | .Assign ts v pos => match ts with
    | [t] => .asg t v pos
    | _ => .oth
  | .AugAssign t op v _ => match t with
    | .Subscript o k _ => .aug o k op v
    | _ => .oth
  | .If c a b _ => .ite c a b
  | .While c b els _ => match els with
    | [] => .whl c b
    | _ => .oth
  | .For tg it b els _ => match els with
    | [] => .for tg it b
    | _ => .oth
  | .Return v _ => match v with
    | some e => .ret e
    | none => .retN
  | .Raise e c _ => match e, c with
    | some e, none => .raise e
    | _, _ => .oth
  | .Try b hs els fin _ => match hs, els, fin with
    | [.ExceptHandler (some (.Name x _)) none (s0 :: su) _], [], [] => .tr b x s0 su
    | _, _, _ => .oth
  | _ => .oth
section
variable {s s0 : Stmt} {t v e o kk c tg it : Expr} {pos : Pos} {a b su : List Stmt} {op : Operator} {x : Str}
theorem sw_nop (h : sw s = .nop) : ∃ p, s = .Pass p := by
  unfold sw at h
  repeat' (split at h)
  all_goals first | (cases h; exact ⟨_, rfl⟩) | cases h
theorem sw_brk (h : sw s = .brk) : ∃ p, s = .Break p := by
  unfold sw at h
  repeat' (split at h)
  all_goals first | (cases h; exact ⟨_, rfl⟩) | cases h
theorem sw_cont (h : sw s = .cont) : ∃ p, s = .Continue p := by
  unfold sw at h
  repeat' (split at h)
  all_goals first | (cases h; exact ⟨_, rfl⟩) | cases h
theorem sw_drop (h : sw s = .drop e pos) : s = .Expr e pos := by
  unfold sw at h
  repeat' (split at h)
  all_goals first | (cases h; rfl) | cases h
theorem sw_asg (h : sw s = .asg t v pos) : s = .Assign [t] v pos := by
  unfold sw at h
  repeat' (split at h)
  all_goals first | (cases h; rfl) | cases h
theorem sw_aug (h : sw s = .aug o kk op v) : ∃ p p2, s = .AugAssign (.Subscript o kk p) op v p2 := by
  unfold sw at h
  repeat' (split at h)
  all_goals first | (cases h; exact ⟨_, _, rfl⟩) | cases h
theorem sw_ite (h : sw s = .ite c a b) : ∃ p, s = .If c a b p := by
  unfold sw at h
  repeat' (split at h)
  all_goals first | (cases h; exact ⟨_, rfl⟩) | cases h
theorem sw_whl (h : sw s = .whl c b) : ∃ p, s = .While c b [] p := by
  unfold sw at h
  repeat' (split at h)
  all_goals first | (cases h; exact ⟨_, rfl⟩) | cases h
theorem sw_for (h : sw s = .for tg it b) : ∃ p, s = .For tg it b [] p := by
  unfold sw at h
  repeat' (split at h)
  all_goals first | (cases h; exact ⟨_, rfl⟩) | cases h
theorem sw_ret (h : sw s = .ret e) : ∃ p, s = .Return (some e) p := by
  unfold sw at h
  repeat' (split at h)
  all_goals first | (cases h; exact ⟨_, rfl⟩) | cases h
theorem sw_retN (h : sw s = .retN) : ∃ p, s = .Return none p := by
  unfold sw at h
  repeat' (split at h)
  all_goals first | (cases h; exact ⟨_, rfl⟩) | cases h
theorem sw_raise (h : sw s = .raise e) : ∃ p, s = .Raise (some e) none p := by
  unfold sw at h
  repeat' (split at h)
  all_goals first | (cases h; exact ⟨_, rfl⟩) | cases h
theorem sw_tr (h : sw s = .tr b x s0 su) : ∃ p p2 p3, s = .Try b [.ExceptHandler (some (.Name x p)) none (s0 :: su) p2] [] [] p3 := by
  unfold sw at h
  repeat' (split at h)
  all_goals first | (cases h; exact ⟨_, _, _, rfl⟩) | cases h
end
/-! ### the stores' order -/
/-- the names a comprehension's block has -/
def cscope : Expr → Option Scope
  | .ListComp _ _ s _ => some s
  | .SetComp _ _ s _ => some s
  | .DictComp _ _ _ s _ => some s
  | _ => none
def swapB (sc : Scope) (x : Str) (px : Pos) (v : Expr) : Bool := match cscope v with
  | some s => sc.names.lookup x == some .local && px.line == v.pos.line && !(s.names.any fun (n, k) => n == x && (k == .local || k == .cell))
  | none => false
theorem swap_is {env : PySem.Env} {x : Str} {px : Pos} {v : Expr} {line : Nat} (h : env.blockKind = .function) : swapsWith v (some (.Name x px)) line env = pure (swapB env.scope x px v) := by
  cases v <;> simp [swapsWith, swapB, cscope, h, Env.kindOf]
theorem swap_none {env : PySem.Env} {v : Expr} {line : Nat} (h : cscope v = none) : swapsWith v none line env = pure false := by
  cases v <;> first | rfl | cases h
/-- a target that is no name -/
theorem swap_oth {env : PySem.Env} {t v : Expr} {line : Nat} (h : ∀ x p, t ≠ .Name x p) : swapsWithSole [t] v line env = pure false := by
  show swapsWith v (some t) line env = _
  cases t <;> (first | exact absurd rfl (h _ _) | (cases v <;> rfl))
def isTup : Expr → Bool
  | .Tuple _ _ _ => true
  | _ => false
def isSub : Expr → Bool
  | .Subscript _ _ _ => true
  | _ => false
theorem sws_tup {env : PySem.Env} {t v : Expr} (h : isTup v = false) (h2 : ∀ es p, t ≠ .List es p) : swappedStores [t] v env = pure none := by
  cases t <;> (first | rfl | exact absurd rfl (h2 _ _) | (cases v <;> first | rfl | cases h))
/-- a, b = .. stored in the other order, as the text says -/
def isStar : Expr → Bool
  | .Starred _ _ => true
  | _ => false
def nmL (sc : Scope) (line : Nat) : Expr → Option Str
  | .Name id pos => if sc.names.lookup id == some .local && pos.line == line then some id else none
  | _ => none
def swR (sc : Scope) (ts vs : List Expr) : Option (Option (List Str)) :=
  if (!(ts.length == 2 || ts.length == 3) || vs.length != ts.length) = true then some none
  else if vs.any isStar = true then some none
  else if ((ts.filterMap (nmL sc ((ts.head?.map (·.pos.line)).getD 0))).length != ts.length || (ts.filterMap (nmL sc ((ts.head?.map (·.pos.line)).getD 0))).eraseDups.length != (ts.filterMap (nmL sc ((ts.head?.map (·.pos.line)).getD 0))).length) = true then some none
  else if vs.all (foldedForSure 8) = true then some none
  else if vs.all (constantsAlone 8) = true then none
  else some (some (ts.filterMap (nmL sc ((ts.head?.map (·.pos.line)).getD 0))))
theorem sws_is (env : PySem.Env) (ts vs : List Expr) (kt k2 : Nat) (pt pt2 : Pos) : swappedStores [.Tuple ts kt pt] (.Tuple vs k2 pt2) env =
    (if (!(ts.length == 2 || ts.length == 3) || vs.length != ts.length || env.blockKind != .function) = true then pure none
    else if vs.any isStar = true then pure none
    else if ((ts.filterMap (nmL env.scope ((ts.head?.map (·.pos.line)).getD 0))).length != ts.length || (ts.filterMap (nmL env.scope ((ts.head?.map (·.pos.line)).getD 0))).eraseDups.length != (ts.filterMap (nmL env.scope ((ts.head?.map (·.pos.line)).getD 0))).length) = true then pure none
    else if vs.all (foldedForSure 8) = true then pure none
    else if vs.all (constantsAlone 8) = true then (do unsupported "assign.tuple-of-constant-expressions:order-of-the-stores"; pure (some (ts.filterMap (nmL env.scope ((ts.head?.map (·.pos.line)).getD 0)))))
    else pure (some (ts.filterMap (nmL env.scope ((ts.head?.map (·.pos.line)).getD 0))))) := by rfl
theorem swR_is {env : PySem.Env} {ts vs : List Expr} {kt k2 : Nat} {pt pt2 : Pos} {r : Option (List Str)} (hb : env.blockKind = .function) (h : swR env.scope ts vs = some r) : swappedStores [.Tuple ts kt pt] (.Tuple vs k2 pt2) env = pure r := by
  rw [sws_is]
  unfold swR at h
  have e : (env.blockKind != .function) = false := by rw [hb]; rfl
  rw [e, Bool.or_false]
  generalize (ts.filterMap (nmL env.scope ((ts.head?.map (·.pos.line)).getD 0))) = ns at h ⊢
  split at h
  · rename_i c
    cases h
    rw [if_pos c]
  · rename_i c
    rw [if_neg c]
    split at h
    · rename_i c2
      cases h
      rw [if_pos c2]
    · rename_i c2
      rw [if_neg c2]
      split at h
      · rename_i c3
        cases h
        rw [if_pos c3]
      · rename_i c3
        rw [if_neg c3]
        split at h
        · rename_i c4
          cases h
          rw [if_pos c4]
        · rename_i c4
          rw [if_neg c4]
          split at h
          · cases h
          · rename_i c5
            cases h
            rw [if_neg c5]
end VS
set_option Elab.async false
set_option linter.all false
set_option maxRecDepth 100000
set_option maxHeartbeats 2000000
/-! The VS layer, part T: statements: the check, and that it is right. -/
namespace VS
open PySem PySem.Spec PyProof.Rows L2
/-- a def makes all its cells -/
def allT : Str → Bool := fun _ => true
/-- what an except suite may hold: constants, names, tuples of them -/
def lightE : IE → Bool
  | .lit _ => true
  | .slot _ => true
  | _ => false
def lightS : ISs → Bool
  | .cons (.ret e) .nil => lightE e
  | .cons .nop .nil => true
  | .cons .cont .nil => true
  | .cons .brk .nil => true
  | _ => false
/-- in what order a, b = .. stores -/
def swOk (sc : Scope) (N : List Str) (ts vs : List Expr) (is : List Nat) : Bool := match swR sc ts vs with
        | some none => true
        | some (some ns) => decide (ns.length = is.length) && ns.all (lclB sc) && decide (is.Nodup) && (ns.zip is).all (fun p => atB N p.2 p.1) && (match ts with
          | [t, u] => decide (vwN t = ns[0]?) && decide (vwN u = ns[1]?) && decide (ns.length = 2)
          | [t, u, w] => decide (vwN t = ns[0]?) && decide (vwN u = ns[1]?) && decide (vwN w = ns[2]?) && decide (ns.length = 3)
          | _ => false)
        | none => false
/-- is it a list comprehension -/
def isLc : IE → Bool
  | .lc _ _ _ _ _ _ => true
  | _ => false
mutual
def chkS (G : GI) (sc : Scope) (N : List Str) : IS → Stmt → Bool
  | .nop, s => match sw s with
    | .nop => true
    | .drop e p => docB e p
    | _ => false
  | .brk, s => match sw s with
    | .brk => true
    | _ => false
  | .cont, s => match sw s with
    | .cont => true
    | _ => false
  | .set i e, s => match sw s with
    | .asg t v pos => (match t with
      | .Name x px => atB N i x && locB sc true x && (!(swapB sc x px v) || (lclB sc x && isLc e))
      | _ => false) && chk G sc N e v
    | _ => false
  | .asg tg e, s => match sw s with
    | .asg t v pos => isTup t && tgB sc N allT tg t && !(isTup v) && chk G sc N e v
    | _ => false
  | .par is es, s => match sw s with
    | .asg t v pos => match vw t, vw v with
      | .tup ts, .tup vs => isTup t && isTup v && nmsB sc N allT ts is && decide (is.length ≤ 50) && chks G sc N es vs && swOk sc N ts vs is
      | _, _ => false
    | _ => false
  | .store c k v, s => match sw s with
    | .asg t e pos => match vw t with
      | .ix o kk => isSub t && chk G sc N c o && chk G sc N k kk && chk G sc N v e
      | _ => false
    | _ => false
  | .augS op c k v, s => match sw s with
    | .aug o kk bop e => ((decide (bop = .Add) && decide (op = .add)) || (decide (bop = .Sub) && decide (op = .sub))) && plainIxB kk && chk G sc N c o && chk G sc N k kk && chk G sc N v e
    | _ => false
  | .ite c a b, s => match sw s with
    | .ite x y z => chk G sc N c x && chkSs G sc N a y && chkSs G sc N b z
    | _ => false
  | .whl n c b, s => match sw s with
    | .whl x y => chk G sc N c x && chkSs G sc N b y
    | _ => false
  | .for k it tg b, s => match sw s with
    | .for x y z => chkIt G sc N it k y && tgB sc N allT tg x && noSet y && chkSs G sc N b z
    | _ => false
  | .ret e, s => match sw s with
    | .ret x => chk G sc N e x
    | _ => false
  | .retN, s => match sw s with
    | .retN => true
    | _ => false
  | .raise c, s => match sw s with
    | .raise e => match vw e with
      | .call x as => glB sc x && noDb x && decide (as.length = 0) && decide (G.clss[c]? = some x)
      | _ => false
    | _ => false
  | .tr c b su, s => match sw s with
    | .tr bs x s0 ss => glB sc x && noDb x && decide (G.clss[c]? = some x) && chkSs G sc N b bs && lightS su && chkSs G sc N su (s0 :: ss)
    | _ => false
  | .drop e, s => match sw s with
    | .drop x pos => (cscope x).isNone && chk G sc N e x
    | _ => false
def chkSs (G : GI) (sc : Scope) (N : List Str) : ISs → List Stmt → Bool
  | .nil, ss => ss.isEmpty
  | .cons a as, ss => match ss with
    | s :: ss => chkS G sc N a s && chkSs G sc N as ss
    | [] => false
end
section
variable {G : GI} {k : Nat} {Φ : Nat → FS} {X : Cx} {C : Wd} {sc : Scope} {N : List Str} {e : Expr} {es : List Expr} {lk : Lks}
/-- what is around a def's statements -/
structure CtS (G : GI) (k : Nat) (Φ : Nat → FS) (X : Cx) (C : Wd) (sc : Scope) (N : List Str) : Prop where
  ct : Ct G k Φ X C sc N allT
  st : X.stack = X.env :: X.outer
  fr : X.env.frame = some X.env.locals
  po : PassesOwn (model X.prog X.w) X.A X.env X.xe
/-- within a try -/
theorem CtS.tr (c : CtS G k Φ X C sc N) {W : WX} {pn : List (Addr × Obj)} {xe : Value → Shared → Prop} (tk : Takes (X.tr pn xe) W) (po : PassesOwn (model X.prog X.w) X.A X.env xe) : CtS G k Φ (X.tr pn xe) { C with E := W } sc N :=
  ⟨⟨c.ct.hsc, c.ct.hN, c.ct.nd, c.ct.hK, c.ct.calm, c.ct.room, c.ct.gd, tk, c.ct.fn, c.ct.kd, c.ct.glo⟩, c.st, c.fr, po⟩
theorem pmk_own0 {cA : Addr} {bmB : List Value} {B newId initId : String} {x : Str} {p pos : Pos} (F : ExcBaseFacts B newId initId bmB) (q : PySem.W.excIn X.K cA bmB newId = true) (gC : X.mg x = some (.ref cA))
    (kC : PySem.W.keepIn X.K (.ref cA) = true) (r : Raises X (.ref cA)) (hg : Gl X x) (hdb : (x == ("__debug__" : Str)) = false) :
    PMk X (.Call (.Name x p) [] [] pos) (fun _ H Q => Q (.ref cA) none H) := by
  intro pins s σ H Q I h
  refine wpAny_Call_Name_kw (ld_glob I hg gC ?_ hdb)
  refine PySem.W.callWith_K0 I.kIn kC ?_
  show wpAny _ _ (call (.ref cA) []) _ _ _
  obtain ⟨bm, N, nm, qn, bs, hdct, sn, sub, ab, col, dd, k0, k1, k2, k3, k5, mN, hC, hN, hni, T⟩ := exc_obj I.kIn q
  refine wpAny_call_exc_subT F T hC hN hni (fun h' e hm => ?_) (Nat.zero_le _)
  exact mk_of I hm r h (I.hok.gone hm.new)
theorem light_ok (hK : C.K = X.K) (hN : X.N = N) (hsc : X.env.scope = sc) {ie : IE} (h1 : lightE ie = true) (h : chk G sc N ie e = true) (hg : ∀ x d, G.cons.lookup x = some d → ∃ v u, X.mg x = some u ∧ RelV v u ∧ ∀ B H, Dn C.K B H v d) : PE X e (tE C (ev Φ ie).e) := by
  cases ie <;> first | (cases h1; done) | skip
  · rename_i d
    unfold chk at h
    split at h
    · rename_i cc hv
      obtain ⟨j, p, rfl⟩ := vw_con hv
      show PE X _ (tE C (mLit d))
      unfold litB at h
      cases cc <;> simp only [conD] at h <;> (try (cases h)) <;> (cases beqD_eq h)
      · exact se_lit pe_non fun _ _ => .non
      · exact se_lit pe_bl fun _ _ => .bl _
      · exact se_lit pe_int fun _ _ => .int _
      · exact se_lit pe_str fun _ _ => .str _
    · rename_i x hv
      obtain ⟨p, rfl⟩ := vw_name hv
      simp only [Bool.and_eq_true] at h
      obtain ⟨⟨h1, h2⟩, h3⟩ := h
      split at h3
      · rename_i d' hd
        cases beqD_eq h3
        obtain ⟨v, u, m1, m2, m3⟩ := hg _ _ hd
        exact se_lit (pe_glob (by show X.env.scope.names.lookup x = _; rw [hsc]; exact glB_ok h1) m1 m2 (noDb_ok h2).1) m3
      · cases h3
    · cases h
  · rename_i i
    unfold chk at h
    split at h
    · rename_i x hv
      obtain ⟨p, rfl⟩ := vwN_ok hv
      simp only [Bool.and_eq_true] at h
      obtain ⟨a, b, _⟩ := noDb_ok h.2
      exact se_slot (pe_var (by rw [hN]; exact atB_ok h.1.1) (by rw [hsc]; exact visB_ok h.1.2) a b)
    · cases h
theorem lightS_ok (hK : C.K = X.K) (hN : X.N = N) (hsc : X.env.scope = sc) {iss : ISs} {ss : List Stmt} (h1 : lightS iss = true) (h : chkSs G sc N iss ss = true) (hg : ∀ x d, G.cons.lookup x = some d → ∃ v u, X.mg x = some u ∧ RelV v u ∧ ∀ B H, Dn C.K B H v d) : PSs X ss (tS C lk (evSs G.exm Φ lk iss)) := by
  have last : ∀ {s : IS}, iss = .cons s .nil → ∃ st, ss = [st] ∧ chkS G sc N s st = true := fun {s} e => by
    subst e
    unfold chkSs at h
    cases ss with
    | nil => cases h
    | cons st ss =>
      simp only [Bool.and_eq_true] at h
      obtain ⟨h2, h3⟩ := h
      unfold chkSs at h3
      cases ss with
      | nil => exact ⟨st, rfl, h2⟩
      | cons _ _ => cases h3
  unfold lightS at h1
  split at h1
  · rename_i ie
    obtain ⟨st, rfl, h2⟩ := last rfl
    unfold chkS at h2
    split at h2
    · rename_i x hv
      obtain ⟨p, rfl⟩ := sw_ret hv
      exact ss_cons (ss_ret (light_ok hK hN hsc h1 h2 hg)) ss_nil
    · cases h2
  · obtain ⟨st, rfl, h2⟩ := last rfl
    unfold chkS at h2
    split at h2
    · rename_i hv
      obtain ⟨p, rfl⟩ := sw_nop hv
      exact ss_cons ss_pass ss_nil
    · rename_i x p hv
      obtain rfl := sw_drop hv
      unfold docB at h2
      split at h2
      · exact ss_cons ss_doc ss_nil
      · cases h2
    · cases h2
  · obtain ⟨st, rfl, h2⟩ := last rfl
    unfold chkS at h2
    split at h2
    · rename_i hv
      obtain ⟨p, rfl⟩ := sw_cont hv
      exact ss_cons ss_continue ss_nil
    · cases h2
  · obtain ⟨st, rfl, h2⟩ := last rfl
    unfold chkS at h2
    split at h2
    · rename_i hv
      obtain ⟨p, rfl⟩ := sw_brk hv
      exact ss_cons ss_break ss_nil
    · cases h2
  · cases h1
end
end VS
set_option Elab.async false
set_option linter.all false
set_option maxRecDepth 100000
set_option maxHeartbeats 2000000
/-! The VS layer, part U: statements that are the text's do what the text does. -/
namespace VS
open PySem PySem.Spec PyProof.Rows L2
section
variable {G : GI} {k : Nat} {Φ : Nat → FS} {sc : Scope} {N : List Str} {lk : Lks}
theorem isTup_ok {t : Expr} (h : isTup t = true) : ∃ es j p, t = .Tuple es j p := by
  cases t <;> first | exact ⟨_, _, _, rfl⟩ | cases h
theorem isTup_no {t : Expr} (h : isTup t = true) : (∀ x p, t ≠ .Name x p) ∧ ∀ es p, t ≠ .List es p := by
  cases t <;> first | (cases h; done) | exact ⟨fun _ _ e => Expr.noConfusion e, fun _ _ e => Expr.noConfusion e⟩
theorem isSub_no {t : Expr} (h : isSub t = true) : (∀ x p, t ≠ .Name x p) ∧ (∀ es p, t ≠ .List es p) ∧ ∀ es j p, t ≠ .Tuple es j p := by
  cases t <;> first | (cases h; done) | exact ⟨fun _ _ e => Expr.noConfusion e, fun _ _ e => Expr.noConfusion e, fun _ _ _ e => Expr.noConfusion e⟩
theorem sws_sub {env : PySem.Env} {t v : Expr} (h : isSub t = true) : swappedStores [t] v env = pure none := by
  cases t <;> first | (cases v <;> rfl) | cases h
theorem lc_parts {X : Cx} {C : Wd} {own : List (Str × Nat)} {it ifs : IEs} {kk : ItK} {tg : Tg} {elt : IE} {e : Expr} (c : Ct G k Φ X C sc N allT) (h : chk G sc N (.lc own kk it tg ifs elt) e = true) :
    ∃ elt' tg' it' ifs' scope p, e = .ListComp elt' [⟨tg', it', ifs', 0⟩] scope p ∧ PI X tg' it' (tIt C (evIt kk (evs Φ it))) ∧ BlkOk X.N X.env.scope scope own ∧
      (∀ (s : Shared) (H : Hp) (L : Addr) (cl : List (Str × Addr)) (fp : List Addr), PG (X.blk s H scope (compEnvC scope cl L X.env) fp) tg' (tG C.nox [] tg)) ∧
      (∀ (s : Shared) (H : Hp) (L : Addr) (cl : List (Str × Addr)) (fp : List Addr), PTs (X.blk s H scope (compEnvC scope cl L X.env) fp) ifs' (tT C.nox (evIf (evs Φ ifs)))) ∧
      (∀ (s : Shared) (H : Hp) (L : Addr) (cl : List (Str × Addr)) (fp : List Addr), PE (X.blk s H scope (compEnvC scope cl L X.env) fp) elt' (tE C.nox (ev Φ elt).e)) ∧ ∀ x, foldedSetIterable it' X.env x = pure x := by
  unfold chk at h
  split at h
  · rename_i elt' tg' it' ifs' scope hv
    obtain ⟨p, rfl⟩ := vw_lc hv
    simp only [Bool.and_eq_true, decide_eq_true_eq] at h
    obtain ⟨⟨⟨⟨⟨⟨h1, h2⟩, h3⟩, h4⟩, h5⟩, h6⟩, h7⟩ := h
    have ok := blkB_ok h1
    have okX : BlkOk X.N X.env.scope scope own := by rw [c.hN, c.hsc]; exact ok
    exact ⟨elt', tg', it', ifs', scope, p, rfl, chkIt_ok it kk c h2, okX, fun s H L cl fp => tg_ok (c.blk ok s H L cl fp) h3, fun s H L cl fp => ifs_ok (chks_ok ifs (c.blk ok s H L cl fp) h4) h5,
        fun s H L cl fp => (chk_ok elt (c.blk ok s H L cl fp) h6).me, fset h7⟩
  · cases h
theorem par_names {X : Cx} {C : Wd} (c : Ct G k Φ X C sc N allT) {ns : List Str} {is : List Nat} (h : (ns.zip is).all (fun p => atB N p.2 p.1) = true) {j i : Nat} {x : Str} (hx : ns[j]? = some x) (hi : is[j]? = some i) : X.N[i]? = some x := by
  rw [c.hN]
  have : (x, i) ∈ ns.zip is := List.mem_of_getElem? (by rw [List.getElem?_zip_eq_some]; exact ⟨hx, hi⟩)
  exact atB_ok (List.all_eq_true.mp h _ this)
theorem set_ok {X : Cx} {C : Wd} (c : Ct G k Φ X C sc N allT) {i : Nat} {x : Str} {px pos : Pos} {v : Expr} {e : IE} (h1 : atB N i x = true) (h2 : locB sc true x = true) (h3 : (!(swapB sc x px v) || (lclB sc x && isLc e)) = true) (h4 : chk G sc N e v = true) :
    PS X (.Assign [.Name x px] v pos) (tS C lk (mSet lk i (ev Φ e).e)) := by
  have hsw := swap_is (x := x) (px := px) (v := v) (line := pos.line) c.bk
  rw [c.hsc] at hsw
  obtain ⟨l1, l2⟩ := locB_ok h2
  have ix : X.N[i]? = some x := by rw [c.hN]; exact atB_ok h1
  cases q : swapB sc x px v with
  | false =>
    rw [q] at hsw
    exact ss_set (by rw [c.hN]; exact c.nd) ix (by rw [c.hsc]; exact l1) (chk_ok e c h4).me hsw (by rw [c.hsc]; exact .inl (c.fn x rfl))
  | true =>
    rw [q] at hsw h3
    have h3 : (lclB sc x && isLc e) = true := h3
    rw [Bool.and_eq_true] at h3
    have hl := lclB_ok h3.1
    have he : ∃ own kk it tg ifs elt, e = .lc own kk it tg ifs elt := by
      have z := h3.2
      unfold isLc at z
      split at z
      · exact ⟨_, _, _, _, _, _, rfl⟩
      · cases z
    obtain ⟨own, kk, it, tg, ifs, elt, rfl⟩ := he
    obtain ⟨elt', tg', it', ifs', scope, p, rfl, a1, a2, a3, a4, a5, a6⟩ := lc_parts c h4
    exact ss_setLc c.calm (by rw [c.hN]; exact c.nd) ix (by rw [c.hsc]; exact hl) hsw a1 a2 a3 a4 a5 a6
theorem zipS {α β : Type} {xs : List α} {ys : List β} {j : Nat} {x : α} {y : β} (h1 : xs[j]? = some x) (h2 : ys[j]? = some y) : (xs.zip ys)[j]? = some (x, y) := by
  rw [List.getElem?_zip_eq_some]
  exact ⟨h1, h2⟩
theorem par_ok {X : Cx} {C : Wd} (c : Ct G k Φ X C sc N allT) {is : List Nat} {es : IEs} {ts vs : List Expr} {kt k2 : Nat} {pt pt2 pos : Pos} (h1 : nmsB sc N allT ts is = true) (h2 : is.length ≤ 50) (h3 : chks G sc N es vs = true)
    (h4 : swOk sc N ts vs is = true) : PS X (.Assign [.Tuple ts kt pt] (.Tuple vs k2 pt2) pos) (tS C lk (mPar lk is ((evs Φ es).map Sm.a))) := by
  have as := (chks_ok es c h3).as
  have hb := c.bk
  have sole : ∀ line, swapsWithSole [.Tuple ts kt pt] (.Tuple vs k2 pt2) line X.env = pure false := fun _ => rfl
  unfold swOk at h4
  split at h4
  · rename_i e
    have hw := swR_is (kt := kt) (k2 := k2) (pt := pt) (pt2 := pt2) hb (by rw [c.hsc]; exact e)
    exact ss_parT c.calm c.hK (by rw [c.hN]; exact c.nd) as (nms_ok c h1) (Nat.le_trans h2 (by decide)) (sole _) hw rfl
  · rename_i ns e
    have hw := swR_is (kt := kt) (k2 := k2) (pt := pt) (pt2 := pt2) hb (by rw [c.hsc]; exact e)
    simp only [Bool.and_eq_true, decide_eq_true_eq] at h4
    obtain ⟨⟨⟨⟨e1, e2⟩, e3⟩, e4⟩, e5⟩ := h4
    have lc : ∀ x ∈ ns, X.env.scope.names.lookup x = some .local := fun x hx => by
      rw [c.hsc]
      exact lclB_ok (List.all_eq_true.mp e2 x hx)
    split at e5
    · rename_i t u
      simp only [Bool.and_eq_true, decide_eq_true_eq] at e5
      obtain ⟨⟨f1, f2⟩, f3⟩ := e5
      match ns, f3, is, e1 with
      | [x, y], _, [i, j], _ =>
        obtain ⟨px, rfl⟩ := vwN_ok f1
        obtain ⟨py, rfl⟩ := vwN_ok f2
        obtain ⟨a, b, hab⟩ : ∃ a b, vs = [a, b] := by
          have hl : vs.length = 2 := by
            unfold swR at e
            split at e
            · cases e
            · rename_i z
              simp at z
              exact z
          match vs, hl with
          | [a, b], _ => exact ⟨a, b, rfl⟩
        subst hab
        exact ss_par2 c.calm (by rw [c.hN]; exact c.nd) (par_names c e4 (j := 0) rfl rfl) (par_names c e4 (j := 1) rfl rfl) (by simpa using e3) (lc x (by simp)) (lc y (by simp)) as hw (sole _)
    · rename_i t u w
      simp only [Bool.and_eq_true, decide_eq_true_eq] at e5
      obtain ⟨⟨⟨f1, f2⟩, f2'⟩, f3⟩ := e5
      match ns, f3, is, e1 with
      | [x, y, z], _, [i, j, l], _ =>
        obtain ⟨px, rfl⟩ := vwN_ok f1
        obtain ⟨py, rfl⟩ := vwN_ok f2
        obtain ⟨pz, rfl⟩ := vwN_ok f2'
        obtain ⟨a, b, d, hab⟩ : ∃ a b d, vs = [a, b, d] := by
          have hl : vs.length = 3 := by
            unfold swR at e
            split at e
            · cases e
            · rename_i z
              simp at z
              exact z
          match vs, hl with
          | [a, b, d], _ => exact ⟨a, b, d, rfl⟩
        subst hab
        have nd : (i ≠ j ∧ i ≠ l) ∧ j ≠ l := by simpa using e3
        exact ss_par3 c.calm (by rw [c.hN]; exact c.nd) (par_names c e4 (j := 0) rfl rfl) (par_names c e4 (j := 1) rfl rfl) (par_names c e4 (j := 2) rfl rfl) nd.1.1 nd.1.2 nd.2 (lc x (by simp)) (lc y (by simp)) (lc z (by simp)) as hw (sole _)
    · cases e5
  · cases h4
end
end VS
set_option Elab.async false
set_option linter.all false
set_option maxRecDepth 100000
set_option maxHeartbeats 2000000
/-! The VS layer, part V: statements that are the text's do what the text does, all of them; defs. -/
namespace VS
open PySem PySem.Spec PyProof.Rows L2
section
variable {G : GI} {k : Nat} {Φ : Nat → FS} {sc : Scope} {N : List Str} {lk : Lks}
theorem aug_line {env : PySem.Env} {kk : Expr} (h : plainIxB kk = true) : ∀ ov iv new, augStore kk ov iv new = (do holding [new, ov, iv] (setItem ov iv new); release [new, ov, iv] []; pure .next) := fun _ _ _ => by
  cases kk <;> first | rfl | cases h
theorem sub_line {env : PySem.Env} {o kk : Expr} {p : Pos} (h : ∀ lo hi st p, kk ≠ .Slice lo hi st p) : ∀ v, assign (.Subscript o kk p) env v = (do
      let ov ← holding [v] (eval o env)
      let iv ← holding [v, ov] (eval kk env)
      standAt p
      holding [v, ov, iv] (setItem ov iv v)
      release [v, ov, iv] []) := fun _ => by
  cases kk <;> first | rfl | exact absurd rfl (h _ _ _ _)
mutual
theorem chkS_ok : ∀ (s : IS) {X : Cx} {C : Wd} {st : Stmt}, CtS G k Φ X C sc N → chkS G sc N s st = true → PS X st (tS C lk (evS G.exm Φ lk s))
  | .nop, X, C, st, c, h => by
    unfold chkS at h
    split at h
    · rename_i hv
      obtain ⟨p, rfl⟩ := sw_nop hv
      exact ss_pass
    · rename_i x p hv
      obtain rfl := sw_drop hv
      unfold docB at h
      split at h
      · exact ss_doc
      · cases h
    · cases h
  | .brk, X, C, st, c, h => by
    unfold chkS at h
    split at h
    · rename_i hv
      obtain ⟨p, rfl⟩ := sw_brk hv
      exact ss_break
    · cases h
  | .cont, X, C, st, c, h => by
    unfold chkS at h
    split at h
    · rename_i hv
      obtain ⟨p, rfl⟩ := sw_cont hv
      exact ss_continue
    · cases h
  | .set i e, X, C, st, c, h => by
    unfold chkS at h
    split at h
    · rename_i t v pos hv
      obtain rfl := sw_asg hv
      rw [Bool.and_eq_true] at h
      obtain ⟨h1, h2⟩ := h
      split at h1
      · rename_i x px
        simp only [Bool.and_eq_true] at h1
        obtain ⟨⟨a1, a2⟩, a3⟩ := h1
        exact set_ok c.ct a1 a2 a3 h2
      · cases h1
    · cases h
  | .asg tg e, X, C, st, c, h => by
    unfold chkS at h
    split at h
    · rename_i t v pos hv
      obtain rfl := sw_asg hv
      simp only [Bool.and_eq_true, Bool.not_eq_true'] at h
      obtain ⟨⟨⟨h1, h2⟩, h3⟩, h4⟩ := h
      obtain ⟨n1, n2⟩ := isTup_no h1
      refine ss_asg (chk_ok e c.ct h4).me (tg_ok c.ct h2) (swap_oth n1) (sws_tup h3 n2) ?_
      obtain ⟨es, j, p, rfl⟩ := isTup_ok h1
      rfl
    · cases h
  | .par is es, X, C, st, c, h => by
    unfold chkS at h
    split at h
    · rename_i t v pos hv
      obtain rfl := sw_asg hv
      split at h
      · rename_i ts vs ht hvs
        obtain ⟨j1, p1, rfl⟩ := vw_tup ht
        obtain ⟨j2, p2, rfl⟩ := vw_tup hvs
        simp only [Bool.and_eq_true, decide_eq_true_eq] at h
        obtain ⟨⟨⟨⟨⟨_, _⟩, h3⟩, h4⟩, h5⟩, h6⟩ := h
        exact par_ok c.ct h3 h4 h5 h6
      · cases h
    · cases h
  | .store o kk v, X, C, st, c, h => by
    unfold chkS at h
    split at h
    · rename_i t e pos hv
      obtain rfl := sw_asg hv
      split at h
      · rename_i o' k' hx
        simp only [Bool.and_eq_true] at h
        obtain ⟨⟨⟨h1, h2⟩, h3⟩, h4⟩ := h
        obtain ⟨⟨p, rfl⟩, hn⟩ := vw_ix hx
        have hu := c.ct.hu
        have a2 := (chk_ok o c.ct h2).mo
        have a3 := (chk_ok kk c.ct h3).mo
        have ps : PSet X (rSet C.K) := by rw [c.ct.hK]; exact p_set (by omega)
        exact ss_store a2 a3 (chk_ok v c.ct h4).me ps (swap_oth fun _ _ e => Expr.noConfusion e) (sws_sub rfl) rfl (pg_sub a2 a3 ps (sub_line hn))
      · cases h
    · cases h
  | .augS op o kk v, X, C, st, c, h => by
    unfold chkS at h
    split at h
    · rename_i o' k' bop e hv
      obtain ⟨p, p2, rfl⟩ := sw_aug hv
      simp only [Bool.and_eq_true, Bool.or_eq_true, decide_eq_true_eq] at h
      obtain ⟨⟨⟨⟨h1, h2⟩, h3⟩, h4⟩, h5⟩ := h
      have hu := c.ct.hu
      exact ss_augS (chk_ok o c.ct h3).mo (chk_ok kk c.ct h4).mo (chk_ok v c.ct h5).me (by rw [c.ct.hK]; exact p_get) (p_ip h1) (by rw [c.ct.hK]; exact p_set (by omega)) (aug_line (env := X.env) h2)
    · cases h
  | .ite e a b, X, C, st, c, h => by
    unfold chkS at h
    split at h
    · rename_i x y z hv
      obtain ⟨p, rfl⟩ := sw_ite hv
      simp only [Bool.and_eq_true] at h
      exact ss_if (chk_ok e c.ct h.1.1).mt (chkSs_ok a c h.1.2) (chkSs_ok b c h.2)
    · cases h
  | .whl n e b, X, C, st, c, h => by
    unfold chkS at h
    split at h
    · rename_i x y hv
      obtain ⟨p, rfl⟩ := sw_whl hv
      simp only [Bool.and_eq_true] at h
      exact ss_while c.po (chk_ok e c.ct h.1).mt (chkSs_ok b c h.2)
    · cases h
  | .for kk it tg b, X, C, st, c, h => by
    unfold chkS at h
    split at h
    · rename_i x y z hv
      obtain ⟨p, rfl⟩ := sw_for hv
      simp only [Bool.and_eq_true] at h
      obtain ⟨⟨⟨h1, h2⟩, h3⟩, h4⟩ := h
      exact ss_for c.po c.ct.calm (chkIt_ok it kk c.ct h1) (tg_ok c.ct h2) (chkSs_ok b c h4) (fset h3)
    · cases h
  | .ret e, X, C, st, c, h => by
    unfold chkS at h
    split at h
    · rename_i x hv
      obtain ⟨p, rfl⟩ := sw_ret hv
      exact ss_ret (chk_ok e c.ct h).me
    · cases h
  | .retN, X, C, st, c, h => by
    unfold chkS at h
    split at h
    · rename_i hv
      obtain ⟨p, rfl⟩ := sw_retN hv
      exact ss_retN
    · cases h
  | .raise cc, X, C, st, c, h => by
    unfold chkS at h
    split at h
    · rename_i e hv
      obtain ⟨p, rfl⟩ := sw_raise hv
      split at h
      · rename_i x as hx
        obtain ⟨p1, p2, rfl⟩ := vw_call hx
        simp only [Bool.and_eq_true, decide_eq_true_eq] at h
        obtain ⟨⟨⟨h1, h2⟩, h3⟩, h4⟩ := h
        obtain ⟨m1, m2, ⟨B, nI, iI, bmB, m3, m4⟩, m5, m6⟩ := c.ct.glo.cls _ _ h4
        have : as = [] := List.length_eq_zero_iff.mp h3
        subst this
        exact ss_raise c.ct.calm c.ct.tk (pmk_own0 m3 m4 m1 m2 (raises_own m5 m6) (c.ct.gl h1) (noDb_ok h2).1)
      · cases h
    · cases h
  | .tr cc b su, X, C, st, c, h => by
    unfold chkS at h
    split at h
    · rename_i bs x s0 ss hv
      obtain ⟨p1, p2, p3, rfl⟩ := sw_tr hv
      simp only [Bool.and_eq_true, decide_eq_true_eq] at h
      obtain ⟨⟨⟨⟨⟨h1, h2⟩, h3⟩, h4⟩, h5⟩, h6⟩ := h
      obtain ⟨m1, _⟩ := c.ct.glo.cls _ _ h3
      refine ss_try c.st c.fr ⟨c.ct.gl h1, (noDb_ok h2).1, .inl m1⟩ c.ct.tk (fun i b e => c.ct.glo.exm i cc b e) (fun W pn xe tk po => chkSs_ok b (c.tr tk po) h4) (fun a oe pn => ?_)
      exact lightS_ok (X := X.suite a ((a, oe) :: pn)) (C := C.nox) c.ct.hK c.ct.hN c.ct.hsc h5 h6 fun x d e => by
        have z := c.ct.glo.con x d e
        rw [show C.nox.K = X.K from c.ct.hK]
        exact z
    · cases h
  | .drop e, X, C, st, c, h => by
    unfold chkS at h
    split at h
    · rename_i x pos hv
      obtain rfl := sw_drop hv
      rw [Bool.and_eq_true] at h
      exact ss_drop (chk_ok e c.ct h.2).me (swap_none (by simpa using h.1))
    · cases h
theorem chkSs_ok : ∀ (s : ISs) {X : Cx} {C : Wd} {st : List Stmt}, CtS G k Φ X C sc N → chkSs G sc N s st = true → PSs X st (tS C lk (evSs G.exm Φ lk s))
  | .nil, X, C, st, c, h => by
    unfold chkSs at h
    cases st with
    | nil => exact ss_nil
    | cons _ _ => cases h
  | .cons a as, X, C, st, c, h => by
    unfold chkSs at h
    cases st with
    | nil => cases h
    | cons s st =>
      rw [Bool.and_eq_true] at h
      exact ss_cons (chkS_ok a c h.1) (chkSs_ok as c h.2)
end
end
end VS
set_option Elab.async false
set_option linter.all false
set_option maxRecDepth 100000
set_option maxHeartbeats 2000000
/-! The VS layer, part W: the defs by levels. -/
namespace VS
open PySem PySem.Spec PyProof.Rows L2
/-- one def of the text's top -/
structure FDat where
  x : Str
  ps : List Str
  N : List Str
  params : Arguments
  body : List Stmt
  scope : Scope
  ie : ISs
structure FDat.Good (G : GI) (d : FDat) : Prop where
  sc : FnScope d.N d.ps d.scope
  ck : chkSs G d.scope d.N d.ie d.body = true
  bd : ∀ (kV doc pm : Value) (an : Option Addr) (cdv ct : Value) (us : List Value), us.length = d.ps.length → bindArgs (PySem.W.fnOf d.x d.x d.params d.body d.scope .none kV doc pm an cdv ct) ⟨us, []⟩ = pure (d.ps.zip us)
section
variable {G : GI} {k : Nat} {Φ : Nat → FS} {P : Program} {w : World} {K : PySem.W.Frag} {mg : Str → Option Value} {base : Heap} {CA : Nat → Addr}
theorem fn_zero {f : Addr} {fd : FuncData} {ps : List Str} : FnG P w K mg base k f fd ps (spF ⟨K, CA, fun _ _ _ _ => False⟩ ps.length fun _ => .stk) :=
  ⟨fun vs H Q E h => h.1, fun Ar out s H args us vs Q E _ _ _ _ _ h => by
    obtain ⟨_, U, ts, R, p⟩ := h
    exact p.elim⟩
theorem fn_step (d : FDat) (g : d.Good G) (gl : GlobOk G P w K mg base CA k Φ) {f : Addr} {fd : FuncData} (F : FunD K d.x d.x d.params d.body d.scope [] [] f fd) :
    FnG P w K mg base (k + 1) f fd d.ps (spF ⟨K, CA, fun _ _ _ _ => False⟩ d.ps.length (runF d.N.length fun lk => evSs G.exm Φ lk d.ie)) := by
  obtain ⟨oc, od, dV, kV, doc, pm, an, cdv, ct, osl, rfl, hlk, hcd, _, _⟩ := F.ex
  refine fnG_of hlk hcd g.sc (fun vs H Q E h => h.1) fun Ar out s H vs Q E hr hgd h => ?_
  refine def_ok (C := ⟨K, CA, fun _ _ _ _ => False⟩) rfl (fun lk => ?_) h
  refine chkSs_ok d.ie (C := ⟨K, CA, fun c d _ H => E c d H⟩) ⟨⟨rfl, rfl, g.sc.nd, rfl, rfl, hr, hgd, ?_, fun _ _ => rfl, g.sc.kind, gl⟩, rfl, rfl, ?_⟩ g.ck
  · exact takes_of rfl rfl rfl (E₁ := fun e' s'' => L2.CX P w out H s E e' s'') rfl
  · exact passes_of (K := fun e s'' => L2.CX P w out H s E e s'') (E₁ := fun e' s'' => L2.CX P w out H s E e' s'') rfl
/-- the defs, by levels -/
theorem levels (ds : List FDat) (hG : G.funs = ds.map fun d => (d.x, d.ps.length)) (hg : ∀ d ∈ ds, d.Good G)
    (hK : ∀ d ∈ ds, ∃ fa fd, mg d.x = some (.ref fa) ∧ FunD K d.x d.x d.params d.body d.scope [] [] fa fd)
    (con : ∀ x d, G.cons.lookup x = some d → ∃ v u, mg x = some u ∧ RelV v u ∧ ∀ B H, Dn K B H v d)
    (free : ∀ x, x ∈ G.free → mg x = none)
    (kds : ∀ x t, G.kds.lookup x = some t → ∃ a, mg x = some (.ref a) ∧ TabOk K w a t)
    (cls : ∀ c x, G.clss[c]? = some x → mg x = some (.ref (CA c)) ∧ PySem.W.keepIn K (.ref (CA c)) = true ∧ (∃ (B newId initId : String) (bmB : List Value), ExcBaseFacts B newId initId bmB ∧ PySem.W.excIn K (CA c) bmB newId = true) ∧
      PySem.W.subIn K (.ref (CA c)) (.type "BaseException") = some true ∧ PySem.W.typeIn K (.ref (CA c)) = some (.type "type"))
    (exm : ∀ i j b, G.exm i j = some b → PySem.W.exmOne K (.ref (CA i)) (.ref (CA j)) = some b) :
    ∀ k, GlobOk G P w K mg base CA k (evF G.exm (ds.map fun (d : FDat) => (⟨d.N.length, d.ie⟩ : IF)) k) := by
  intro k
  induction k with
  | zero =>
    refine ⟨fun i x n h => ?_, con, free, kds, cls, exm⟩
    rw [hG, List.getElem?_map] at h
    cases e : ds[i]? with
    | none => rw [e] at h; cases h
    | some d =>
      rw [e] at h
      cases h
      obtain ⟨fa, fd, h1, h2⟩ := hK d (List.mem_of_getElem? e)
      exact ⟨fa, fd, d.ps, h1, h2.kp, h2.bindsN (hg d (List.mem_of_getElem? e)).bd, rfl, fn_zero⟩
  | succ k ih =>
    refine ⟨fun i x n h => ?_, con, free, kds, cls, exm⟩
    rw [hG, List.getElem?_map] at h
    cases e : ds[i]? with
    | none => rw [e] at h; cases h
    | some d =>
      rw [e] at h
      cases h
      obtain ⟨fa, fd, h1, h2⟩ := hK d (List.mem_of_getElem? e)
      refine ⟨fa, fd, d.ps, h1, h2.kp, h2.bindsN (hg d (List.mem_of_getElem? e)).bd, rfl, ?_⟩
      have z := fn_step d (hg d (List.mem_of_getElem? e)) ih h2
      have e2 : evF G.exm (ds.map fun (d : FDat) => (⟨d.N.length, d.ie⟩ : IF)) (k + 1) i = runF d.N.length fun lk => evSs G.exm (evF G.exm (ds.map fun (d : FDat) => (⟨d.N.length, d.ie⟩ : IF)) k) lk d.ie := by
        show (match (ds.map fun d => (⟨d.N.length, d.ie⟩ : IF))[i]? with
          | some f => runF f.nN fun lk => evSs G.exm (evF G.exm (ds.map fun (d : FDat) => (⟨d.N.length, d.ie⟩ : IF)) k) lk f.body
          | none => fun _ => .stk) = _
        rw [List.getElem?_map, e]
        rfl
      rw [e2]
      exact z
end
end VS
set_option Elab.async false
set_option linter.all false
set_option maxRecDepth 100000
set_option maxHeartbeats 2000000
/-! The VS layer, part X: a law's end. -/
namespace VS
open PySem PySem.Spec PyProof.Rows L2
/-- the script, as data -/
def scrD (ns : List Int) : D := .dict [(.bool true, .list (ns.map .int))]
/-- .. where it lies: known to the object, or one of the module's own lists -/
def ScrAt (K : PySem.W.Frag) (H : Hp) (a : Addr) (ns : List Int) : Prop := (∃ o, H a = some (.frz o (.lst (ns.map V.int)))) ∨
  ∃ (o : Obj) (its : Array Value) (n : Nat), K.lookup a = some o ∧ o.cls = .type "list" ∧ o.dict = none ∧ o.data = .seq its n ∧ its.size ≤ sizeLine ∧ Vals (ns.map V.int) its.toList
theorem ScrAt.dn {K : PySem.W.Frag} {H : Hp} {a : Addr} {ns : List Int} (h : ScrAt K H a ns) {B : Av} (nb : ¬ B a) : Dn K B H (.ref a) (scrD ns) := by
  rcases h with ⟨o, e⟩ | h
  · exact .scr e nb (vals_ints ns)
  · exact .scrK h (vals_ints ns)
section
variable {P : Program} {w : World} {K : PySem.W.Frag} {mg mb : Str → Option Value} {k : Nat} {fa a : Addr} {fd : FuncData} {x : Str} {sp : Sp} {s1 : Shared} {vs : List Value} {ns : List Int}
theorem law_callG (hK : K.In s1.heap) (hmg : s1.heap.Ns mainGlobals mg) (hbl : s1.heap.Ns builtinsNs mb) (hbb : ∀ x : Str, x ≠ "__name__" → mb x = bootBuiltins x) (hlim : s1.heap.NoLimit) (hgen : s1.gens = #[])
    (hobj : s1.heap.get? a = some { cls := .type "list", data := .seq vs.toArray }) (hints : IntsAre vs ns) (hlen : ns.length ≤ sizeLine) (hroom : Room k callerA)
    (F : ∀ base : Heap, K.In base → base.Ns mainGlobals mg → FnG P w K mg base k fa fd [x] sp) (hbind : ∀ (s : Shared) (u : Value), BindsTo s fd ⟨[u], []⟩ [(x, u)])
    (hsp : ∀ H : Hp, ScrAt K H a ns → (∀ b u, H b = some u → b = a) → sp [.ref a] H (fun v _ => v = .bl true) fun _ _ _ => False) :
    codeAny (model P w) callerA (.call (.ref fa) ⟨[.ref a], []⟩) (fun r s' => r = .ok (.ret (.bool true)) ∧ OldK s1.heap s'.heap ∧ s'.os = s1.os ∧ AllBare s'.gens) s1 := by
  generalize hob : ({ cls := .type "list", data := .seq vs.toArray } : Obj) = ob at hobj
  -- from an abstract heap that tracks the script at most
  have core : ∀ H : Hp, ScrAt K H a ns → HOk P w H s1.heap → (∀ b u, H b = some u → b = a ∧ u = .frz ob (.lst (ns.map V.int))) → (∀ o, K.lookup a = some o → H a = none) →
      codeAny (model P w) callerA (.call (.ref fa) ⟨[.ref a], []⟩) (fun r s' => r = .ok (.ret (.bool true)) ∧ OldK s1.heap s'.heap ∧ s'.os = s1.os ∧ AllBare s'.gens) s1 := by
    intro H hS hok only hKa
    have free : ∀ {b : Addr}, b ≠ a → H b = none := fun {b} n => by
      cases q : H b with
      | none => rfl
      | some u => exact absurd (only b u q).1 n
    have spaces : ∀ {b : Addr} {m : Str → Option Value}, s1.heap.Ns b m → (hidT s1.heap H).Ns b m := fun {b m} ⟨o, es, ep, e, d, r⟩ => ⟨o, es, ep, hidT_get e (free fun hb => by
      rw [hb, hobj] at e
      cases e
      rw [← hob] at d
      have d' : Data.seq vs.toArray _ = Data.dict es ep := d
      cases d'), d, r⟩
    have inB : K.In (hidT s1.heap H) := fun b o e => hidT_get (hK b o e) (by
      by_cases hb : b = a
      · rw [hb] at e ⊢
        exact hKa o e
      · exact free hb)
    have hM : Mod K mg (hidT s1.heap H) := ⟨inB, spaces hmg, ⟨mb, spaces hbl, hbb⟩, let ⟨mc, h1, h2⟩ := hlim; ⟨mc, spaces h1, h2⟩⟩
    have e0 : Env0 P w K mg (hidT s1.heap H) callerA [] s1 H := ⟨rfl, hM, fun b o e => of_hidT e, Nat.le_of_eq (hidT_size _ _), trivial, fun b hb => absurd (show b ∈ ([] : List Addr) from hb) (by simp), hok, .of_eq hgen⟩
    refine codeAny_mono ((F _ inB (spaces hmg)).go callerA [] s1 H ⟨[.ref a], []⟩ [.ref a] [.ref a] _ _ hroom rfl e0 (hbind s1 (.ref a)) (.cons rfl .nil) (hsp H hS fun b u e => (only b u e).1)) fun r s' h => ?_
    cases r with
    | error e =>
      obtain ⟨_, _, _, _, _, _, _, _, _, _, _, _, z⟩ := (show L2.CX P w [] H s1 (fun _ _ _ => False) e s' from h)
      exact z.elim
    | ok fl =>
      cases fl with
      | next => exact False.elim h
      | brk => exact False.elim h
      | cont => exact False.elim h
      | ret u =>
        obtain ⟨v, H', os, bare, un, hok', r', q⟩ := h
        obtain rfl : v = .bl true := q
        obtain rfl : u = Value.bool true := r'
        refine ⟨rfl, OldK.of_keep fun b o e => ?_, os, bare⟩
        cases q : H b with
        | none => exact un.keep b o e q (by intro z; exact absurd (show b ∈ ([] : List Addr) from z) (by simp)) (by simp)
        | some u =>
          obtain ⟨rfl, rfl⟩ := only b u q
          obtain ⟨e2, _⟩ := hok' b _ (un.frzs b ob _ q)
          rw [hobj] at e
          cases e
          exact e2
  cases hk : K.lookup a with
  | some o =>
    have e := hK a o hk
    rw [hobj] at e
    cases e
    refine core (fun _ => none) (.inr ⟨ob, vs.toArray, _, hk, by rw [← hob], by rw [← hob], by rw [← hob], by rw [List.size_toArray, hints.length]; exact hlen, by simpa using L2.vals_ints hints⟩) (fun b u z => ?_) (fun b u z => ?_) fun _ _ => rfl
    · have z' : (none : Option HO) = some u := z
      cases z'
    · have z' : (none : Option HO) = some u := z
      cases z'
  | none =>
    have at_a : (fun b : Addr => if b = a then some (HO.frz ob (.lst (ns.map V.int))) else none) a = some (HO.frz ob (.lst (ns.map V.int))) := if_pos rfl
    refine core (fun b => if b = a then some (.frz ob (.lst (ns.map V.int))) else none) (.inl ⟨ob, at_a⟩) (fun b u z => ?_) (fun b u z => ?_) fun o e => by rw [hk] at e; cases e
    · by_cases hb : b = a
      · have z' := (if_pos hb).symm.trans z
        cases z'
        subst hb
        subst hob
        exact ⟨hobj, by rw [List.length_map]; exact hlen, vs, _, L2.vals_ints hints, hobj⟩
      · have z' := (if_neg hb).symm.trans z
        cases z'
    · by_cases hb : b = a
      · have z' := (if_pos hb).symm.trans z
        cases z'
        exact ⟨hb, rfl⟩
      · have z' := (if_neg hb).symm.trans z
        cases z'
end
end VS
set_option Elab.async false
set_option linter.all false
set_option maxRecDepth 100000
set_option maxHeartbeats 2000000
/-! The VS layer, part Y: from the plain law to the statement. -/
namespace VS
open PySem PySem.Spec PyProof.Rows L2
theorem sp_of {K : PySem.W.Frag} {CA : Nat → Addr} {f : FS} {H : Hp} {a : Addr} {ns : List Int} {t : T} {outs : Env} (hS : ScrAt K H a ns) (hf : f [.shr (scrD ns)] = .ok t outs) (ht : t.toD = .bool true) :
    spF ⟨K, CA, fun _ _ _ _ => False⟩ 1 f [.ref a] H (fun v _ => v = .bl true) fun _ _ _ => False := by
  have no : ∀ b, ¬ Own ([V.ref a].map some) ([T.shr (scrD ns)].map some) b := fun b ⟨i, t, e1, e2, e3⟩ => by
    cases i with
    | zero => cases e1; cases e2
    | succ i => simp at e1
  refine ⟨rfl, fun _ => False, [.shr (scrD ns)], ⟨rfl, fun i t e => ?_, fun b z => z.elim, fun b z => (no b z).elim, fun i j t u b e1 e2 e3 _ _ _ => (no b ⟨i, t, e1, e2, e3⟩).elim⟩, ?_⟩
  · cases i with
    | zero =>
      cases e
      exact ⟨.ref a, rfl, hS.dn fun z => z.elim id (no a)⟩
    | succ i => simp at e
  · show PostF _ _ _ _ _ _ _ (f [.shr (scrD ns)])
    rw [hf]
    exact fun v H' rr _ => of_bool rr ht
/-- a law: F gives the written part and the promise over every base; then the plain law -/
theorem walk_G {l : PySem.W.OpenLaw} {n k : Nat} {q : Program} {loose : List Str} {XP : (Str → Option Value) → Heap → Prop} {YP : World → Heap → Prop} {d : DefRec} {x : Str} {f : FS}
    (hn : l.most = some n) (hn2 : n ≤ sizeLine) (hdf : d.params.defaults = []) (hr : Room k callerA)
    (F : ∀ (w : World) (mg : Str → Option Value) (fa : Addr) (h : Heap), YP w h → h.Ns mainGlobals mg → mg d.name = some (.ref fa) →
      ∃ (K : PySem.W.Frag) (fd : FuncData) (CA : Nat → Addr), K.In h ∧ (∀ (s : Shared) (u : Value), BindsTo s fd ⟨[u], []⟩ [(x, u)]) ∧
        ∀ base : Heap, K.In base → base.Ns mainGlobals mg → FnG l.prog w K mg base k fa fd [x] (spF ⟨K, CA, fun _ _ _ _ => False⟩ 1 f))
    (law : ∀ ns : List Int, ns.length ≤ n → (∀ k ∈ ns, Builtin.Int.intBits k ≤ 1048576) → ∃ t outs, f [.shr (scrD ns)] = .ok t outs ∧ t.toD = .bool true) :
    PySem.W.WalkO q loose XP YP l.row.toRowW d [] (fun f vs => PySem.call f vs) := by
  refine Att.attach_callB hn hdf fun w s₀ s₁ mg mb fa o pm cd doc a vs ns G Y ho hd hcd hmg hobj hints hlen hbits hg => ?_
  obtain ⟨K, fd, CA, KX, hb, hF⟩ := F w mg fa _ Y G.T.g hmg
  obtain ⟨t, outs, h1, h2⟩ := law ns hlen hbits
  exact law_callG KX G.T.g G.T.b G.T.builtins G.T.nolimit hg hobj hints (Nat.le_trans hlen hn2) hr hF hb fun H hS _ => sp_of hS h1 h2
end VS
set_option Elab.async false
set_option linter.all false
set_option maxRecDepth 100000
set_option maxHeartbeats 2000000
/-! The VS layer, part Z: what the head tells. -/
namespace VS
open PySem PySem.Spec PyProof.Rows L2
/-- a value of the written part is this data -/
def datB (K : PySem.W.Frag) : Nat → Value → D → Bool
  | _, .none, .none => true
  | _, .bool b, .bool c => b == c
  | _, .int i _, .int j => decide (i = j)
  | _, .str x _, .str y => decide (x = y)
  | n + 1, .ref a, .tuple ds => match K.lookup a with
    | some ⟨.type c, _, .seq its _, _⟩ => decide (c = "tuple") && decide (its.size ≤ 1000) && (its.toList.length == ds.length) && (its.toList.zip ds).all fun p => datB K n p.1 p.2
    | _ => false
  | _, _, _ => false
theorem dats_of {K : PySem.W.Frag} {n : Nat} (ih : ∀ u d, datB K n u d = true → ∃ v, RelV v u ∧ ∀ B H, Dn K B H v d) : ∀ {us : List Value} {ds : List D}, us.length = ds.length → (us.zip ds).all (fun p => datB K n p.1 p.2) = true → ∃ vs, Vals vs us ∧ ∀ B H, DnAll K B H vs ds
  | [], [], _, _ => ⟨[], .nil, fun _ _ => .nil⟩
  | u :: us, d :: ds, l, h => by
    rw [List.zip_cons_cons, List.all_cons, Bool.and_eq_true] at h
    obtain ⟨v, r, dn⟩ := ih u d h.1
    obtain ⟨vs, rs, dns⟩ := dats_of ih (Nat.succ.inj l) h.2
    exact ⟨v :: vs, .cons r rs, fun B H => .cons (dn B H) (dns B H)⟩
  | [], _ :: _, l, _ => by cases l
  | _ :: _, [], l, _ => by cases l
theorem datB_ok {K : PySem.W.Frag} : ∀ (n : Nat) (u : Value) (d : D), datB K n u d = true → ∃ v, RelV v u ∧ ∀ B H, Dn K B H v d := by
  have atoms : ∀ n u d, (∀ a, u ≠ .ref a) → datB K n u d = true → ∃ v, RelV v u ∧ ∀ B H, Dn K B H v d := by
    intro n u d hu h
    cases u <;> cases d <;> (try (exact absurd rfl (hu _))) <;> (cases n <;> simp only [datB] at h) <;> (try (cases h; done)) <;> first
      | exact ⟨.non, rfl, fun _ _ => .non⟩
      | (have e := eq_of_beq h; subst e; exact ⟨.bl _, rfl, fun _ _ => .bl _⟩)
      | (have e := of_decide_eq_true h; subst e; exact ⟨.int _, ⟨_, rfl⟩, fun _ _ => .int _⟩)
      | (have e := of_decide_eq_true h; subst e; exact ⟨.str _, ⟨_, rfl⟩, fun _ _ => .str _⟩)
  intro n
  induction n with
  | zero =>
    intro u d h
    refine atoms 0 u d (fun a e => ?_) h
    subst e
    cases d <;> cases h
  | succ n ih =>
    intro u d h
    by_cases hu : ∃ a, u = .ref a
    · obtain ⟨a, rfl⟩ := hu
      cases d <;> simp only [datB] at h <;> (try (cases h; done))
      rename_i ds
      split at h
      · rename_i c x1 its x2 x3 e
        simp only [Bool.and_eq_true, decide_eq_true_eq, beq_iff_eq] at h
        obtain ⟨⟨⟨rfl, h1⟩, h2⟩, h3⟩ := h
        obtain ⟨vs, rs, dn⟩ := dats_of ih h2 h3
        exact ⟨.ref a, rfl, fun B H => .tupK ⟨_, its, _, e, rfl, rfl, Nat.le_trans h1 (by decide), rs⟩ (dn B H)⟩
      · cases h
    · exact atoms _ u d (fun a e => hu ⟨a, e⟩) h
def conB (K : PySem.W.Frag) (x : Str) (d : D) : Bool := match PySem.W.nsIn K mainGlobals x with
  | some (some u) => datB K 5 u d
  | _ => false
theorem conB_ok {K : PySem.W.Frag} {h : Heap} {mg : Str → Option Value} {x : Str} {d : D} (X : K.In h) (G : h.Ns mainGlobals mg) (c : conB K x d = true) : ∃ v u, mg x = some u ∧ RelV v u ∧ ∀ B H, Dn K B H v d := by
  unfold conB at c
  split at c
  · rename_i u e
    obtain ⟨v, r, dn⟩ := datB_ok 5 u d c
    exact ⟨v, u, PySem.W.mg_of X G e, r, dn⟩
  · cases c
/-- a dict of the top: its values; that it has no other keys -/
def tbB (K : PySem.W.Frag) (a : Addr) (tab : Tb) : Bool := (tab.all fun p => match PySem.W.nsIn K a p.1 with
  | some (some u) => datB K 5 u p.2
  | _ => false) && match K.lookup a with
  | some ⟨_, _, .dict es _, _⟩ => es.toList.all fun e => match e.key with
    | .str y _ => decide (y ∈ tab.map (·.1))
    | _ => false
  | _ => false
theorem lookup_mem' {tab : Tb} {z : Str} {d : D} (h : tab.lookup z = some d) : (z, d) ∈ tab := PySem.mem_of_lookup h
theorem tbB_ok {K : PySem.W.Frag} {w : World} {a : Addr} {tab : Tb} (h : tbB K a tab = true) (kd : ∃ es n, KDict K w a es n) : TabOk K w a tab := by
  unfold tbB at h
  rw [Bool.and_eq_true] at h
  obtain ⟨h1, h2⟩ := h
  refine ⟨kd, fun z e hz => ?_, fun z hz => ?_⟩
  · have := List.all_eq_true.mp h1 _ (lookup_mem' hz)
    split at this
    · rename_i u eu
      obtain ⟨v, r, dn⟩ := datB_ok 5 u e this
      exact ⟨u, v, eu, r, dn⟩
    · cases this
  · split at h2
    · rename_i x1 x2 es x3 x4 e
      have each : ∀ en ∈ es.toList, ∃ y t, en.key = .str y t ∧ y ∈ tab.map (·.1) := fun en hen => by
        have := List.all_eq_true.mp h2 en hen
        split at this
        · rename_i y t ey
          exact ⟨y, t, ey, of_decide_eq_true this⟩
        · cases this
      have nz : z ∉ tab.map (·.1) := fun hm => by
        obtain ⟨p, hp, rfl⟩ := List.mem_map.mp hm
        have : ∃ d, tab.lookup p.1 = some d := by
          clear h1 h2 each hz hm
          induction tab with
          | nil => cases hp
          | cons q r ih =>
            rw [List.lookup_cons]
            cases hq : p.1 == q.1 with
            | true => exact ⟨_, rfl⟩
            | false =>
              rcases List.mem_cons.mp hp with rfl | hp
              · simp at hq
              · exact ih hp
        obtain ⟨d, hd⟩ := this
        rw [hd] at hz
        cases hz
      unfold PySem.W.nsIn
      rw [e]
      have f1 : es.toList.find? (·.key.isStr z) = none := by
        rw [List.find?_eq_none]
        intro en hen hs
        obtain ⟨y, t, ey, hy⟩ := each en hen
        rw [ey] at hs
        have : y = z := by simpa [Value.isStr] using hs
        exact nz (by rw [← this]; exact hy)
      have f2 : es.toList.any (·.refKey) = false := by
        rw [List.any_eq_false]
        intro en hen
        obtain ⟨y, t, ey, hy⟩ := each en hen
        unfold DictEntry.refKey
        rw [ey]
        exact Bool.false_ne_true
      simp only [f1, f2, Bool.false_eq_true, if_false]
    · cases h2
/-! ### the facts that the head is asked for -/
def exmOf (l : List (Nat × Nat × Bool)) (i j : Nat) : Option Bool := (l.find? fun e => e.1 == i && e.2.1 == j).map (·.2.2)
theorem exmOf_mem {l : List (Nat × Nat × Bool)} {i j : Nat} {b : Bool} (h : exmOf l i j = some b) : (i, j, b) ∈ l := by
  unfold exmOf at h
  obtain ⟨e, he, rfl⟩ := Option.map_eq_some_iff.mp h
  have h1 := List.mem_of_find?_eq_some he
  have h2 := List.find?_some he
  simp only [Bool.and_eq_true, beq_iff_eq] at h2
  obtain ⟨a, b, c⟩ := e
  obtain ⟨rfl, rfl⟩ := h2
  exact h1
def defD (d : FDat) : He.DefD := ⟨(d.x, none), d.x, d.x, d.params, d.body, d.scope, [], []⟩
def clsN (G : GI) (c : Nat) : Str := G.clss.getD c ""
def faOf (G : GI) (exms : List (Nat × Nat × Bool)) (ds : List FDat) : List He.Fa :=
  ds.map (fun d => .glo d.x) ++ (G.free.map .free ++ (G.clss.map .glo ++ (G.clss.map .exc ++ (exms.map (fun e => .exm (clsN G e.1) (clsN G e.2.1) e.2.2) ++ G.kds.map fun p => .glo p.1))))
def fnOf (ds : List FDat) : List He.DefD := ds.map defD
def tsOf (G : GI) : List He.Tab := G.kds.map fun p => (fun K => He.ga K p.1, p.2.map (·.1))
def exOf (G : GI) (K : PySem.W.Frag) : Bool := (G.cons.all fun p => conB K p.1 p.2) && G.kds.all fun p => tbB K (He.ga K p.1) p.2
section
variable {G : GI} {exms : List (Nat × Nat × Bool)} {ds : List FDat} {P : Program} {w : World} {K : PySem.W.Frag} {h : Heap} {mg : Str → Option Value} {base : Heap}
theorem exc_VE : ExcBaseFacts "ValueError" "ValueError.__new__" "ValueError.__init__" He.veBase := F.excBase_ValueError
/-- the law's def keeps its promise -/
theorem head_F (X : K.In h) (Gm : h.Ns mainGlobals mg) (c : He.SaysT (faOf G exms ds) (fnOf ds) (tsOf G) w K) (more : exOf G K = true) (hG : G.funs = ds.map fun d => (d.x, d.ps.length)) (hE : G.exm = exmOf exms) (hg : ∀ d ∈ ds, d.Good G)
    {dl : FDat} {il : Nat} {x : Str} (hil : ds[il]? = some dl) (hps : dl.ps = [x]) {fa : Addr} (hfa : mg dl.x = some (.ref fa)) (k : Nat) :
    ∃ (fd : FuncData) (CA : Nat → Addr), (∀ (s : Shared) (u : Value), BindsTo s fd ⟨[u], []⟩ [(x, u)]) ∧ ∀ base : Heap, K.In base → base.Ns mainGlobals mg →
      FnG P w K mg base (k + 1) fa fd [x] (spF ⟨K, CA, fun _ _ _ _ => False⟩ 1 (evF G.exm (ds.map fun (d : FDat) => (⟨d.N.length, d.ie⟩ : IF)) (k + 1) il)) := by
  have cd := c.d
  unfold exOf at more
  rw [Bool.and_eq_true] at more
  have inF : ∀ d ∈ ds, mg d.x = some (.ref (He.ga K d.x)) := fun d hd => He.glo_ok X Gm (cd.facts (List.mem_append_left _ (List.mem_map.mpr ⟨d, hd, rfl⟩)))
  have fun_ : ∀ d ∈ ds, ∃ fd, FunD K d.x d.x d.params d.body d.scope [] [] (He.ga K d.x) fd := fun d hd => cd.defs (d := defD d) (List.mem_map.mpr ⟨d, hd, rfl⟩)
  have hl := List.mem_of_getElem? hil
  have e := hfa.symm.trans (inF dl hl)
  cases e
  obtain ⟨fd, F⟩ := fun_ dl hl
  have bnd := F.bindsA (hg dl hl).bd
  refine ⟨fd, fun c => He.ga K (clsN G c), fun s u => ?_, fun base hb hbm => ?_⟩
  · have := bnd s [u] (by rw [hps]; rfl)
    rw [hps] at this
    exact this
  · have L := levels (G := G) (P := P) (w := w) (K := K) (mg := mg) (base := base) (CA := fun c => He.ga K (clsN G c)) ds hG hg (fun d hd => ?_) (fun x d hx => ?_) (fun x hx => ?_) (fun x t hx => ?_) (fun c x hx => ?_) (fun i j b hx => ?_) k
    · have z := fn_step dl (hg dl hl) L F
      rw [hps] at z
      have e2 : evF G.exm (ds.map fun (d : FDat) => (⟨d.N.length, d.ie⟩ : IF)) (k + 1) il = runF dl.N.length fun lk => evSs G.exm (evF G.exm (ds.map fun (d : FDat) => (⟨d.N.length, d.ie⟩ : IF)) k) lk dl.ie := by
        show (match (ds.map fun (d : FDat) => (⟨d.N.length, d.ie⟩ : IF))[il]? with
          | some f => runF f.nN fun lk => evSs G.exm (evF G.exm (ds.map fun (d : FDat) => (⟨d.N.length, d.ie⟩ : IF)) k) lk f.body
          | none => fun _ => .stk) = _
        rw [List.getElem?_map, hil]
        rfl
      rw [e2]
      exact z
    · obtain ⟨fd', F'⟩ := fun_ d hd
      exact ⟨_, fd', inF d hd, F'⟩
    · exact conB_ok X Gm (List.all_eq_true.mp more.1 (x, d) (PySem.mem_of_lookup hx))
    · exact He.free_ok X Gm (cd.facts (List.mem_append_right _ (List.mem_append_left _ (List.mem_map.mpr ⟨x, hx, rfl⟩))))
    · have hm := PySem.mem_of_lookup hx
      obtain ⟨i, hi, ei⟩ := List.mem_iff_getElem.mp hm
      have ht : (tsOf G)[i]? = some (fun K => He.ga K x, t.map (·.1)) := by
        unfold tsOf
        rw [List.getElem?_map, List.getElem?_eq_getElem hi, ei]
        rfl
      exact ⟨He.ga K x, He.glo_ok X Gm (cd.facts (List.mem_append_right _ (List.mem_append_right _ (List.mem_append_right _ (List.mem_append_right _ (List.mem_append_right _ (List.mem_map.mpr ⟨(x, t), hm, rfl⟩))))))), tbB_ok (List.all_eq_true.mp more.2 (x, t) hm) (c.tab i ht)⟩
    · have hm := List.mem_of_getElem? hx
      have en : clsN G c = x := by
        unfold clsN
        rw [List.getD_eq_getElem?_getD, hx]
        rfl
      obtain ⟨q1, q2, q3, q4⟩ := He.exc_ok (cd.facts (f := .exc x) (List.mem_append_right _ (List.mem_append_right _ (List.mem_append_right _ (List.mem_append_left _ (List.mem_map.mpr ⟨x, hm, rfl⟩))))))
      show mg x = some (.ref (He.ga K (clsN G c))) ∧ PySem.W.keepIn K (.ref (He.ga K (clsN G c))) = true ∧ _
      rw [en]
      exact ⟨He.glo_ok X Gm (cd.facts (List.mem_append_right _ (List.mem_append_right _ (List.mem_append_left _ (List.mem_map.mpr ⟨x, hm, rfl⟩))))), q2, ⟨_, _, _, _, exc_VE, q1⟩, q3, q4⟩
    · rw [hE] at hx
      exact He.exm_ok (cd.facts (f := .exm (clsN G i) (clsN G j) b) (List.mem_append_right _ (List.mem_append_right _ (List.mem_append_right _ (List.mem_append_right _ (List.mem_append_left _ (List.mem_map.mpr ⟨(i, j, b), exmOf_mem hx, rfl⟩)))))))
end
end VS
set_option Elab.async false
set_option linter.all false
set_option maxRecDepth 100000
set_option maxHeartbeats 2000000
/-! The VS layer, part Pa: the trees' meaning by rewriting. -/
namespace VS
open PySem PySem.Spec PyProof.Rows L2
section
variable {α β : Type} (m : M α) (f : α → M β) (ρ : Env) (d e : D) (i j : Nat) (op op' : Op) (o : O) (os : List O) (ms : List (M O)) (mo ma mb mc mv : M O) (mt mt' : M T) (mq mq' : M Bool) (lk : Lks) (s s' : M Fl) (es : IEs) (Φ : Nat → FS) (a b c : IE) (xm : Nat → Nat → Option Bool)
@[simp] theorem x_bnd : bnd m f ρ = (match m ρ with | .ok a ρ2 => f a ρ2 | .exn x ρ2 => .exn x ρ2 | .stk => .stk) := (rfl)
@[simp] theorem x_ret (a : α) : VS.ret a ρ = .ok a ρ := (rfl)
@[simp] theorem x_stuck : (stuck : M α) ρ = .stk := (rfl)
@[simp] theorem x_Og1 : O.get ρ (.val d) = some d := (rfl)
@[simp] theorem x_Og2 : O.get ρ (.ref i) = (match ρ[i]? with | some (some t) => some t.toD | _ => none) := (rfl)
@[simp] theorem x_toD1 : (T.shr d).toD = d := (rfl)
@[simp] theorem x_toD2 (ds : List D) : (T.lst ds).toD = .list ds := (rfl)
@[simp] theorem x_own1 : (T.shr d).own = false := (rfl)
@[simp] theorem x_own2 (ds : List D) : (T.lst ds).own = true := (rfl)
@[simp] theorem x_own3 (ds : List (Key × D)) : (T.dic ds).own = true := (rfl)
@[simp] theorem x_mo0 {α β : Type} (f : α → Option β) : mapO f [] = some [] := (rfl)
@[simp] theorem x_mo1 {α β : Type} (f : α → Option β) (x : α) (xs : List α) : mapO f (x :: xs) = (match f x, mapO f xs with | some y, some ys => some (y :: ys) | _, _ => none) := (rfl)
@[simp] theorem x_gets : gets ρ os = mapO (O.get ρ) os := (rfl)
@[simp] theorem x_fin : fin op os ρ = (match gets ρ os with | some ds => (match opT op ds with | some t => .ok t ρ | none => .stk) | none => .stk) := (rfl)
@[simp] theorem x_app : mApp op ms = bnd (mOs ms) (fin op) := (rfl)
@[simp] theorem x_os0 : mOs [] = VS.ret [] := (rfl)
@[simp] theorem x_os1 : mOs (mo :: ms) = bnd mo fun o => bnd (mOs ms) fun os => VS.ret (o :: os) := (rfl)
@[simp] theorem x_oslot : mOslot i ρ = (match ρ[i]? with | some (some (.shr d)) => .ok (.val d) ρ | some (some _) => .ok (.ref i) ρ | _ => .stk) := (rfl)
@[simp] theorem x_slot : mSlot i ρ = (match ρ[i]? with | some (some (.shr d)) => .ok (.shr d) ρ | some (some t) => .ok (.shr t.toD) (ρ.set i (some (.shr t.toD))) | _ => .stk) := (rfl)
@[simp] theorem x_lit : mLit d ρ = .ok (.shr d) ρ := (rfl)
@[simp] theorem x_opd : mOpd mt = bnd mt fun t => VS.ret (.val t.toD) := (rfl)
@[simp] theorem x_valO1 : valO (.val d) = some d := (rfl)
@[simp] theorem x_valO2 : valO (.ref i) = none := (rfl)
@[simp] theorem x_vals : vals os = mapO valO os := (rfl)
@[simp] theorem x_mkTup : mkTup os ρ = (match vals os with | some ds => if ds.length ≤ sizeLine then .ok (.shr (.tuple ds)) ρ else .stk | none => .stk) := by
  unfold mkTup; cases vals os with
  | none => rfl
  | some ds => by_cases h : ds.length ≤ sizeLine <;> simp [h] <;> rfl
@[simp] theorem x_mkLst : mkLst os ρ = (match vals os with | some ds => if ds.length ≤ sizeLine then .ok (.lst ds) ρ else .stk | none => .stk) := by
  unfold mkLst; cases vals os with
  | none => rfl
  | some ds => by_cases h : ds.length ≤ sizeLine <;> simp [h] <;> rfl
@[simp] theorem x_tup : mTup ms = bnd (mOs ms) mkTup := (rfl)
@[simp] theorem x_lst : mLst ms = bnd (mOs ms) mkLst := (rfl)
@[simp] theorem x_truth : mTruth mo ρ = (match mo ρ with | .ok o ρ2 => (match (o.get ρ2).bind truth with | some b => .ok b ρ2 | none => .stk) | .exn x ρ2 => .exn x ρ2 | .stk => .stk) := by
  unfold mTruth bnd; cases mo ρ <;> first | rfl | (rename_i o ρ2; dsimp only; cases (o.get ρ2).bind truth <;> rfl)
@[simp] theorem x_tr1 (b : Bool) : truth (.bool b) = some b := (rfl)
@[simp] theorem x_tr2 (xs : List D) : truth (.tuple xs) = some (!xs.isEmpty) := (rfl)
@[simp] theorem x_tr3 (xs : List D) : truth (.list xs) = some (!xs.isEmpty) := (rfl)
@[simp] theorem x_tr4 : truth .none = some false := (rfl)
@[simp] theorem x_tr5 (n : Int) : truth (.int n) = some (n != 0) := (rfl)
@[simp] theorem x_mNot : mNot mq = bnd mq fun b => VS.ret (!b) := (rfl)
@[simp] theorem x_andT : mAndT mq mq' ρ = (match mq ρ with | .ok b ρ2 => (match b with | true => mq' ρ2 | false => .ok false ρ2) | .exn x ρ2 => .exn x ρ2 | .stk => .stk) := by
  unfold mAndT bnd; cases mq ρ <;> first | rfl | (rename_i b _; cases b <;> rfl)
@[simp] theorem x_orT : mOrT mq mq' ρ = (match mq ρ with | .ok b ρ2 => (match b with | true => .ok true ρ2 | false => mq' ρ2) | .exn x ρ2 => .exn x ρ2 | .stk => .stk) := by
  unfold mOrT bnd; cases mq ρ <;> first | rfl | (rename_i b _; cases b <;> rfl)
@[simp] theorem x_notV : mNotV mo = bnd (mTruth mo) fun b => VS.ret (.shr (.bool (!b))) := (rfl)
@[simp] theorem x_andV : mAndV mt mt' ρ = (match mt ρ with | .ok t ρ2 => (match truth t.toD with | some true => mt' ρ2 | some false => .ok (.shr t.toD) ρ2 | none => .stk) | .exn x ρ2 => .exn x ρ2 | .stk => .stk) := by
  unfold mAndV bnd; cases mt ρ <;> first | rfl | (rename_i t _; dsimp only; cases truth t.toD with | none => rfl | some b => cases b <;> rfl)
@[simp] theorem x_orV : mOrV mt mt' ρ = (match mt ρ with | .ok t ρ2 => (match truth t.toD with | some true => .ok (.shr t.toD) ρ2 | some false => mt' ρ2 | none => .stk) | .exn x ρ2 => .exn x ρ2 | .stk => .stk) := by
  unfold mOrV bnd; cases mt ρ <;> first | rfl | (rename_i t _; dsimp only; cases truth t.toD with | none => rfl | some b => cases b <;> rfl)
@[simp] theorem x_if (m1 m2 : M α) : mIf mq m1 m2 ρ = (match mq ρ with | .ok b ρ2 => (match b with | true => m1 ρ2 | false => m2 ρ2) | .exn x ρ2 => .exn x ρ2 | .stk => .stk) := by
  unfold mIf bnd; cases mq ρ <;> first | rfl | (rename_i b _; cases b <;> rfl)
@[simp] theorem x_ifS : mIfS mq s s' ρ = (match mq ρ with | .ok b ρ2 => (match b with | true => s ρ2 | false => s' ρ2) | .exn x ρ2 => .exn x ρ2 | .stk => .stk) := by
  unfold mIfS bnd; cases mq ρ <;> first | rfl | (rename_i b _; cases b <;> rfl)
@[simp] theorem x_bool : mBool mt ρ = (match mt ρ with | .ok t ρ2 => (match t.toD with | .bool b => .ok b ρ2 | _ => .stk) | .exn x ρ2 => .exn x ρ2 | .stk => .stk) := by
  unfold mBool bnd; cases mt ρ <;> first | rfl | (rename_i t _; dsimp only; cases t.toD <;> rfl)
@[simp] theorem x_seq : seqM s s' ρ = (match s ρ with | .ok fl ρ2 => (match fl with | .next => s' ρ2 | .brk => .ok .brk ρ2 | .cont => .ok .cont ρ2 | .ret t => .ok (.ret t) ρ2) | .exn x ρ2 => .exn x ρ2 | .stk => .stk) := by
  unfold seqM bnd; cases s ρ <;> first | rfl | (rename_i fl _; cases fl <;> rfl)
@[simp] theorem x_put (t : T) : put lk i t ρ = if lkd lk i = false ∧ i < ρ.length then .ok .next (ρ.set i (some t)) else .stk := (rfl)
@[simp] theorem x_lkd : lkd lk i = lk.getD i false := (rfl)
@[simp] theorem x_set : mSet lk i mt = bnd mt (put lk i) := (rfl)
@[simp] theorem x_mret : mRet mt = bnd mt fun t => VS.ret (.ret t) := (rfl)
@[simp] theorem x_mretN : mRetN ρ = .ok (.ret (.shr .none)) ρ := (rfl)
@[simp] theorem x_drop : mDrop mt = bnd mt fun _ => VS.ret .next := (rfl)
@[simp] theorem x_raise : mRaise i ρ = .exn ⟨i, []⟩ ρ := (rfl)
@[simp] theorem x_aslot : mAslot i ρ = (match ρ[i]? with | some (some (.shr d)) => .ok (.mv (.shr d)) ρ | some (some _) => .ok (.ref i) ρ | _ => .stk) := (rfl)
@[simp] theorem x_aval : mAval mt = bnd mt fun t => VS.ret (.mv t) := (rfl)
@[simp] theorem x_as0 : mAs [] = VS.ret [] := (rfl)
@[simp] theorem x_as1 (x : M A) (xs : List (M A)) : mAs (x :: xs) = bnd x fun a => bnd (mAs xs) fun as => VS.ret (a :: as) := (rfl)
@[simp] theorem x_Ag1 (t : T) : A.get ρ (.mv t) = some t := (rfl)
@[simp] theorem x_Ag2 : A.get ρ (.ref i) = (match ρ[i]? with | some (some t) => if t.own then some t else none | _ => none) := (rfl)
@[simp] theorem x_refs0 : refs [] = [] := (rfl)
@[simp] theorem x_refs1 (t : T) (as : List A) : refs (.mv t :: as) = refs as := (rfl)
@[simp] theorem x_refs2 (as : List A) : refs (.ref i :: as) = i :: refs as := (rfl)
@[simp] theorem x_back0 (outs : Env) : backA [] outs ρ = ρ := (rfl)
@[simp] theorem x_back1 (as : List A) (w : Option T) (outs : Env) : backA (.ref i :: as) (w :: outs) ρ = backA as outs (ρ.set i w) := (rfl)
@[simp] theorem x_back2 (as : List A) (w : Option T) (outs : Env) (t : T) : backA (.mv t :: as) (w :: outs) ρ = backA as outs ρ := (rfl)
@[simp] theorem x_finCall (g : FS) (as : List A) : finCall g as ρ = (match mapO (A.get ρ) as with
  | some ts => if (refs as).Nodup then (match g ts with
    | .ok t outs => if outs.length = as.length then .ok t (backA as outs ρ) else .stk
    | .exn x outs => if outs.length = as.length then .exn x (backA as outs ρ) else .stk
    | .stk => .stk)
    else .stk
  | none => .stk) := (rfl)
@[simp] theorem x_call (g : FS) (xs : List (M A)) : mCall g xs = bnd (mAs xs) (finCall g) := (rfl)
@[simp] theorem x_evs0 : evs Φ .nil = [] := by rw [evs]
@[simp] theorem x_evs1 : evs Φ (.cons a es) = ev Φ a :: evs Φ es := by rw [evs]
@[simp] theorem x_evSs0 : evSs xm Φ lk .nil ρ = .ok .next ρ := by rw [evSs]; rfl
@[simp] theorem x_evSs1 (t : IS) (ts : ISs) : evSs xm Φ lk (.cons t ts) = seqM (evS xm Φ lk t) (evSs xm Φ lk ts) := by rw [evSs]
@[simp] theorem x_mke : (Sm.mk' mt).e = mt := (rfl)
@[simp] theorem x_mkt : (Sm.mk' mt).t = mTruth (mOpd mt) := (rfl)
@[simp] theorem x_mko : (Sm.mk' mt).o = mOpd mt := (rfl)
@[simp] theorem x_mkv : (Sm.mk' mt).v = mOpd mt := (rfl)
@[simp] theorem x_mka : (Sm.mk' mt).a = mAval mt := (rfl)
@[simp] theorem x_out0 : outsOf [] ρ = [] := (rfl)
@[simp] theorem x_out1 (b : Bool) : outsOf [b] ρ = [if b then (ρ[0]?).getD none else none] := by cases b <;> rfl
@[simp] theorem x_out2 (b c : Bool) : outsOf [b, c] ρ = [if b then (ρ[0]?).getD none else none, if c then (ρ[1]?).getD none else none] := by cases b <;> cases c <;> rfl
@[simp] theorem x_out3 (b c d : Bool) : outsOf [b, c, d] ρ = [if b then (ρ[0]?).getD none else none, if c then (ρ[1]?).getD none else none, if d then (ρ[2]?).getD none else none] := by cases b <;> cases c <;> cases d <;> rfl
@[simp] theorem x_out4 (b c d e : Bool) : outsOf [b, c, d, e] ρ = [if b then (ρ[0]?).getD none else none, if c then (ρ[1]?).getD none else none, if d then (ρ[2]?).getD none else none, if e then (ρ[3]?).getD none else none] := by cases b <;> cases c <;> cases d <;> cases e <;> rfl
@[simp] theorem op_add_i (i j : Int) : opT .add [.int i, .int j] = some (.shr (.int (i + j))) := (rfl)
@[simp] theorem op_sub_i (i j : Int) : opT .sub [.int i, .int j] = some (.shr (.int (i - j))) := (rfl)
@[simp] theorem op_mul (i j : Int) : opT .mul [.int i, .int j] = if small64 i || small64 j then some (.shr (.int (i * j))) else none := (rfl)
@[simp] theorem op_fdiv (i j : Int) : opT .fdiv [.int i, .int j] = if decide (0 < j) && decide (j < 1073741824) then some (.shr (.int (i / j))) else none := (rfl)
@[simp] theorem op_mod (i j : Int) : opT .mod [.int i, .int j] = if 0 < j then some (.shr (.int (i % j))) else none := (rfl)
@[simp] theorem op_pow1018 : opT .pow [.int 10, .int 18] = some (.shr (.int (10 ^ 18))) := (rfl)
@[simp] theorem op_intI (i : Int) : opT .int [.int i] = some (.shr (.int i)) := (rfl)
@[simp] theorem op_absI (i : Int) : opT .abs [.int i] = some (.shr (.int (if i < 0 then -i else i))) := (rfl)
@[simp] theorem op_addL (xs ys : List D) : opT .add [.list xs, .list ys] = if xs.length + ys.length ≤ sizeLine then some (.lst (xs ++ ys)) else none := (rfl)
@[simp] theorem op_addT (xs ys : List D) : opT .add [.tuple xs, .tuple ys] = if xs.length + ys.length ≤ sizeLine then some (.shr (.tuple (xs ++ ys))) else none := (rfl)
@[simp] theorem op_strI (i : Int) : opT .str [.int i] = if i.natAbs.log2 < 1920 then some (.shr (.str (toString i))) else none := (rfl)
@[simp] theorem op_boolB (b : Bool) : opT .bool [.bool b] = some (.shr (.bool b)) := (rfl)
@[simp] theorem op_tupL (xs : List D) : opT .tuple [.list xs] = some (.shr (.tuple xs)) := (rfl)
@[simp] theorem op_tupT (xs : List D) : opT .tuple [.tuple xs] = some (.shr (.tuple xs)) := (rfl)
@[simp] theorem op_lstL (xs : List D) : opT .list [.list xs] = some (.lst xs) := (rfl)
@[simp] theorem op_lstT (xs : List D) : opT .list [.tuple xs] = some (.lst xs) := (rfl)
@[simp] theorem x_mPart0 : mPart none = VS.ret none := (rfl)
@[simp] theorem x_mPart1 : mPart (some mo) = bnd mo fun o => bnd (getI o) fun i => VS.ret (some i) := (rfl)
@[simp] theorem x_getI : getI o ρ = (match o.get ρ with | some (.int i) => .ok i ρ | _ => .stk) := (rfl)
@[simp] theorem x_finSl (lo hi : Option Int) : finSl o lo hi ρ = (match o.get ρ with | some d => (match slT d lo hi with | some t => .ok t ρ | none => .stk) | none => .stk) := (rfl)
@[simp] theorem x_mSl (lo hi : Option (M O)) : mSl mo lo hi = bnd mo fun o => bnd (mPart lo) fun l => bnd (mPart hi) fun h => finSl o l h := (rfl)
@[simp] theorem x_slL (xs : List D) (lo hi : Option Int) : slT (.list xs) lo hi = some (.lst (cutL xs lo hi)) := (rfl)
@[simp] theorem x_slTu (xs : List D) (lo hi : Option Int) : slT (.tuple xs) lo hi = some (.shr (.tuple (cutL xs lo hi))) := (rfl)
@[simp] theorem x_ev1 (s1 : Sm) : evSl false false [s1] = mSl s1.o none none := (rfl)
@[simp] theorem x_ev2 (s1 s2 : Sm) : evSl true false [s1, s2] = mSl s1.o (some s2.o) none := (rfl)
@[simp] theorem x_ev3 (s1 s2 : Sm) : evSl false true [s1, s2] = mSl s1.o none (some s2.o) := (rfl)
@[simp] theorem x_ev4 (s1 s2 s3 : Sm) : evSl true true [s1, s2, s3] = mSl s1.o (some s2.o) (some s3.o) := (rfl)
@[simp] theorem x_setT1 (xs : List D) (k : Int) : setT (.lst xs) (.int k) d = (ixN xs.length k).map fun j => .lst (xs.set j d) := (rfl)
@[simp] theorem x_setT2 (kvs : List (Key × D)) : setT (.dic kvs) e d = (match unD e with | some k => if kvs.length < sizeLine then some (.dic (putG kvs k d)) else none | none => none) := (rfl)
@[simp] theorem x_finSet : finSet i d o ρ = (match o.get ρ, ρ[i]? with | some k, some (some t) => (match setT t k d with | some t' => .ok .next (ρ.set i (some t')) | none => .stk) | _, _ => .stk) := (rfl)
@[simp] theorem x_store : mStore ma mb mt ρ = (match mt ρ with | .ok t ρ2 => (match ma ρ2 with | .ok oc ρ3 => (match oc with | .ref j => (match mb ρ3 with | .ok o ρ4 => finSet j t.toD o ρ4 | .exn x r => .exn x r | .stk => .stk) | .val _ => .stk) | .exn x r => .exn x r | .stk => .stk) | .exn x r => .exn x r | .stk => .stk) := by
  unfold mStore bnd; cases mt ρ <;> first | rfl | (rename_i t ρ2; dsimp only; cases ma ρ2 <;> first | rfl | (rename_i oc ρ3; cases oc <;> first | rfl | (dsimp only; cases mb ρ3 <;> rfl)))
@[simp] theorem x_augGet : finAugGet j o ρ = (match o.get ρ, ρ[j]? with
  | some (.int k), some (some (.lst xs)) => (match ixN xs.length k with
    | some n => (match xs[n]? with
      | some d => .ok d ρ
      | none => .stk)
    | none => .stk)
  | _, _ => .stk) := (rfl)
@[simp] theorem x_augI1 (i j : Int) : augI .add (.int i) (.int j) = some (.int (i + j)) := (rfl)
@[simp] theorem x_augS : mAugS op ma mb mt ρ = (match ma ρ with | .ok oc ρ2 => (match oc with | .ref j => (match mb ρ2 with | .ok o ρ3 => (match finAugGet j o ρ3 with | .ok a ρ4 => (match mt ρ4 with | .ok t ρ5 => (match augI op a t.toD with | some d => finSet j d o ρ5 | none => .stk) | .exn x r => .exn x r | .stk => .stk) | .exn x r => .exn x r | .stk => .stk) | .exn x r => .exn x r | .stk => .stk) | .val _ => .stk) | .exn x r => .exn x r | .stk => .stk) := by
  unfold mAugS bnd; cases ma ρ with
  | ok oc ρ2 => cases oc with
    | val _ => rfl
    | ref j => dsimp only; cases mb ρ2 with
      | ok o ρ3 => dsimp only; cases finAugGet j o ρ3 with
        | ok a ρ4 => dsimp only; cases mt ρ4 with
          | ok t ρ5 => dsimp only; cases augI op a t.toD <;> rfl
          | exn _ _ => rfl
          | stk => rfl
        | exn _ _ => rfl
        | stk => rfl
      | exn _ _ => rfl
      | stk => rfl
  | exn _ _ => rfl
  | stk => rfl
@[simp] theorem le_line {n : Nat} (h : n ≤ 4096) : (n ≤ sizeLine) = True := eq_true (Nat.le_trans h (by decide))
theorem atI_nat {α : Type} (xs : List α) (n : Nat) (h : n < xs.length) : atI xs (n : Int) = xs[n]? := by
  unfold atI ixN
  rw [if_pos (Int.natCast_nonneg n), if_pos (by omega)]
  rfl
@[simp] theorem x_ix0 (x : D) (xs : List D) : atI (x :: xs) 0 = some x := by exact atI_nat _ 0 (by simp)
@[simp] theorem x_ix1 (x y : D) (xs : List D) : atI (x :: y :: xs) 1 = some y := by exact atI_nat _ 1 (by simp)
@[simp] theorem x_ix2 (x y z : D) (xs : List D) : atI (x :: y :: z :: xs) 2 = some z := by exact atI_nat _ 2 (by simp)
@[simp] theorem x_ix3 (x y z u : D) (xs : List D) : atI (x :: y :: z :: u :: xs) 3 = some u := by exact atI_nat _ 3 (by simp)
@[simp] theorem ixN4_0 : ixN 4 0 = some 0 := (rfl)
@[simp] theorem ixN4_1 : ixN 4 1 = some 1 := (rfl)
@[simp] theorem ixN4_2 : ixN 4 2 = some 2 := (rfl)
@[simp] theorem ixN4_3 : ixN 4 3 = some 3 := (rfl)
@[simp] theorem okD_int (i : Int) : okD (.int i) = true := (rfl)
@[simp] theorem eqv_int (i j : Int) : PyData.eqv (.int i) (.int j) = (i == j) := by rw [PyData.eqv]
@[simp] theorem x_lenL (xs : List D) : lenT (.list xs) = some xs.length := (rfl)
@[simp] theorem x_lenT (xs : List D) : lenT (.tuple xs) = some xs.length := (rfl)
@[simp] theorem x_wipe0 : wipeE [] ρ = ρ := (rfl)
@[simp] theorem x_wipe1 (own : List Nat) : wipeE (i :: own) ρ = (wipeE own ρ).set i none := (rfl)
@[simp] theorem x_bindN : bindTg lk (.name i) d ρ = if lkd lk i = false ∧ i < ρ.length then some (ρ.set i (some (.shr d))) else none := (rfl)
@[simp] theorem x_bindT (is : List Nat) (ds : List D) : bindTg lk (.tup is) (.tuple ds) ρ = bindAll lk is ds ρ := (rfl)
@[simp] theorem x_bindA0 : bindAll lk [] [] ρ = some ρ := (rfl)
@[simp] theorem x_bindA1 (is : List Nat) (ds : List D) : bindAll lk (i :: is) (d :: ds) ρ = if lkd lk i = false ∧ i < ρ.length ∧ i ∉ is then bindAll lk is ds (ρ.set i (some (.shr d))) else none := (rfl)
@[simp] theorem x_evIf0 : evIf [] = VS.ret true := (rfl)
@[simp] theorem x_evIf1 (s1 : Sm) : evIf [s1] = s1.t := (rfl)
@[simp] theorem eqv_str (x y : Str) : PyData.eqv (.str x) (.str y) = (x == y) := by rw [PyData.eqv]
@[simp] theorem op_lt (i j : Int) : opT .lt [.int i, .int j] = some (.shr (.bool (decide (i < j)))) := (rfl)
@[simp] theorem op_le (i j : Int) : opT .le [.int i, .int j] = some (.shr (.bool (decide (i ≤ j)))) := (rfl)
@[simp] theorem op_gt (i j : Int) : opT .gt [.int i, .int j] = some (.shr (.bool (decide (j < i)))) := (rfl)
@[simp] theorem op_ge (i j : Int) : opT .ge [.int i, .int j] = some (.shr (.bool (decide (j ≤ i)))) := (rfl)
@[simp] theorem op_eq : opT .eq [d, e] = if okD d && okD e then some (.shr (.bool (PyData.eqv d e))) else none := (rfl)
@[simp] theorem op_ne : opT .ne [d, e] = if okD d && okD e then some (.shr (.bool (!PyData.eqv d e))) else none := (rfl)
@[simp] theorem op_in : opT .isin [d, e] = (inT d e).map fun b => .shr (.bool b) := (rfl)
@[simp] theorem op_nin : opT .notin [d, e] = (inT d e).map fun b => .shr (.bool (!b)) := (rfl)
@[simp] theorem op_isN : opT .isN [d] = some (.shr (.bool (isNone d))) := (rfl)
@[simp] theorem op_notN : opT .notN [d] = some (.shr (.bool (!isNone d))) := (rfl)
@[simp] theorem op_ixL (xs : List D) (i : Int) : opT .idx [.list xs, .int i] = (atI xs i).map .shr := (rfl)
@[simp] theorem op_ixT (xs : List D) (i : Int) : opT .idx [.tuple xs, .int i] = (atI xs i).map .shr := (rfl)
@[simp] theorem op_len : opT .len [d] = (lenT d).map fun (n : Nat) => .shr (.int (n : Int)) := (rfl)
@[simp] theorem op_isi (ty : String) : opT (.isi ty) [d] = (kitB (dTy d) ty).map fun b => .shr (.bool b) := (rfl)
end
end VS
set_option Elab.async false
set_option linter.all false
set_option maxRecDepth 100000
set_option maxHeartbeats 2000000
/-! The VS layer, part Pb: loops and comprehensions by their turns. -/
namespace VS
open PySem PySem.Spec PyProof.Rows L2
/-- one turn of a list comprehension -/
def turn (own : List Nat) (tg : Tg) (mt : M Bool) (me : M T) (d : D) (ρ : Env) : R (Option D) := match bindTg [] tg d ρ with
  | none => .stk
  | some ρ1 => match mt ρ1 with
    | .ok true ρ2 => match me ρ2 with
      | .ok t ρ3 => .ok (some t.toD) (wipeE own ρ3)
      | _ => .stk
    | .ok false ρ2 => .ok none (wipeE own ρ2)
    | _ => .stk
section
variable {own : List Nat} {tg : Tg} {mt : M Bool} {me : M T} {ρ ρ1 ρ2 : Env} {d : D} {ds acc : List D}
theorem lcL_some {x : D} (h : turn own tg mt me d ρ = .ok (some x) ρ1) (l : acc.length < sizeLine) : lcL own tg mt me (d :: ds) acc ρ = lcL own tg mt me ds (acc ++ [x]) ρ1 := by
  unfold turn at h
  rw [lcL]
  dsimp only
  cases e1 : bindTg [] tg d ρ with
  | none => rw [e1] at h; cases h
  | some r1 =>
    rw [e1] at h
    dsimp only at h ⊢
    cases e2 : mt r1 with
    | stk => rw [e2] at h; cases h
    | exn _ _ => rw [e2] at h; cases h
    | ok b r2 =>
      rw [e2] at h
      cases b with
      | false => cases h
      | true =>
        dsimp only at h ⊢
        cases e3 : me r2 with
        | stk => rw [e3] at h; cases h
        | exn _ _ => rw [e3] at h; cases h
        | ok t r3 =>
          rw [e3] at h
          cases h
          dsimp only
          rw [if_pos l]
theorem lcL_none (h : turn own tg mt me d ρ = .ok none ρ1) : lcL own tg mt me (d :: ds) acc ρ = lcL own tg mt me ds acc ρ1 := by
  unfold turn at h
  rw [lcL]
  dsimp only
  cases e1 : bindTg [] tg d ρ with
  | none => rw [e1] at h; cases h
  | some r1 =>
    rw [e1] at h
    dsimp only at h ⊢
    cases e2 : mt r1 with
    | stk => rw [e2] at h; cases h
    | exn _ _ => rw [e2] at h; cases h
    | ok b r2 =>
      rw [e2] at h
      cases b with
      | false => cases h; rfl
      | true =>
        dsimp only at h ⊢
        cases e3 : me r2 with
        | stk => rw [e3] at h; cases h
        | exn _ _ => rw [e3] at h; cases h
        | ok t r3 => rw [e3] at h; cases h
/-- turns that leave the slots as they were -/
theorem lcL_pure (g : D → Option D) (ρ : Env) : ∀ (ds acc : List D), (∀ d ∈ ds, turn own tg mt me d ρ = .ok (g d) ρ) → acc.length + ds.length ≤ sizeLine → lcL own tg mt me ds acc ρ = .ok (acc ++ ds.filterMap g) ρ
  | [], acc, _, _ => by rw [lcL]; simp
  | d :: ds, acc, h, l => by
    have h1 := h d (.head _)
    have h2 := fun e he => h e (.tail _ he)
    simp only [List.length_cons] at l
    cases e : g d with
    | none =>
      rw [e] at h1
      rw [lcL_none h1, lcL_pure g ρ ds acc h2 (by omega), List.filterMap_cons_none e]
    | some x =>
      rw [e] at h1
      rw [lcL_some h1 (by omega), lcL_pure g ρ ds (acc ++ [x]) h2 (by simp; omega), List.filterMap_cons_some e, List.append_assoc]
      rfl
theorem mLc_pure {it : M (List D)} (g : D → Option D) (hit : it ρ = .ok ds ρ1) (hg : (own.all (notOwn ρ1) && tg.slots.all (fun i => own.contains i) && own.all (fun i => decide (i < ρ1.length))) = true)
    (h : ∀ d ∈ ds, turn own tg mt me d (wipeE own ρ1) = .ok (g d) (wipeE own ρ1)) (l : ds.length ≤ sizeLine) : mLc own it tg mt me ρ = .ok (.lst (ds.filterMap g)) (backE own ρ1 (wipeE own ρ1)) := by
  unfold mLc bnd
  rw [hit]
  show lcAll own tg mt me ds ρ1 = _
  unfold lcAll
  rw [if_pos hg, lcL_pure g _ ds [] h (by simpa using l)]
  rfl
end
end VS
set_option Elab.async false
set_option linter.all false
set_option maxRecDepth 100000
set_option maxHeartbeats 2000000
/-! The VS layer, part Pc: more equations; loops by an invariant; dicts of ints; sorted rows of counts. -/
namespace VS
open PySem PySem.Spec PyProof.Rows L2
section
variable {α β : Type} (ρ : Env) (d e : D) (i j : Nat) (op op' : Op) (o : O) (os : List O) (ms : List (M O)) (mo : M O) (mt mt' : M T) (mq : M Bool) (lk : Lks) (s s' : M Fl) (mu : Mu)
@[simp] theorem x_mu : mMu mu i ms ρ = if ownList i ρ then bnd (mOs ms) (finMu mu i) ρ else .stk := (rfl)
@[simp] theorem x_finMu : finMu mu i os ρ = (match vals os, ρ[i]? with | some ds, some (some t) => (match muT mu t ds with | some (t', d) => .ok (.shr d) (ρ.set i (some t')) | none => .stk) | _, _ => .stk) := (rfl)
@[simp] theorem x_ownL : ownList i ρ = (match ρ[i]? with | some (some (.lst _)) => true | _ => false) := (rfl)
@[simp] theorem mu_app (xs : List D) : muT .append (.lst xs) [d] = if xs.length < sizeLine then some (.lst (xs ++ [d]), .none) else none := (rfl)
@[simp] theorem mu_ext (xs ys : List D) : muT .extend (.lst xs) [.list ys] = if xs.length + ys.length ≤ sizeLine then some (.lst (xs ++ ys), .none) else none := (rfl)
@[simp] theorem mu_pop (xs : List D) : muT .pop (.lst (xs ++ [d])) [] = some (.lst xs, d) := by
  show ((xs ++ [d])[(xs ++ [d]).length - 1]?).map _ = _
  simp
@[simp] theorem x_for (it : M (List D)) (tg : Tg) (b : M Fl) : mFor lk it tg b = bnd it (forL lk tg b) := (rfl)
@[simp] theorem x_evI1 (s1 : Sm) : evIt .data [s1] = mIter s1.e := (rfl)
@[simp] theorem x_evI2 (ss : List Sm) : evIt .rng1 ss = mRng1 (ss.map Sm.o) := (rfl)
@[simp] theorem x_evI3 (ss : List Sm) : evIt .rng2 ss = mRng2 (ss.map Sm.o) := (rfl)
@[simp] theorem x_iter : mIter mt ρ = (match mt ρ with | .ok t ρ2 => (match items t.toD with | some ds => .ok ds ρ2 | none => .stk) | .exn x ρ2 => .exn x ρ2 | .stk => .stk) := by
  unfold mIter bnd; cases mt ρ <;> first | rfl | (rename_i t _; dsimp only; cases items t.toD <;> rfl)
@[simp] theorem x_itL (xs : List D) : items (.list xs) = some xs := (rfl)
@[simp] theorem x_itT (xs : List D) : items (.tuple xs) = some xs := (rfl)
@[simp] theorem x_rng1 (xs : List (M O)) : mRng1 xs = bnd (mOs xs) rngF1 := (rfl)
@[simp] theorem x_kix (tab : Tb) : mKix tab mo ρ = (match mo ρ with | .ok o ρ2 => (match o.get ρ2 with | some (.str z) => (match tab.lookup z with | some d => .ok (.shr d) ρ2 | none => .stk) | _ => .stk) | .exn x ρ2 => .exn x ρ2 | .stk => .stk) := by
  unfold mKix bnd; cases mo ρ <;> rfl
@[simp] theorem x_kin (neg : Bool) (tab : Tb) : mKin neg tab mo ρ = (match mo ρ with | .ok o ρ2 => (match o.get ρ2 with | some (.str z) => .ok (.shr (.bool (neg != (tab.lookup z).isSome))) ρ2 | _ => .stk) | .exn x ρ2 => .exn x ρ2 | .stk => .stk) := by
  unfold mKin bnd; cases mo ρ <;> rfl
@[simp] theorem x_asg (tg : Tg) : mAsg lk tg mt ρ = (match mt ρ with | .ok t ρ2 => (match bindTg lk tg t.toD ρ2 with | some ρ' => .ok .next ρ' | none => .stk) | .exn x ρ2 => .exn x ρ2 | .stk => .stk) := by
  unfold mAsg bnd; cases mt ρ <;> rfl
@[simp] theorem x_par (is : List Nat) (xs : List (M A)) : mPar lk is xs = bnd (mAs xs) (finPar lk is) := (rfl)
@[simp] theorem x_finPar (is : List Nat) (as : List A) : finPar lk is as ρ = (match putAll lk is as ρ with | some ρ' => .ok .next ρ' | none => .stk) := (rfl)
@[simp] theorem x_putA0 : putAll lk [] [] ρ = some ρ := (rfl)
@[simp] theorem x_putA1 (is : List Nat) (t : T) (as : List A) : putAll lk (i :: is) (.mv t :: as) ρ = if lkd lk i = false ∧ i < ρ.length then putAll lk is as (ρ.set i (some t)) else none := (rfl)
@[simp] theorem x_try (ex : Nat → Option Bool) : mTry ex s s' ρ = (match s ρ with | .exn x ρ' => (match ex x.cls with | some true => noExn (s' ρ') | some false => .exn x ρ' | none => .stk) | r => r) := (rfl)
@[simp] theorem x_noE1 {α : Type} (a : α) : noExn (.ok a ρ) = .ok a ρ := (rfl)
@[simp] theorem x_chain (op' : Op) (ma mb mc : M O) : mChain op op' ma mb mc = bnd ma fun a => bnd mb fun b => bnd (fin op [a, b]) fun t => match t.toD with
  | .bool true => bnd mc fun c => fin op' [b, c]
  | .bool false => VS.ret (.shr (.bool false))
  | _ => stuck := (rfl)
theorem while_step (c : M Bool) (b : M Fl) (n : Nat) {ρ ρ1 ρ2 : Env} (h1 : c ρ = .ok true ρ1) (h2 : b ρ1 = .ok .next ρ2) : whileL c b (n + 1) ρ = whileL c b n ρ2 := by
  simp [whileL, loopM, bnd, h1, h2]
theorem while_end (c : M Bool) (b : M Fl) (n : Nat) {ρ ρ1 : Env} (h1 : c ρ = .ok false ρ1) : whileL c b (n + 1) ρ = .ok .next ρ1 := by
  simp [whileL, bnd, h1, VS.ret]
end
theorem runF_ret {nN : Nat} {m : Lks → M Fl} {ts : List T} {t : T} {ρ : Env} (h : m (ts.map T.own) (ts.map some ++ List.replicate (nN - ts.length) none) = .ok (.ret t) ρ) : runF nN m ts = .ok t (outsOf (ts.map T.own) ρ) := by unfold runF; rw [h]
theorem runF_exn {nN : Nat} {m : Lks → M Fl} {ts : List T} {x : Exn} {ρ : Env} (h : m (ts.map T.own) (ts.map some ++ List.replicate (nN - ts.length) none) = .exn x ρ) : runF nN m ts = .exn x (outsOf (ts.map T.own) ρ) := by unfold runF; rw [h]
/-! ### for loops -/
section
variable {lk : Lks} {tg : Tg} {b : M Fl} {ρ ρ1 ρ2 : Env} {d : D} {ds : List D}
theorem for_nil : forL lk tg b [] ρ = .ok .next ρ := rfl
theorem for_next (h1 : bindTg lk tg d ρ = some ρ1) (h2 : b ρ1 = .ok .next ρ2) : forL lk tg b (d :: ds) ρ = forL lk tg b ds ρ2 := by
  simp [forL, bindM, loopM, bnd, h1, h2, VS.ret]
theorem for_brk (h1 : bindTg lk tg d ρ = some ρ1) (h2 : b ρ1 = .ok .brk ρ2) : forL lk tg b (d :: ds) ρ = .ok .next ρ2 := by
  simp [forL, bindM, loopM, bnd, h1, h2, VS.ret]
theorem for_ret {t : T} (h1 : bindTg lk tg d ρ = some ρ1) (h2 : b ρ1 = .ok (.ret t) ρ2) : forL lk tg b (d :: ds) ρ = .ok (.ret t) ρ2 := by
  simp [forL, bindM, loopM, bnd, h1, h2, VS.ret]
/-- one turn: what stands behind it -/
inductive Tn (lk : Lks) (tg : Tg) (b : M Fl) (d : D) (ρ : Env) (I : Env → Prop) (Q : Fl → Env → Prop) : Prop where
  | next {ρ1 ρ2 : Env} : bindTg lk tg d ρ = some ρ1 → b ρ1 = .ok .next ρ2 → I ρ2 → Tn lk tg b d ρ I Q
  | brk {ρ1 ρ2 : Env} : bindTg lk tg d ρ = some ρ1 → b ρ1 = .ok .brk ρ2 → Q .next ρ2 → Tn lk tg b d ρ I Q
  | ret {ρ1 ρ2 : Env} {t : T} : bindTg lk tg d ρ = some ρ1 → b ρ1 = .ok (.ret t) ρ2 → Q (.ret t) ρ2 → Tn lk tg b d ρ I Q
/-- a loop by its invariant: of what is gone through already and of the slots -/
theorem for_inv (I : Nat → Env → Prop) (Q : Fl → Env → Prop) : ∀ (ds : List D) (i : Nat) (ρ : Env), I i ρ → (∀ j d ρ, ds[j]? = some d → I (i + j) ρ → Tn lk tg b d ρ (I (i + j + 1)) Q) → (∀ ρ, I (i + ds.length) ρ → Q .next ρ) → ∃ fl ρ', forL lk tg b ds ρ = .ok fl ρ' ∧ Q fl ρ'
  | [], i, ρ, h, _, e => ⟨.next, ρ, rfl, e ρ h⟩
  | d :: ds, i, ρ, h, t, e => by
    cases t 0 d ρ rfl h with
    | next h1 h2 h3 =>
      rw [for_next h1 h2]
      refine for_inv I Q ds (i + 1) _ h3 (fun j d' ρ' e' h' => ?_) fun ρ' h' => e ρ' ?_
      · have := t (j + 1) d' ρ' (by simpa using e')
        rw [show i + (j + 1) = i + 1 + j by omega] at this
        exact this h'
      · rw [show i + (d :: ds).length = i + 1 + ds.length by simp; omega]; exact h'
    | brk h1 h2 h3 => exact ⟨_, _, for_brk h1 h2, h3⟩
    | ret h1 h2 h3 => exact ⟨_, _, for_ret h1 h2, h3⟩
end
/-! ### dicts whose keys are counts -/
def natsD (bs : List Nat) : List D := bs.map fun (b : Nat) => .int (b : Int)
def kd (ns : List Nat) : List (Key × D) := ns.map fun (n : Nat) => (Sum.inl (n : Int), .bool true)
@[simp] theorem nats_len (ns : List Nat) : (natsD ns).length = ns.length := by unfold natsD; simp
@[simp] theorem kd_len (ns : List Nat) : (kd ns).length = ns.length := by unfold kd; simp
@[simp] theorem nats_nil : natsD [] = [] := (rfl)
@[simp] theorem kd_nil : kd [] = [] := (rfl)
@[simp] theorem nats_isE (ns : List Nat) : (natsD ns).isEmpty = ns.isEmpty := by cases ns <;> rfl
theorem nats_get (ns : List Nat) (i : Nat) : (natsD ns)[i]? = (ns[i]?).map fun (n : Nat) => .int (n : Int) := by unfold natsD; simp
theorem nats_mem {ns : List Nat} {d : D} : d ∈ natsD ns ↔ ∃ n ∈ ns, .int (n : Int) = d := by unfold natsD; simp
theorem kd_cons (n : Nat) (ns : List Nat) : kd (n :: ns) = (Sum.inl (n : Int), .bool true) :: kd ns := rfl
theorem kd_app (ms ns : List Nat) : kd (ms ++ ns) = kd ms ++ kd ns := List.map_append
theorem nats_cons (n : Nat) (ns : List Nat) : natsD (n :: ns) = .int (n : Int) :: natsD ns := rfl
theorem nats_app (ms ns : List Nat) : natsD (ms ++ ns) = natsD ms ++ natsD ns := List.map_append
theorem dic_undic (kvs : List (Key × D)) : undic (List.zip (kvs.map fun p => kD p.1) (kvs.map fun p => p.2)) = some kvs := by
  induction kvs with
  | nil => rfl
  | cons p r ih =>
    show undic ((kD p.1, p.2) :: List.zip (r.map fun p => kD p.1) (r.map fun p => p.2)) = _
    rw [undic, unD_kD, ih]
theorem val_kd (ns : List Nat) (n : Nat) : (valG (kd ns) (.inl (n : Int))).isSome = decide (n ∈ ns) := by
  induction ns with
  | nil => rfl
  | cons m ms ih =>
    unfold valG at ih ⊢
    by_cases e : m = n
    · subst e; simp [kd_cons]
    · have e2 : ¬ n = m := fun z => e z.symm
      rw [kd_cons, List.find?_cons_of_neg (by simp; omega), ih]
      simp [e2]
theorem in_dic (ns : List Nat) (n : Nat) : inT (.int (n : Int)) (T.dic (kd ns)).toD = some (decide (n ∈ ns)) := by
  show (match unD (PyData.int n), undic _ with | some k, some kds => some (valG kds k).isSome | _, _ => none) = _
  rw [dic_undic]
  show some _ = some _
  rw [val_kd]
theorem put_kd {ns : List Nat} {n : Nat} (h : n ∉ ns) : putG (kd ns) (.inl (n : Int)) (.bool true) = kd (ns ++ [n]) := by
  unfold putG
  have c : ¬ ((kd ns).any fun kv => decide (kv.1 = Sum.inl (n : Int))) = true := by
    unfold kd
    simp
    intro x hx e
    have : x = n := by omega
    exact h (this ▸ hx)
  rw [if_neg c, kd_app]
  rfl
theorem put_kd_old {ns : List Nat} {n : Nat} (h : n ∈ ns) : putG (kd ns) (.inl (n : Int)) (.bool true) = kd ns := by
  unfold putG
  rw [if_pos (by unfold kd; simp; exact ⟨n, h, rfl⟩)]
  unfold kd
  rw [List.map_map]
  refine List.map_congr_left fun x hx => ?_
  simp [Function.comp_def]
@[simp] theorem x_rngF1 (os : List O) (ρ : Env) : rngF1 os ρ = (match gets ρ os with | some [.int n] => if bnd62 n then .ok (natsD (List.range n.toNat)) ρ else .stk | _ => .stk) := by
  have e : ∀ n : Nat, ((List.range n).map fun (k : Nat) => PyData.int (0 + k)) = natsD (List.range n) := fun n => by
    unfold natsD
    exact List.map_congr_left fun k _ => by rw [Int.zero_add]
  unfold rngF1
  cases gets ρ os with
  | none => rfl
  | some l => cases l with
    | nil => rfl
    | cons d ds => cases ds with
      | cons _ _ => cases d <;> rfl
      | nil => cases d <;> first | rfl | (dsimp only; rw [e])
@[simp] theorem bnd62_nat {n : Nat} (h : n ≤ 1000000) : bnd62 (n : Int) = true := by unfold bnd62; rw [decide_eq_true (by omega), decide_eq_true (by omega)]; rfl
/-! ### sorted rows of counts -/
def srt (ns : List Nat) : List Nat := ns.mergeSort fun a b => decide (a ≤ b)
theorem srt_perm (ns : List Nat) : (srt ns).Perm ns := List.mergeSort_perm _ _
theorem srt_mem {ns : List Nat} {n : Nat} : n ∈ srt ns ↔ n ∈ ns := (srt_perm ns).mem_iff
theorem srt_le (ns : List Nat) : (srt ns).Pairwise (· ≤ ·) := by
  have := List.pairwise_mergeSort (le := fun (a b : Nat) => decide (a ≤ b)) (fun a b c x y => by simp at *; omega) (fun a b => by simp; omega) ns
  exact this.imp fun z => by simpa using z
theorem sortD_nats (ns : List Nat) : sortD (natsD ns) = natsD (srt ns) := by
  have e : ∀ l : List Nat, natsD l = (l.map Int.ofNat).map PyData.int := fun l => by unfold natsD; rw [List.map_map]; rfl
  rw [e, e]
  refine sortD_ints ((srt_perm ns).map _) (List.pairwise_map.mpr ((srt_le ns).imp fun h => ?_))
  exact Int.ofNat_le.mpr h
/-- two rows of the same members, each once, sorted alike -/
theorem srt_eq {xs ys : List Nat} (h1 : xs.Nodup) (h2 : ys.Nodup) (h : ∀ n, n ∈ xs ↔ n ∈ ys) : srt xs = srt ys := by
  refine List.Perm.eq_of_pairwise (fun a b _ _ x y => Nat.le_antisymm x y) (srt_le xs) (srt_le ys) ?_
  exact (srt_perm xs).trans (((List.perm_ext_iff_of_nodup h1 h2).mpr h).trans (srt_perm ys).symm)
theorem sort_dic {ns : List Nat} (h : ns.length < 64) : opT .sorted [(T.dic (kd ns)).toD] = some (.lst (natsD (srt ns))) := by
  show (match undic _ with | some kds => _ | none => none) = _
  rw [dic_undic]
  have e : mapO int? ((kd ns).map fun p => kD p.1) = some (ns.map Int.ofNat) := by
    clear h
    induction ns with
    | nil => rfl
    | cons n ns ih =>
      rw [kd_cons, List.map_cons, List.map_cons, x_mo1, ih]
      rfl
  show (match mapO int? ((kd ns).map fun p => kD p.1) with | some ns => _ | none => none) = _
  rw [e]
  show (if (ns.map Int.ofNat).length < 64 then _ else _) = _
  rw [if_pos (by rw [List.length_map]; exact h), ← sortD_nats]
  unfold natsD
  rw [List.map_map]
  rfl
theorem alikes_nats (ns : List Nat) : alikes (natsD ns) = true := by
  unfold alikes
  rw [List.all_eq_true]
  intro x hx
  rw [List.all_eq_true]
  intro y hy
  obtain ⟨a, _, rfl⟩ := nats_mem.mp hx
  obtain ⟨b, _, rfl⟩ := nats_mem.mp hy
  simp [PySem.W.alike]
theorem ok_nlist (ns : List Nat) : okD (.list (natsD ns)) = true := List.all_eq_true.mpr fun d hd => by
  obtain ⟨a, _, rfl⟩ := nats_mem.mp hd
  rfl
theorem ok_ntup (ns : List Nat) : okD (.tuple (natsD ns)) = true := List.all_eq_true.mpr fun d hd => by
  obtain ⟨a, _, rfl⟩ := nats_mem.mp hd
  rfl
theorem ok_nats (ns : List Nat) : (natsD ns).all okD = true := by unfold natsD; simp
theorem sort_nats {ns : List Nat} (h : ns.length ≤ 4096) : opT .sorted [.list (natsD ns)] = some (.lst (natsD (srt ns))) := by
  show (sortT (natsD ns)).map T.lst = _
  have e : sortable (natsD ns) = true := by
    unfold sortable
    rw [Bool.or_eq_true]
    exact .inr (by unfold natsD; simp [noTup])
  unfold sortT
  rw [if_pos (by rw [alikes_nats, e, ok_nats, nats_len]; simp; exact Nat.le_trans h (by decide)), sortD_nats]
  rfl
theorem in_nats (ns : List Nat) (n : Nat) : inT (.int (n : Int)) (.list (natsD ns)) = some (decide (n ∈ ns)) := by
  show (if _ then _ else _) = _
  rw [if_pos (by rw [ok_nlist]; rfl)]
  congr 1
  induction ns with
  | nil => rfl
  | cons m ms ih =>
    rw [nats_cons, List.any_cons, ih]
    simp only [eqv_int, List.mem_cons]
    by_cases q : m = n
    · subst q; simp
    · have q2 : ¬ n = m := fun z => q z.symm
      have : ((m : Int) == (n : Int)) = false := by rw [beq_eq_false_iff_ne]; omega
      rw [this]
      simp [q2]
theorem in_ntup (ns : List Nat) (n : Nat) : inT (.int (n : Int)) (.tuple (natsD ns)) = some (decide (n ∈ ns)) := by
  rw [← in_nats]
  show (if _ then _ else _) = (if _ then _ else _)
  rw [ok_nlist, ok_ntup]
/-- a row without repeats -/
def ddN : List Nat → List Nat
  | [] => []
  | x :: xs => if x ∈ ddN xs then ddN xs else x :: ddN xs
theorem ddN_mem : ∀ {xs : List Nat} {n : Nat}, n ∈ ddN xs ↔ n ∈ xs
  | [], n => by simp [ddN]
  | x :: xs, n => by
    unfold ddN
    split
    · rename_i h
      rw [ddN_mem, List.mem_cons]
      constructor
      · exact .inr
      · rintro (e | e)
        · rw [e]; exact ddN_mem.mp h
        · exact e
    · rw [List.mem_cons, List.mem_cons, ddN_mem]
theorem ddN_nodup : ∀ xs : List Nat, (ddN xs).Nodup
  | [] => by simp [ddN]
  | x :: xs => by
    unfold ddN
    split
    · exact ddN_nodup xs
    · rename_i h
      exact List.nodup_cons.mpr ⟨h, ddN_nodup xs⟩
theorem ddN_len : ∀ xs : List Nat, (ddN xs).length ≤ xs.length
  | [] => by simp [ddN]
  | x :: xs => by
    have := ddN_len xs
    unfold ddN
    split <;> simp <;> omega
theorem dedup_nats (xs : List Nat) : dedup (natsD xs) = natsD (ddN xs) := by
  induction xs with
  | nil => rfl
  | cons x xs ih =>
    rw [nats_cons]
    simp only [dedup, ih]
    have e : ((natsD (ddN xs)).any fun y => decide (toNk (.int (x : Int)) = toNk y)) = decide (x ∈ ddN xs) := by
      generalize ddN xs = l
      induction l with
      | nil => simp
      | cons y ys ih2 =>
        rw [nats_cons, List.any_cons, ih2]
        simp only [toNk, NestedKey.num.injEq, List.mem_cons]
        by_cases q : x = y
        · subst q; simp
        · have : ¬ (x : Int) = y := by omega
          simp [q, this]
    rw [e]
    by_cases h : x ∈ ddN xs
    · simp [ddN, h]
    · simp [ddN, h, nats_cons]
theorem sset_nats {ns : List Nat} (h : ns.length < 64) : opT .sset [.list (natsD ns)] = some (.lst (natsD (srt (ddN ns)))) := by
  have e : (natsD ns).all isIntD = true := by unfold natsD; simp [isIntD]
  show (if _ then _ else _) = _
  rw [if_pos (by rw [e]; simpa using h), dedup_nats, sortD_nats]
end VS
set_option Elab.async false
set_option linter.all false
set_option maxRecDepth 100000
set_option maxHeartbeats 2000000
/-! The VS layer, part Pd: dict comprehensions by their turns. -/
namespace VS
open PySem PySem.Spec PyProof.Rows L2
/-- one turn of a dict comprehension -/
def dturn (own : List Nat) (tg : Tg) (mt : M Bool) (mk me : M T) (d : D) (ρ : Env) : R (Option (Key × D)) := match bindTg [] tg d ρ with
  | none => .stk
  | some ρ1 => match mt ρ1 with
    | .ok true ρ2 => match mk ρ2 with
      | .ok tk ρ3 => match unD tk.toD with
        | some k => match me ρ3 with
          | .ok t ρ4 => .ok (some (k, t.toD)) (wipeE own ρ4)
          | _ => .stk
        | none => .stk
      | _ => .stk
    | .ok false ρ2 => .ok none (wipeE own ρ2)
    | _ => .stk
abbrev puts (acc : List (Key × D)) (ps : List (Key × D)) : List (Key × D) := ps.foldl (fun a p => putG a p.1 p.2) acc
theorem putG_len (acc : List (Key × D)) (k : Key) (d : D) : (putG acc k d).length ≤ acc.length + 1 := by
  unfold putG
  split <;> simp
section
variable {own own2 : List Nat} {tg tg2 : Tg} {mt mt2 : M Bool} {mk me : M T} {it2 : M (List D)} {ρ ρ1 ρ2 ρ3 : Env} {d : D} {ds : List D} {acc : List (Key × D)}
theorem dcL_some {p : Key × D} (h : dturn own tg mt mk me d ρ = .ok (some p) ρ1) (l : acc.length < sizeLine) : dcL own tg mt mk me (d :: ds) acc ρ = dcL own tg mt mk me ds (putG acc p.1 p.2) ρ1 := by
  unfold dturn at h
  rw [dcL]
  dsimp only
  cases e1 : bindTg [] tg d ρ with
  | none => rw [e1] at h; cases h
  | some r1 =>
    simp only [e1] at h ⊢
    cases e2 : mt r1 with
    | stk => simp [e2] at h
    | exn _ _ => simp [e2] at h
    | ok b r2 =>
      cases b with
      | false => simp [e2] at h
      | true =>
        simp only [e2] at h ⊢
        cases e3 : mk r2 with
        | stk => simp [e3] at h
        | exn _ _ => simp [e3] at h
        | ok tk r3 =>
          simp only [e3] at h ⊢
          cases e4 : unD tk.toD with
          | none => simp [e4] at h
          | some k =>
            simp only [e4] at h ⊢
            cases e5 : me r3 with
            | stk => simp [e5] at h
            | exn _ _ => simp [e5] at h
            | ok t r4 =>
              simp only [e5] at h ⊢
              cases h
              rw [if_pos l]
theorem dcL_none (h : dturn own tg mt mk me d ρ = .ok none ρ1) : dcL own tg mt mk me (d :: ds) acc ρ = dcL own tg mt mk me ds acc ρ1 := by
  unfold dturn at h
  rw [dcL]
  dsimp only
  cases e1 : bindTg [] tg d ρ with
  | none => rw [e1] at h; cases h
  | some r1 =>
    simp only [e1] at h ⊢
    cases e2 : mt r1 with
    | stk => simp [e2] at h
    | exn _ _ => simp [e2] at h
    | ok b r2 =>
      cases b with
      | false => simp only [e2] at h ⊢; cases h; rfl
      | true =>
        simp only [e2] at h ⊢
        cases e3 : mk r2 with
        | stk => simp [e3] at h
        | exn _ _ => simp [e3] at h
        | ok tk r3 =>
          simp only [e3] at h ⊢
          cases e4 : unD tk.toD with
          | none => simp [e4] at h
          | some k =>
            simp only [e4] at h ⊢
            cases e5 : me r3 with
            | stk => simp [e5] at h
            | exn _ _ => simp [e5] at h
            | ok t r4 => simp [e5] at h
theorem dcL_pure (g : D → Option (Key × D)) (ρ : Env) : ∀ (ds : List D) (acc : List (Key × D)), (∀ d ∈ ds, dturn own tg mt mk me d ρ = .ok (g d) ρ) → acc.length + ds.length ≤ sizeLine → dcL own tg mt mk me ds acc ρ = .ok (puts acc (ds.filterMap g)) ρ
  | [], acc, _, _ => by rw [dcL]; rfl
  | d :: ds, acc, h, l => by
    have h1 := h d (.head _)
    have h2 := fun e he => h e (.tail _ he)
    simp only [List.length_cons] at l
    cases e : g d with
    | none =>
      rw [e] at h1
      rw [dcL_none h1, dcL_pure g ρ ds acc h2 (by omega), List.filterMap_cons_none e]
    | some p =>
      rw [e] at h1
      have := putG_len acc p.1 p.2
      rw [dcL_some h1 (by omega), dcL_pure g ρ ds _ h2 (by omega), List.filterMap_cons_some e]
      rfl
theorem mDc_pure {it : M (List D)} (g : D → Option (Key × D)) (hit : it ρ = .ok ds ρ1) (hg : (own.all (notOwn ρ1) && tg.slots.all (fun i => own.contains i) && own.all (fun i => decide (i < ρ1.length))) = true)
    (h : ∀ d ∈ ds, dturn own tg mt mk me d (wipeE own ρ1) = .ok (g d) (wipeE own ρ1)) (l : ds.length ≤ sizeLine) : mDc own it tg mt mk me ρ = .ok (.dic (puts [] (ds.filterMap g))) (backE own ρ1 (wipeE own ρ1)) := by
  unfold mDc bnd
  rw [hit]
  show dcAll own tg mt mk me ds ρ1 = _
  unfold dcAll
  rw [if_pos hg, dcL_pure g _ ds [] h (by simpa using l)]
theorem puts_len : ∀ (ps acc : List (Key × D)), (puts acc ps).length ≤ acc.length + ps.length
  | [], acc => by simp [puts]
  | p :: ps, acc => by
    have := puts_len ps (putG acc p.1 p.2)
    have := putG_len acc p.1 p.2
    simp only [List.length_cons]
    show (puts (putG acc p.1 p.2) ps).length ≤ _
    omega
/-- two clauses: each turn of the first walks a row -/
theorem dcO_pure (g : D → List (Key × D)) (ρ : Env) : ∀ (ds : List D) (acc : List (Key × D)),
    (∀ d ∈ ds, ∃ (ρ1 ρ3 : Env) (ds2 : List D) (g2 : D → Option (Key × D)), bindTg [] tg d ρ = some ρ1 ∧ mt ρ1 = .ok true ρ1 ∧ it2 ρ1 = .ok ds2 ρ3 ∧ (∀ e ∈ ds2, dturn own2 tg2 mt2 mk me e (wipeE own2 ρ3) = .ok (g2 e) (wipeE own2 ρ3)) ∧ ds2.length ≤ 100 ∧ ds2.filterMap g2 = g d ∧ wipeE own (wipeE own2 ρ3) = ρ) →
    acc.length + 100 * ds.length ≤ sizeLine → dcO own own2 tg mt it2 tg2 mt2 mk me ds acc ρ = .ok (puts acc (ds.map g).flatten) ρ
  | [], acc, _, _ => by rw [dcO]; rfl
  | d :: ds, acc, h, l => by
    obtain ⟨ρ1, ρ3, ds2, g2, e1, e2, e3, e4, e5, e6, e7⟩ := h d (.head _)
    simp only [List.length_cons] at l
    have p := dcL_pure (own := own2) (tg := tg2) (mt := mt2) (mk := mk) (me := me) g2 (wipeE own2 ρ3) ds2 acc e4 (by omega)
    have l2 := puts_len (ds2.filterMap g2) acc
    have l3 : (ds2.filterMap g2).length ≤ ds2.length := List.length_filterMap_le _ _
    have ih := dcO_pure g ρ ds (puts acc (ds2.filterMap g2)) (fun e he => h e (.tail _ he)) (by omega)
    rw [dcO]
    simp only [e1, e2, e3, p, e7, ih]
    rw [e6, List.map_cons, List.flatten_cons]
    show _ = R.ok (List.foldl _ acc (g d ++ (ds.map g).flatten)) ρ
    rw [List.foldl_append]
theorem mDc2_pure {it : M (List D)} (g : D → List (Key × D)) (hit : it ρ = .ok ds ρ1) (hg : (own.all (notOwn ρ1) && tg.slots.all (fun i => own.contains i) && tg2.slots.all (fun i => own2.contains i) && own.all (fun i => decide (i < ρ1.length))) = true)
    (h : ∀ d ∈ ds, ∃ (r1 r3 : Env) (ds2 : List D) (g2 : D → Option (Key × D)), bindTg [] tg d (wipeE own ρ1) = some r1 ∧ mt r1 = .ok true r1 ∧ it2 r1 = .ok ds2 r3 ∧ (∀ e ∈ ds2, dturn own2 tg2 mt2 mk me e (wipeE own2 r3) = .ok (g2 e) (wipeE own2 r3)) ∧ ds2.length ≤ 100 ∧ ds2.filterMap g2 = g d ∧ wipeE own (wipeE own2 r3) = wipeE own ρ1)
    (l : 100 * ds.length ≤ sizeLine) : mDc2 own own2 it tg mt it2 tg2 mt2 mk me ρ = .ok (.dic (puts [] (ds.map g).flatten)) (backE own ρ1 (wipeE own ρ1)) := by
  unfold mDc2 bnd
  rw [hit]
  show dc2All own own2 tg mt it2 tg2 mt2 mk me ds ρ1 = _
  unfold dc2All
  rw [if_pos hg, dcO_pure g _ ds [] h (by simpa using l)]
end
/-! ### keys that are counts -/
def addN (acc : List Nat) (n : Nat) : List Nat := if n ∈ acc then acc else acc ++ [n]
theorem puts_kd : ∀ (ns acc : List Nat), puts (kd acc) (kd ns) = kd (ns.foldl addN acc)
  | [], acc => rfl
  | n :: ns, acc => by
    rw [kd_cons]
    show puts (putG (kd acc) (.inl (n : Int)) (.bool true)) (kd ns) = _
    rw [List.foldl_cons]
    unfold addN
    by_cases h : n ∈ acc
    · rw [put_kd_old h, if_pos h]; exact puts_kd ns acc
    · rw [put_kd h, if_neg h]; exact puts_kd ns _
theorem addN_mem : ∀ (ns acc : List Nat) (n : Nat), n ∈ ns.foldl addN acc ↔ n ∈ acc ∨ n ∈ ns
  | [], acc, n => by simp
  | m :: ns, acc, n => by
    rw [List.foldl_cons, addN_mem]
    unfold addN
    split
    · rename_i h
      constructor
      · rintro (e | e) <;> simp [e]
      · rintro (e | e)
        · exact .inl e
        · rcases List.mem_cons.mp e with q | q
          · rw [q]; exact .inl h
          · exact .inr q
    · simp [or_assoc]
theorem addN_nodup : ∀ (ns acc : List Nat), acc.Nodup → (ns.foldl addN acc).Nodup
  | [], acc, h => h
  | m :: ns, acc, h => by
    rw [List.foldl_cons]
    refine addN_nodup ns _ ?_
    unfold addN
    split
    · exact h
    · rename_i c
      rw [List.nodup_append]
      exact ⟨h, by simp, fun a ha b hb e => c (by rw [List.mem_singleton.mp hb] at e; rw [← e]; exact ha)⟩
/-- a dict's keys sorted, and the sorted set of the same row -/
theorem srt_add (ns : List Nat) : srt (ns.foldl addN []) = srt (ddN ns) := srt_eq (addN_nodup ns [] List.nodup_nil) (ddN_nodup ns) fun n => by rw [addN_mem, ddN_mem]; simp
end VS
set_option Elab.async false
set_option linter.all false
set_option maxRecDepth 100000
set_option maxHeartbeats 2000000
/-! The VS layer, part Pe: comprehensions whose turns change slots. -/
namespace VS
open PySem PySem.Spec PyProof.Rows L2
section
variable {own : List Nat} {tg : Tg} {mt : M Bool} {me : M T} {ρ ρ1 : Env} {ds : List D}
theorem lcL_inv (I : Env → Prop) (P : D → Prop) : ∀ (ds acc : List D) (ρ : Env), I ρ → (∀ d ∈ ds, ∀ ρ, I ρ → ∃ x ρ', turn own tg mt me d ρ = .ok (some x) ρ' ∧ P x ∧ I ρ') → acc.length + ds.length ≤ sizeLine →
    ∃ xs ρ', lcL own tg mt me ds acc ρ = .ok (acc ++ xs) ρ' ∧ xs.length = ds.length ∧ (∀ x ∈ xs, P x) ∧ I ρ'
  | [], acc, ρ, h, _, _ => ⟨[], ρ, by rw [lcL, List.append_nil]; rfl, rfl, fun _ h => (nomatch h), h⟩
  | d :: ds, acc, ρ, h, t, l => by
    obtain ⟨x, ρ', e, px, i⟩ := t d (.head _) ρ h
    simp only [List.length_cons] at l
    obtain ⟨xs, ρ2, e2, n, ps, i2⟩ := lcL_inv I P ds (acc ++ [x]) ρ' i (fun e he => t e (.tail _ he)) (by simp; omega)
    refine ⟨x :: xs, ρ2, ?_, by simp [n], fun y hy => ?_, i2⟩
    · rw [lcL_some e (by omega), e2, List.append_assoc]; rfl
    · rcases List.mem_cons.mp hy with q | q
      · rw [q]; exact px
      · exact ps y q
theorem mLc_inv {it : M (List D)} (I : Env → Prop) (P : D → Prop) (hit : it ρ = .ok ds ρ1) (hg : (own.all (notOwn ρ1) && tg.slots.all (fun i => own.contains i) && own.all (fun i => decide (i < ρ1.length))) = true)
    (h0 : I (wipeE own ρ1)) (h : ∀ d ∈ ds, ∀ ρ, I ρ → ∃ x ρ', turn own tg mt me d ρ = .ok (some x) ρ' ∧ P x ∧ I ρ') (l : ds.length ≤ sizeLine) :
    ∃ xs ρ', mLc own it tg mt me ρ = .ok (.lst xs) (backE own ρ1 ρ') ∧ xs.length = ds.length ∧ (∀ x ∈ xs, P x) ∧ I ρ' := by
  obtain ⟨xs, ρ', e, n, ps, i⟩ := lcL_inv (own := own) (tg := tg) (mt := mt) (me := me) I P ds [] _ h0 h (by simpa using l)
  refine ⟨xs, ρ', ?_, n, ps, i⟩
  unfold mLc bnd
  rw [hit]
  show lcAll own tg mt me ds ρ1 = _
  unfold lcAll
  rw [if_pos hg, e]
  rfl
end
/-- nested loops that look for one -/
theorem for_any {lk : Lks} {tg : Tg} {b : M Fl} {I : Env → Prop} {α : Type} (f : α → D) (g : α → Bool) (t : T) : ∀ (xs : List α) (ρ : Env), I ρ → (∀ x ∈ xs, ∀ ρ, I ρ → ∃ ρ1, bindTg lk tg (f x) ρ = some ρ1 ∧ ∃ ρ2, b ρ1 = .ok (if g x then .ret t else .next) ρ2 ∧ I ρ2) →
    ∃ ρ2, forL lk tg b (xs.map f) ρ = .ok (if xs.any g then .ret t else .next) ρ2 ∧ I ρ2
  | [], ρ, h, _ => ⟨ρ, rfl, h⟩
  | x :: xs, ρ, h, hs => by
    obtain ⟨ρ1, e1, ρ2, e2, i2⟩ := hs x (.head _) ρ h
    rw [List.map_cons, List.any_cons]
    cases c : g x with
    | true =>
      rw [c] at e2
      exact ⟨ρ2, by rw [for_ret e1 (by simpa using e2)]; rfl, i2⟩
    | false =>
      rw [c] at e2
      rw [for_next e1 (by simpa using e2)]
      obtain ⟨ρ3, e3, i3⟩ := for_any f g t xs ρ2 i2 fun y hy => hs y (.tail _ hy)
      exact ⟨ρ3, by rw [e3]; simp, i3⟩
/-- loops whose turns all go on -/
theorem for_all {lk : Lks} {tg : Tg} {b : M Fl} {I : Env → Prop} : ∀ (ds : List D) (ρ : Env), I ρ → (∀ d ∈ ds, ∀ ρ, I ρ → ∃ ρ1, bindTg lk tg d ρ = some ρ1 ∧ ∃ ρ2, b ρ1 = .ok .next ρ2 ∧ I ρ2) → ∃ ρ2, forL lk tg b ds ρ = .ok .next ρ2 ∧ I ρ2
  | [], ρ, h, _ => ⟨ρ, rfl, h⟩
  | d :: ds, ρ, h, hs => by
    obtain ⟨ρ1, e1, ρ2, e2, i2⟩ := hs d (.head _) ρ h
    rw [for_next e1 e2]
    exact for_all ds ρ2 i2 fun y hy => hs y (.tail _ hy)
/-! ### blocks, statement by statement -/
section
variable {xm : Nat → Nat → Option Bool} {Φ : Nat → FS} {lk : Lks} {s : IS} {ss : ISs} {ρ ρ1 : Env} {r : R Fl} {t : T} {x : Exn}
theorem go_next (h : evS xm Φ lk s ρ = .ok .next ρ1) (h2 : evSs xm Φ lk ss ρ1 = r) : evSs xm Φ lk (.cons s ss) ρ = r := by rw [x_evSs1, x_seq, h]; exact h2
theorem go_ret (h : evS xm Φ lk s ρ = .ok (.ret t) ρ1) : evSs xm Φ lk (.cons s ss) ρ = .ok (.ret t) ρ1 := by rw [x_evSs1, x_seq, h]
theorem go_brk (h : evS xm Φ lk s ρ = .ok .brk ρ1) : evSs xm Φ lk (.cons s ss) ρ = .ok .brk ρ1 := by rw [x_evSs1, x_seq, h]
theorem go_exn (h : evS xm Φ lk s ρ = .exn x ρ1) : evSs xm Φ lk (.cons s ss) ρ = .exn x ρ1 := by rw [x_evSs1, x_seq, h]
theorem go_nil : evSs xm Φ lk .nil ρ = .ok .next ρ := x_evSs0 ..
theorem go_iteF {c : IE} {a b : ISs} (h : (ev Φ c).t ρ = .ok false ρ1) (h2 : evSs xm Φ lk b ρ1 = r) : evS xm Φ lk (.ite c a b) ρ = r := by rw [evS, x_ifS, h]; exact h2
theorem go_iteT {c : IE} {a b : ISs} (h : (ev Φ c).t ρ = .ok true ρ1) (h2 : evSs xm Φ lk a ρ1 = r) : evS xm Φ lk (.ite c a b) ρ = r := by rw [evS, x_ifS, h]; exact h2
theorem go_for {it : IEs} {k : ItK} {tg : Tg} {b : ISs} {ds : List D} (h : evIt k (evs Φ it) ρ = .ok ds ρ1) (h2 : forL lk tg (evSs xm Φ lk b) ds ρ1 = r) : evS xm Φ lk (.for k it tg b) ρ = r := by
  rw [evS]
  unfold mFor bnd
  rw [h]
  exact h2
end
/-- the slots behind comprehensions -/
theorem lists_flat (l : List (List Nat)) : mapO list? (l.map fun x => .list (natsD x)) = some (l.map natsD) := by
  induction l with
  | nil => rfl
  | cons x l ih => rw [List.map_cons, x_mo1, ih]; rfl
theorem flat_nats (l : List (List Nat)) : (l.map natsD).flatten = natsD l.flatten := by
  induction l with
  | nil => rfl
  | cons x l ih => rw [List.map_cons, List.flatten_cons, List.flatten_cons, nats_app, ih]
theorem sumL_nats {l : List (List Nat)} (h : l.flatten.length ≤ 4096) : opT .sumL [.list (l.map fun x => .list (natsD x))] = some (.lst (natsD l.flatten)) := by
  show (match mapO list? _ with | some ls => _ | none => none) = _
  rw [lists_flat]
  show (if _ then _ else _) = _
  rw [flat_nats, if_pos (by rw [nats_len]; exact Nat.le_trans h (by decide))]
end VS
set_option Elab.async false
set_option linter.all false
set_option maxRecDepth 100000
set_option maxHeartbeats 2000000
/-! The VS layer, part Pf: the shown text of small data. -/
namespace VS
open PySem PySem.Spec PyProof.Rows L2
theorem ok_app (a b : Str) : PyData.strOk (a ++ b) = (PyData.strOk a && PyData.strOk b) := by
  unfold PyData.strOk
  rw [Str.cps_append, Array.all_append]
theorem okD_str (s : Str) : okD (.str s) = PyData.strOk s := rfl
theorem from_ok : ∀ (ts : List Str) (k n : Nat) (acc : Str), PyData.strOk acc = true → (∀ t ∈ ts, PyData.strOk t = true ∧ t.length ≤ n) → PyData.strOk (PySem.textFrom k acc ts) = true ∧ (PySem.textFrom k acc ts).length ≤ acc.length + (n + 2) * ts.length
  | [], k, n, acc, h, _ => ⟨h, Nat.le_add_right _ _⟩
  | t :: ts, k, n, acc, h, ht => by
    obtain ⟨o, l⟩ := ht t (.head _)
    have sep : PyData.strOk ((if k > 0 then ", " else "" : String) : Str) = true ∧ ((if k > 0 then ", " else "" : String) : Str).length ≤ 2 := by
      split
      · exact ⟨by decide +kernel, by decide +kernel⟩
      · exact ⟨by decide +kernel, by decide +kernel⟩
    have ih := from_ok ts (k + 1) n (acc ++ (if k > 0 then ", " else "" : String) ++ t) (by rw [ok_app, ok_app, h, sep.1, o]; rfl) fun x hx => ht x (.tail _ hx)
    refine ⟨ih.1, Nat.le_trans ih.2 ?_⟩
    have e : (n + 2) * (t :: ts).length = (n + 2) * ts.length + (n + 2) := by rw [List.length_cons, Nat.mul_succ]
    have := sep.2
    rw [Str.length_append, Str.length_append, e]
    omega
theorem join_ok : ∀ (ts : List Str) (n : Nat), (∀ t ∈ ts, PyData.strOk t = true ∧ t.length ≤ n) → PyData.strOk (Str.join ", " ts) = true ∧ (Str.join ", " ts).length ≤ (n + 2) * ts.length
  | [], n, _ => ⟨by decide +kernel, by rw [show (Str.join ", " []).length = 0 from rfl]; exact Nat.zero_le _⟩
  | [t], n, h => by
    obtain ⟨o, l⟩ := h t (.head _)
    exact ⟨o, by show t.length ≤ (n + 2) * 1; omega⟩
  | t :: u :: ts, n, h => by
    obtain ⟨o, l⟩ := h t (.head _)
    have ih := join_ok (u :: ts) n fun x hx => h x (.tail _ hx)
    have sep : PyData.strOk (", " : Str) = true := by decide +kernel
    have e : (n + 2) * (t :: u :: ts).length = (n + 2) * (u :: ts).length + (n + 2) := by rw [List.length_cons, Nat.mul_succ]
    have l2 : (", " : Str).length = 2 := by decide +kernel
    refine ⟨?_, ?_⟩
    · show PyData.strOk (t ++ ", " ++ Str.join ", " (u :: ts)) = true
      rw [ok_app, ok_app, o, sep, ih.1]; rfl
    · show (t ++ ", " ++ Str.join ", " (u :: ts)).length ≤ _
      rw [Str.length_append, Str.length_append, e, l2]
      omega
@[simp] theorem okD_bool (b : Bool) : okD (.bool b) = true := rfl
@[simp] theorem okD_none : okD .none = true := rfl
@[simp] theorem eqv_bool (a b : Bool) : PyData.eqv (.bool a) (.bool b) = (a == b) := by rw [PyData.eqv]
/-! expressions put together, slots unseen -/
section
variable {Φ : Nat → FS} {a b : IE} {ρ ρ1 ρ2 : Env}
theorem opdx {s : Sm} {t : T} (hm : s.o = mOpd s.e) (h : s.e ρ = .ok t ρ1) : s.o ρ = .ok (.val t.toD) ρ1 := by rw [hm, x_opd, x_bnd, h]; rfl
theorem cmpx {o : Op} {oa ob : O} {d e : D} {r : Bool} (h : isCmp o = true) (ha : (ev Φ a).o ρ = .ok oa ρ1) (hb : (ev Φ b).o ρ1 = .ok ob ρ2) (hd : oa.get ρ2 = some d) (he : ob.get ρ2 = some e) (ho : opT o [d, e] = some (.shr (.bool r))) :
    (ev Φ (.op o (.cons a (.cons b .nil)))).t ρ = .ok r ρ2 := by
  rw [ev]
  simp only [h, if_true, x_evs1, x_evs0, List.map_cons, List.map_nil]
  unfold mBool mApp bnd
  simp only [mOs, bnd, ha, hb, VS.ret, fin, gets, mapO, hd, he, ho, x_toD1]
theorem orx {r : Bool} (ha : (ev Φ a).t ρ = .ok false ρ1) (hb : (ev Φ b).t ρ1 = .ok r ρ2) : (ev Φ (.or a (.one b))).t ρ = .ok r ρ2 := by
  rw [ev]
  show mOrT (ev Φ a).t (ev Φ (.one b)).t ρ = _
  rw [x_orT, ha]
  show (ev Φ (.one b)).t ρ1 = _
  rw [ev]
  exact hb
end
/-- its shown text is short and good -/
structure Sx (n : Nat) (d : D) : Prop where
  show_ : d.showable = true
  len : d.shown.length ≤ n
  txt : PyData.strOk d.shown = true
theorem Sx.mono {m n : Nat} {d : D} (h : Sx m d) (l : m ≤ n) : Sx n d := ⟨h.show_, Nat.le_trans h.len l, h.txt⟩
theorem sx_all {n : Nat} : ∀ {xs : List D}, (∀ x ∈ xs, Sx n x) → PyData.showableAll xs = true ∧ (∀ t ∈ PyData.shownAll xs, PyData.strOk t = true ∧ t.length ≤ n) ∧ (PyData.shownAll xs).length = xs.length
  | [], _ => ⟨by rw [PyData.showableAll], fun t (h : t ∈ ([] : List Str)) => (nomatch h), rfl⟩
  | x :: xs, h => by
    obtain ⟨a, b, c⟩ := sx_all fun y hy => h y (.tail _ hy)
    have hx := h x (.head _)
    refine ⟨by rw [PyData.showableAll, hx.show_, a]; rfl, fun t ht => ?_, by rw [PyData.shownAll, List.length_cons, List.length_cons, c]⟩
    rw [PyData.shownAll] at ht
    rcases List.mem_cons.mp ht with e | e
    · rw [e]; exact ⟨hx.txt, hx.len⟩
    · exact b t e
theorem sx_list {n : Nat} {xs : List D} (h : ∀ x ∈ xs, Sx n x) : Sx ((n + 2) * xs.length + 2) (.list xs) := by
  obtain ⟨a, b, c⟩ := sx_all h
  have o1 : PyData.strOk ("[" : Str) = true := by decide +kernel
  have o2 : PyData.strOk ("]" : Str) = true := by decide +kernel
  have l1 : ("[" : Str).length = 1 := by decide +kernel
  have l2 : ("]" : Str).length = 1 := by decide +kernel
  obtain ⟨d, e⟩ := from_ok (PyData.shownAll xs) 0 n "[" o1 b
  have es : (PyData.list xs).shown = PySem.textFrom 0 "[" (PyData.shownAll xs) ++ "]" := by rw [PyData.shown]; rfl
  refine ⟨by rw [PyData.showable]; exact a, ?_, ?_⟩
  · rw [es, Str.length_append, l2]
    rw [c, l1] at e
    omega
  · rw [es, ok_app, d, o2]; rfl
theorem sx_tup {n : Nat} {xs : List D} (h : ∀ x ∈ xs, Sx n x) : Sx ((n + 2) * xs.length + 4) (.tuple xs) := by
  obtain ⟨a, b, c⟩ := sx_all h
  have o1 : PyData.strOk ("(" : Str) = true := by decide +kernel
  have l1 : ("(" : Str).length = 1 := by decide +kernel
  obtain ⟨d, e⟩ := join_ok (PyData.shownAll xs) n b
  have es : (PyData.tuple xs).shown = ("(" : Str) ++ Str.join ", " (PyData.shownAll xs) ++ ((if (PyData.shownAll xs).length == 1 then ",)" else ")" : String) : Str) := by rw [PyData.shown]; rfl
  have tl : PyData.strOk ((if (PyData.shownAll xs).length == 1 then ",)" else ")" : String) : Str) = true ∧ ((if (PyData.shownAll xs).length == 1 then ",)" else ")" : String) : Str).length ≤ 2 := by
    split
    · exact ⟨by decide +kernel, by decide +kernel⟩
    · exact ⟨by decide +kernel, by decide +kernel⟩
  refine ⟨by rw [PyData.showable]; exact a, ?_, ?_⟩
  · have := tl.2
    rw [es, Str.length_append, Str.length_append, l1]
    rw [c] at e
    omega
  · rw [es, ok_app, ok_app, o1, d, tl.1]; rfl
theorem sx_nat {n : Nat} (h : n < 64) : Sx 2 (.int (n : Int)) := by
  have all : (List.range 64).all (fun n => PyData.showable (.int ((n : Nat) : Int)) && decide ((PyData.int ((n : Nat) : Int)).shown.length ≤ 2) && PyData.strOk (PyData.int ((n : Nat) : Int)).shown) = true := by decide +kernel
  have := List.all_eq_true.mp all n (List.mem_range.mpr h)
  simp only [Bool.and_eq_true, decide_eq_true_eq] at this
  exact ⟨this.1.1, this.1.2, this.2⟩
theorem sx_nats {ns : List Nat} (h : ∀ n ∈ ns, n < 64) : ∀ d ∈ natsD ns, Sx 2 d := fun d hd => by
  obtain ⟨n, hn, rfl⟩ := nats_mem.mp hd
  exact sx_nat (h n hn)
/-- data that repr and == take, of one reading -/
structure Shw (d : D) : Prop where
  ok : okD d = true
  show_ : d.showable = true
  len : d.shown.length ≤ sizeLine
  txt : okD (.str d.shown) = true
theorem Sx.shw {n : Nat} {d : D} (h : Sx n d) (l : n ≤ 4096) (ok : okD d = true) : Shw d := ⟨ok, h.show_, Nat.le_trans h.len (Nat.le_trans l (by decide)), h.txt⟩
theorem shw_ntup {ns : List Nat} (h : ∀ n ∈ ns, n < 64) (l : ns.length ≤ 100) : Shw (.tuple (natsD ns)) := (sx_tup (sx_nats h)).shw (by rw [nats_len]; omega) (ok_ntup ns)
end VS
set_option Elab.async false
set_option linter.all false
set_option maxRecDepth 1000000
set_option maxHeartbeats 0
/-! K22: the law's defs as small trees (printed by a program of mine). -/
namespace VS.K22
open PySem PySem.Spec PyProof.Rows L2
abbrev prog : Program := PySem.Challenge.pw_hearwright_k22_stands_and_steps_from_any
def top (i : Nat) : Stmt := prog.main.body.getD i (.Pass ⟨0, 0, 0, 0⟩)
def kd_TAKEN : Tb := [⟨"line", (.tuple [(.int 0), (.int 1), (.int 2)])⟩, ⟨"receiver", (.tuple [(.int 0), (.int 1), (.int 2)])⟩, ⟨"sender", (.tuple [(.int 0), (.int 1)])⟩]
def kd_BITS : Tb := [⟨"b0", (.int 0)⟩, ⟨"b1", (.int 1)⟩]
def kd_SIGNS_stands : Tb := [⟨"s0", (.int 0)⟩, ⟨"s1", (.int 1)⟩, ⟨"s2", (.int 2)⟩]
def exms : List (Nat × Nat × Bool) := [(1, 1, true)]
def G : GI := ⟨[⟨"is_integer", 1⟩, ⟨"is_count", 1⟩, ⟨"is_sign", 1⟩, ⟨"many_stands", 1⟩, ⟨"is_taking", 2⟩, ⟨"sign_at", 2⟩, ⟨"nexts_behind", 3⟩, ⟨"stands_after", 3⟩, ⟨"is_stand", 2⟩, ⟨"steps_at", 2⟩, ⟨"is_stuck", 2⟩, ⟨"bits_in", 1⟩, ⟨"signs_in", 1⟩, ⟨"is_way", 3⟩, ⟨"end_of", 2⟩, ⟨"is_run", 2⟩, ⟨"begin_of", 2⟩, ⟨"silent_from", 2⟩, ⟨"unheard_from", 2⟩, ⟨"behind_sign", 3⟩, ⟨"heard_stands", 2⟩, ⟨"can_give", 2⟩, ⟨"ring_without_sign", 1⟩, ⟨"_law_bag", 1⟩, ⟨"_law_take", 2⟩, ⟨"_law_some", 2⟩, ⟨"_law_alike", 2⟩, ⟨"_law_mixed", 2⟩, ⟨"_law_drawn_joined", 1⟩, ⟨"_law_reach", 3⟩, ⟨"_law_all_rows", 1⟩, ⟨"_law_has_ring", 1⟩, ⟨"_law_steps", 4⟩, ⟨"_law_goes", 3⟩, ⟨"_law_are_stands", 2⟩, ⟨"_law_are_rows", 2⟩, ⟨"_law_are_ways", 2⟩, ⟨"_law_is_machine", 1⟩, ⟨"law", 1⟩], [⟨"SIGNS_forms", (.tuple [(.int 0), (.int 1), (.int 2)])⟩, ⟨"SILENT", (.str "-")⟩], ["abs", "any", "bool", "int", "isinstance", "len", "list", "range", "repr", "set", "sorted", "str", "sum", "tuple"], ["HearError", "Nothing"], exmOf exms, [⟨"TAKEN", kd_TAKEN⟩, ⟨"BITS", kd_BITS⟩, ⟨"SIGNS_stands", kd_SIGNS_stands⟩]⟩
/-- is_integer -/
def i_is_integer : ISs :=
 (.cons (.ret (.and (.op (.isi "int") (.cons (.slot 0) .nil)) (.one (.not (.op (.isi "bool") (.cons (.slot 0) .nil))))))
 .nil)
def d_is_integer : FDat := ⟨"is_integer", ["thing"], ["thing"], defArgs (top 6), defBody (top 6), defScope (top 6), i_is_integer⟩
/-- is_count -/
def i_is_count : ISs :=
 (.cons (.ret (.and (.call 0 (.cons (.slot 0) .nil)) (.one (.op .ge (.cons (.slot 0) (.cons (.lit (.int 0)) .nil))))))
 .nil)
def d_is_count : FDat := ⟨"is_count", ["thing"], ["thing"], defArgs (top 7), defBody (top 7), defScope (top 7), i_is_count⟩
/-- is_sign -/
def i_is_sign : ISs :=
 (.cons (.ret (.and (.call 0 (.cons (.slot 0) .nil)) (.one (.op .isin (.cons (.slot 0) (.cons (.lit (.tuple [(.int 0), (.int 1), (.int 2)])) .nil))))))
 .nil)
def d_is_sign : FDat := ⟨"is_sign", ["thing"], ["thing"], defArgs (top 8), defBody (top 8), defScope (top 8), i_is_sign⟩
/-- many_stands -/
def i_many_stands : ISs :=
 (.cons (.ret (.op .len (.cons (.op .idx (.cons (.slot 0) (.cons (.lit (.int 3)) .nil))) .nil)))
 .nil)
def d_many_stands : FDat := ⟨"many_stands", ["machine"], ["machine"], defArgs (top 11), defBody (top 11), defScope (top 11), i_many_stands⟩
/-- is_taking -/
def i_is_taking : ISs :=
 (.cons (.ret (.op .eq (.cons (.op .idx (.cons (.op .idx (.cons (.op .idx (.cons (.slot 0) (.cons (.lit (.int 3)) .nil))) (.cons (.slot 1) .nil))) (.cons (.lit (.int 0)) .nil))) (.cons (.lit (.str "take")) .nil))))
 .nil)
def d_is_taking : FDat := ⟨"is_taking", ["machine", "stand"], ["machine", "stand"], defArgs (top 12), defBody (top 12), defScope (top 12), i_is_taking⟩
/-- sign_at -/
def i_sign_at : ISs :=
 (.cons (.ite (.call 4 (.cons (.slot 0) (.cons (.slot 1) .nil)))
  (.cons (.raise 1)
  .nil)
  .nil)
 (.cons (.ret (.op .idx (.cons (.op .idx (.cons (.op .idx (.cons (.slot 0) (.cons (.lit (.int 3)) .nil))) (.cons (.slot 1) .nil))) (.cons (.lit (.int 1)) .nil))))
 .nil))
def d_sign_at : FDat := ⟨"sign_at", ["machine", "stand"], ["machine", "stand"], defArgs (top 13), defBody (top 13), defScope (top 13), i_sign_at⟩
/-- nexts_behind -/
def i_nexts_behind : ISs :=
 (.cons (.ite (.or (.not (.call 1 (.cons (.slot 1) .nil))) (.one (.op .ge (.cons (.slot 1) (.cons (.op .len (.cons (.op .idx (.cons (.slot 0) (.cons (.lit (.int 3)) .nil))) .nil)) .nil)))))
  (.cons (.raise 1)
  .nil)
  .nil)
 (.cons (.set 3 (.op .idx (.cons (.op .idx (.cons (.slot 0) (.cons (.lit (.int 3)) .nil))) (.cons (.slot 1) .nil))))
 (.cons (.ite (.op .eq (.cons (.op .idx (.cons (.slot 3) (.cons (.lit (.int 0)) .nil))) (.cons (.lit (.str "give")) .nil)))
  (.cons (.ite (.op .notN (.cons (.slot 2) .nil))
   (.cons (.raise 1)
   .nil)
   .nil)
  (.cons (.ret (.op .idx (.cons (.slot 3) (.cons (.lit (.int 2)) .nil))))
  .nil))
  .nil)
 (.cons (.ite (.or (.not (.call 2 (.cons (.slot 2) .nil))) (.one (.op .notin (.cons (.slot 2) (.cons (.kix "TAKEN" kd_TAKEN (.op .idx (.cons (.slot 0) (.cons (.lit (.int 1)) .nil)))) .nil)))))
  (.cons (.raise 1)
  .nil)
  .nil)
 (.cons (.ret (.op .idx (.cons (.op .idx (.cons (.slot 3) (.cons (.lit (.int 1)) .nil))) (.cons (.slot 2) .nil))))
 .nil)))))
def d_nexts_behind : FDat := ⟨"nexts_behind", ["machine", "stand", "sign"], ["machine", "stand", "sign", "row"], defArgs (top 14), defBody (top 14), defScope (top 14), i_nexts_behind⟩
def c_stands_after_1 : IE :=
 (.dc [⟨"behind", 5⟩] .data (.cons (.call 6 (.cons (.slot 0) (.cons (.slot 4) (.cons (.slot 2) .nil)))) .nil) (.name 5) .nil (.slot 5) (.lit (.bool true)))
def b_stands_after_1 : ISs :=
 (.cons (.ite (.call 4 (.cons (.slot 0) (.cons (.slot 4) .nil)))
  (.cons (.drop (.upd 3 (.cons c_stands_after_1 .nil)))
  .nil)
  .nil)
 .nil)
def l_stands_after_1 : IS :=
 (.for .data (.cons (.slot 1) .nil) (.name 4) b_stands_after_1)
/-- stands_after -/
def i_stands_after : ISs :=
 (.cons (.ite (.or (.not (.call 2 (.cons (.slot 2) .nil))) (.one (.op .notin (.cons (.slot 2) (.cons (.kix "TAKEN" kd_TAKEN (.op .idx (.cons (.slot 0) (.cons (.lit (.int 1)) .nil)))) .nil)))))
  (.cons (.raise 1)
  .nil)
  .nil)
 (.cons (.set 3 .dict0)
 (.cons l_stands_after_1
 (.cons (.ret (.op .tuple (.cons (.op .sorted (.cons (.slot 3) .nil)) .nil)))
 .nil))))
def d_stands_after : FDat := ⟨"stands_after", ["machine", "stands", "sign"], ["machine", "stands", "sign", "found", "stand", "behind"], defArgs (top 15), defBody (top 15), defScope (top 15), i_stands_after⟩
/-- is_stand -/
def i_is_stand : ISs :=
 (.cons (.ret (.and (.call 1 (.cons (.slot 1) .nil)) (.one (.op .lt (.cons (.slot 1) (.cons (.op .len (.cons (.op .idx (.cons (.slot 0) (.cons (.lit (.int 3)) .nil))) .nil)) .nil))))))
 .nil)
def d_is_stand : FDat := ⟨"is_stand", ["joined", "thing"], ["joined", "thing"], defArgs (top 20), defBody (top 20), defScope (top 20), i_is_stand⟩
/-- steps_at -/
def i_steps_at : ISs :=
 (.cons (.ite (.not (.call 8 (.cons (.slot 0) (.cons (.slot 1) .nil))))
  (.cons (.raise 1)
  .nil)
  .nil)
 (.cons (.ret (.op .idx (.cons (.op .idx (.cons (.slot 0) (.cons (.lit (.int 3)) .nil))) (.cons (.slot 1) .nil))))
 .nil))
def d_steps_at : FDat := ⟨"steps_at", ["joined", "stand"], ["joined", "stand"], defArgs (top 21), defBody (top 21), defScope (top 21), i_steps_at⟩
/-- is_stuck -/
def i_is_stuck : ISs :=
 (.cons (.ret (.op .eq (.cons (.call 9 (.cons (.slot 0) (.cons (.slot 1) .nil))) (.cons (.tup .nil) .nil))))
 .nil)
def d_is_stuck : FDat := ⟨"is_stuck", ["joined", "stand"], ["joined", "stand"], defArgs (top 22), defBody (top 22), defScope (top 22), i_is_stuck⟩
def c_bits_in_1 : IE :=
 (.lc [⟨"label", 1⟩, ⟨"stand", 2⟩] .data (.cons (.slot 0) .nil) (.tup [1, 2]) (.cons (.kin false "BITS" kd_BITS (.slot 1)) .nil) (.kix "BITS" kd_BITS (.slot 1)))
/-- bits_in -/
def i_bits_in : ISs :=
 (.cons (.ret (.op .tuple (.cons c_bits_in_1 .nil)))
 .nil)
def d_bits_in : FDat := ⟨"bits_in", ["steps"], ["steps", "label", "stand"], defArgs (top 23), defBody (top 23), defScope (top 23), i_bits_in⟩
def c_signs_in_1 : IE :=
 (.lc [⟨"label", 1⟩, ⟨"stand", 2⟩] .data (.cons (.slot 0) .nil) (.tup [1, 2]) (.cons (.kin false "SIGNS_stands" kd_SIGNS_stands (.slot 1)) .nil) (.kix "SIGNS_stands" kd_SIGNS_stands (.slot 1)))
/-- signs_in -/
def i_signs_in : ISs :=
 (.cons (.ret (.op .tuple (.cons c_signs_in_1 .nil)))
 .nil)
def d_signs_in : FDat := ⟨"signs_in", ["steps"], ["steps", "label", "stand"], defArgs (top 24), defBody (top 24), defScope (top 24), i_signs_in⟩
def b_is_way_1 : ISs :=
 (.cons (.ite (.or (.not (.op (.isi "tuple") (.cons (.slot 4) .nil))) (.or (.op .ne (.cons (.op .len (.cons (.slot 4) .nil)) (.cons (.lit (.int 2)) .nil))) (.or (.not (.op (.isi "str") (.cons (.op .idx (.cons (.slot 4) (.cons (.lit (.int 0)) .nil))) .nil))) (.one (.not (.call 1 (.cons (.op .idx (.cons (.slot 4) (.cons (.lit (.int 1)) .nil))) .nil)))))))
  (.cons (.ret (.lit (.bool false)))
  .nil)
  .nil)
 (.cons (.ite (.op .notin (.cons (.slot 4) (.cons (.op .idx (.cons (.op .idx (.cons (.slot 0) (.cons (.lit (.int 3)) .nil))) (.cons (.slot 3) .nil))) .nil)))
  (.cons (.ret (.lit (.bool false)))
  .nil)
  .nil)
 (.cons (.set 3 (.op .idx (.cons (.slot 4) (.cons (.lit (.int 1)) .nil))))
 .nil)))
def l_is_way_1 : IS :=
 (.for .data (.cons (.slot 2) .nil) (.name 4) b_is_way_1)
/-- is_way -/
def i_is_way : ISs :=
 (.cons (.ite (.or (.not (.op (.isi "tuple") (.cons (.slot 2) .nil))) (.one (.not (.call 8 (.cons (.slot 0) (.cons (.slot 1) .nil))))))
  (.cons (.ret (.lit (.bool false)))
  .nil)
  .nil)
 (.cons (.set 3 (.slot 1))
 (.cons l_is_way_1
 (.cons (.ret (.lit (.bool true)))
 .nil))))
def d_is_way : FDat := ⟨"is_way", ["joined", "begin", "thing"], ["joined", "begin", "thing", "here", "one"], defArgs (top 25), defBody (top 25), defScope (top 25), i_is_way⟩
/-- end_of -/
def i_end_of : ISs :=
 (.cons (.ret (.ite (.op .ne (.cons (.slot 1) (.cons (.tup .nil) .nil))) (.op .idx (.cons (.op .idx (.cons (.slot 1) (.cons (.op .neg (.cons (.lit (.int 1)) .nil)) .nil))) (.cons (.lit (.int 1)) .nil))) (.slot 0)))
 .nil)
def d_end_of : FDat := ⟨"end_of", ["begin", "steps"], ["begin", "steps"], defArgs (top 26), defBody (top 26), defScope (top 26), i_end_of⟩
def c_is_run_1 : IE :=
 (.lc [⟨"begin", 2⟩] .data (.cons (.op .idx (.cons (.slot 0) (.cons (.lit (.int 2)) .nil))) .nil) (.name 2) .nil (.call 13 (.cons (.slot 0) (.cons (.slot 2) (.cons (.slot 1) .nil)))))
/-- is_run -/
def i_is_run : ISs :=
 (.cons (.ret (.op .any (.cons c_is_run_1 .nil)))
 .nil)
def d_is_run : FDat := ⟨"is_run", ["joined", "thing"], ["joined", "thing", "begin"], defArgs (top 27), defBody (top 27), defScope (top 27), i_is_run⟩
def b_begin_of_1 : ISs :=
 (.cons (.ite (.call 13 (.cons (.slot 0) (.cons (.slot 2) (.cons (.slot 1) .nil))))
  (.cons (.ret (.slot 2))
  .nil)
  .nil)
 .nil)
def l_begin_of_1 : IS :=
 (.for .data (.cons (.op .idx (.cons (.slot 0) (.cons (.lit (.int 2)) .nil))) .nil) (.name 2) b_begin_of_1)
/-- begin_of -/
def i_begin_of : ISs :=
 (.cons l_begin_of_1
 (.cons (.raise 1)
 .nil))
def d_begin_of : FDat := ⟨"begin_of", ["joined", "steps"], ["joined", "steps", "begin"], defArgs (top 28), defBody (top 28), defScope (top 28), i_begin_of⟩
def c_silent_from_1 : IE :=
 (.lc [⟨"label", 5⟩, ⟨"behind", 6⟩] .data (.cons (.op .idx (.cons (.op .idx (.cons (.slot 0) (.cons (.lit (.int 3)) .nil))) (.cons (.slot 4) .nil))) .nil) (.tup [5, 6]) (.cons (.op .eq (.cons (.slot 5) (.cons (.lit (.str "-")) .nil))) .nil) (.slot 6))
def b_silent_from_1 : ISs :=
 (.cons (.set 4 (.mu .pop 3 .nil))
 (.cons (.ite (.op .notin (.cons (.slot 4) (.cons (.slot 2) .nil)))
  (.cons (.store (.slot 2) (.slot 4) (.lit (.bool true)))
  (.cons (.drop (.mu .extend 3 (.cons c_silent_from_1 .nil)))
  .nil))
  .nil)
 .nil))
def l_silent_from_1 : IS :=
 (.whl 1000 (.op .ne (.cons (.slot 3) (.cons (.lst .nil) .nil))) b_silent_from_1)
/-- silent_from -/
def i_silent_from : ISs :=
 (.cons (.par [2, 3] (.cons .dict0 (.cons (.op .list (.cons (.slot 1) .nil)) .nil)))
 (.cons l_silent_from_1
 (.cons (.ret (.op .tuple (.cons (.op .sorted (.cons (.slot 2) .nil)) .nil)))
 .nil)))
def d_silent_from : FDat := ⟨"silent_from", ["joined", "stands"], ["joined", "stands", "found", "line", "stand", "label", "behind"], defArgs (top 29), defBody (top 29), defScope (top 29), i_silent_from⟩
def c_unheard_from_1 : IE :=
 (.lc [⟨"label", 5⟩, ⟨"behind", 6⟩] .data (.cons (.op .idx (.cons (.op .idx (.cons (.slot 0) (.cons (.lit (.int 3)) .nil))) (.cons (.slot 4) .nil))) .nil) (.tup [5, 6]) (.cons (.kin true "SIGNS_stands" kd_SIGNS_stands (.slot 5)) .nil) (.slot 6))
def b_unheard_from_1 : ISs :=
 (.cons (.set 4 (.mu .pop 3 .nil))
 (.cons (.ite (.op .notin (.cons (.slot 4) (.cons (.slot 2) .nil)))
  (.cons (.store (.slot 2) (.slot 4) (.lit (.bool true)))
  (.cons (.drop (.mu .extend 3 (.cons c_unheard_from_1 .nil)))
  .nil))
  .nil)
 .nil))
def l_unheard_from_1 : IS :=
 (.whl 1000 (.op .ne (.cons (.slot 3) (.cons (.lst .nil) .nil))) b_unheard_from_1)
/-- unheard_from -/
def i_unheard_from : ISs :=
 (.cons (.par [2, 3] (.cons .dict0 (.cons (.op .list (.cons (.slot 1) .nil)) .nil)))
 (.cons l_unheard_from_1
 (.cons (.ret (.op .tuple (.cons (.op .sorted (.cons (.slot 2) .nil)) .nil)))
 .nil)))
def d_unheard_from : FDat := ⟨"unheard_from", ["joined", "stands"], ["joined", "stands", "found", "line", "stand", "label", "behind"], defArgs (top 30), defBody (top 30), defScope (top 30), i_unheard_from⟩
def c_behind_sign_1 : IE :=
 (.dc2 [⟨"stand", 4⟩, ⟨"one", 5⟩, ⟨"behind", 6⟩] [⟨"one", 5⟩, ⟨"behind", 6⟩] .data (.cons (.slot 1) .nil) (.name 4) .nil .data (.cons (.op .idx (.cons (.op .idx (.cons (.slot 0) (.cons (.lit (.int 3)) .nil))) (.cons (.slot 4) .nil))) .nil) (.tup [5, 6]) (.cons (.op .eq (.cons (.slot 5) (.cons (.slot 3) .nil))) .nil) (.slot 6) (.lit (.bool true)))
/-- behind_sign -/
def i_behind_sign : ISs :=
 (.cons (.set 3 (.op .add (.cons (.lit (.str "s")) (.cons (.op .str (.cons (.slot 2) .nil)) .nil))))
 (.cons (.ret (.op .tuple (.cons (.op .sorted (.cons c_behind_sign_1 .nil)) .nil)))
 .nil))
def d_behind_sign : FDat := ⟨"behind_sign", ["joined", "stands", "sign"], ["joined", "stands", "sign", "label", "stand", "one", "behind"], defArgs (top 31), defBody (top 31), defScope (top 31), i_behind_sign⟩
def b_heard_stands_1 : ISs :=
 (.cons (.set 2 (.call 18 (.cons (.slot 0) (.cons (.call 19 (.cons (.slot 0) (.cons (.slot 2) (.cons (.slot 3) .nil)))) .nil))))
 .nil)
def l_heard_stands_1 : IS :=
 (.for .data (.cons (.slot 1) .nil) (.name 3) b_heard_stands_1)
/-- heard_stands -/
def i_heard_stands : ISs :=
 (.cons (.set 2 (.call 18 (.cons (.slot 0) (.cons (.op .idx (.cons (.slot 0) (.cons (.lit (.int 2)) .nil))) .nil))))
 (.cons l_heard_stands_1
 (.cons (.ret (.slot 2))
 .nil)))
def d_heard_stands : FDat := ⟨"heard_stands", ["joined", "row"], ["joined", "row", "here", "sign"], defArgs (top 32), defBody (top 32), defScope (top 32), i_heard_stands⟩
/-- can_give -/
def i_can_give : ISs :=
 (.cons (.ret (.op .ne (.cons (.call 20 (.cons (.slot 0) (.cons (.slot 1) .nil))) (.cons (.tup .nil) .nil))))
 .nil)
def d_can_give : FDat := ⟨"can_give", ["joined", "row"], ["joined", "row"], defArgs (top 33), defBody (top 33), defScope (top 33), i_can_give⟩
def b_ring_without_sign_1 : ISs :=
 (.cons (.ite (.and (.kin false "BITS" kd_BITS (.slot 2)) (.one (.op .isin (.cons (.slot 1) (.cons (.call 18 (.cons (.slot 0) (.cons (.tup (.cons (.slot 3) .nil)) .nil))) .nil)))))
  (.cons (.ret (.lit (.bool true)))
  .nil)
  .nil)
 .nil)
def l_ring_without_sign_1 : IS :=
 (.for .data (.cons (.op .idx (.cons (.op .idx (.cons (.slot 0) (.cons (.lit (.int 3)) .nil))) (.cons (.slot 1) .nil))) .nil) (.tup [2, 3]) b_ring_without_sign_1)
def b_ring_without_sign_2 : ISs :=
 (.cons l_ring_without_sign_1
 .nil)
def l_ring_without_sign_2 : IS :=
 (.for .rng1 (.cons (.op .len (.cons (.op .idx (.cons (.slot 0) (.cons (.lit (.int 3)) .nil))) .nil)) .nil) (.name 1) b_ring_without_sign_2)
/-- ring_without_sign -/
def i_ring_without_sign : ISs :=
 (.cons l_ring_without_sign_2
 (.cons (.ret (.lit (.bool false)))
 .nil))
def d_ring_without_sign : FDat := ⟨"ring_without_sign", ["joined"], ["joined", "stand", "label", "behind"], defArgs (top 34), defBody (top 34), defScope (top 34), i_ring_without_sign⟩
def c_law_bag_1 : IE :=
 (.lc [⟨"cell", 1⟩] .data (.cons (.sl false true (.cons (.slot 0) (.cons (.lit (.int 63)) .nil))) .nil) (.name 1) .nil (.op .abs (.cons (.slot 1) .nil)))
/-- _law_bag -/
def i_law_bag : ISs :=
 (.cons (.ret (.lst (.cons (.lit (.int 0)) (.cons (.lit (.int 1234567891)) (.cons (.lit (.int 0)) (.cons c_law_bag_1 .nil))))))
 .nil)
def d_law_bag : FDat := ⟨"_law_bag", ["script"], ["script", "cell"], defArgs (top 36), defBody (top 36), defScope (top 36), i_law_bag⟩
/-- _law_take -/
def i_law_take : ISs :=
 (.cons (.ite (.op .eq (.cons (.op .idx (.cons (.slot 0) (.cons (.lit (.int 0)) .nil))) (.cons (.lit (.int 0)) .nil)))
  (.cons (.set 4 (.op .idx (.cons (.op .add (.cons (.sl true false (.cons (.op .idx (.cons (.slot 0) (.cons (.lit (.int 3)) .nil))) (.cons (.op .idx (.cons (.slot 0) (.cons (.lit (.int 2)) .nil))) .nil))) (.cons (.lst (.cons (.lit (.int 0)) .nil)) .nil))) (.cons (.lit (.int 0)) .nil))))
  (.cons (.augS .add (.slot 0) (.lit (.int 2)) (.lit (.int 1)))
  (.cons (.ite (.op .ge (.cons (.slot 4) (.cons (.op .pow (.cons (.lit (.int 10)) (.cons (.lit (.int 18)) .nil))) .nil)))
   (.cons (.store (.slot 0) (.lit (.int 0)) (.slot 4))
   .nil)
   .nil)
  (.cons (.set 5 (.op .add (.cons (.op .add (.cons (.op .mul (.cons (.op .idx (.cons (.slot 0) (.cons (.lit (.int 1)) .nil))) (.cons (.lit (.int 48271)) .nil))) (.cons (.op .mod (.cons (.op .int (.cons (.slot 4) .nil)) (.cons (.lit (.int 2147483647)) .nil))) .nil))) (.cons (.op .mul (.cons (.lit (.int 7919)) (.cons (.op .idx (.cons (.slot 0) (.cons (.lit (.int 2)) .nil))) .nil))) .nil))))
  (.cons (.store (.slot 0) (.lit (.int 1)) (.op .mod (.cons (.op .int (.cons (.slot 5) .nil)) (.cons (.lit (.int 2147483647)) .nil))))
  .nil)))))
  .nil)
 (.cons (.ite (.op .gt (.cons (.op .idx (.cons (.slot 0) (.cons (.lit (.int 0)) .nil))) (.cons (.lit (.int 0)) .nil)))
  (.cons (.set 6 (.op .mod (.cons (.op .int (.cons (.op .idx (.cons (.slot 0) (.cons (.lit (.int 0)) .nil))) .nil)) (.cons (.slot 1) .nil))))
  (.cons (.store (.slot 0) (.lit (.int 0)) (.op .fdiv (.cons (.op .int (.cons (.op .idx (.cons (.slot 0) (.cons (.lit (.int 0)) .nil))) .nil)) (.cons (.slot 1) .nil))))
  (.cons (.ret (.slot 6))
  .nil)))
  .nil)
 (.cons (.set 2 (.op .mod (.cons (.op .int (.cons (.op .mul (.cons (.op .add (.cons (.op .idx (.cons (.slot 0) (.cons (.lit (.int 1)) .nil))) (.cons (.lit (.int 1)) .nil))) (.cons (.lit (.int 39373)) .nil))) .nil)) (.cons (.lit (.int 1000000007)) .nil))))
 (.cons (.set 3 (.op .mod (.cons (.op .int (.cons (.op .mul (.cons (.op .mod (.cons (.op .int (.cons (.op .mul (.cons (.slot 2) (.cons (.slot 2) .nil))) .nil)) (.cons (.lit (.int 998244353)) .nil))) (.cons (.lit (.int 30011)) .nil))) .nil)) (.cons (.lit (.int 998244353)) .nil))))
 (.cons (.ret (.op .mod (.cons (.op .int (.cons (.op .fdiv (.cons (.slot 3) (.cons (.lit (.int 7)) .nil))) .nil)) (.cons (.slot 1) .nil))))
 .nil)))))
def d_law_take : FDat := ⟨"_law_take", ["bag", "many"], ["bag", "many", "first", "second", "cell", "stirred", "value"], defArgs (top 37), defBody (top 37), defScope (top 37), i_law_take⟩
/-- _law_some -/
def i_law_some : ISs :=
 (.cons (.ret (.op .idx (.cons (.slot 1) (.cons (.call 24 (.cons (.slot 0) (.cons (.op .len (.cons (.slot 1) .nil)) .nil))) .nil))))
 .nil)
def d_law_some : FDat := ⟨"_law_some", ["bag", "things"], ["bag", "things"], defArgs (top 38), defBody (top 38), defScope (top 38), i_law_some⟩
/-- _law_alike -/
def i_law_alike : ISs :=
 (.cons (.ret (.and (.op .eq (.cons (.op .repr (.cons (.slot 0) .nil)) (.cons (.op .repr (.cons (.slot 1) .nil)) .nil))) (.one (.op .eq (.cons (.slot 0) (.cons (.slot 1) .nil))))))
 .nil)
def d_law_alike : FDat := ⟨"_law_alike", ["found", "due"], ["found", "due"], defArgs (top 39), defBody (top 39), defScope (top 39), i_law_alike⟩
def b_law_mixed_1 : ISs :=
 (.cons (.drop (.mu .insert 2 (.cons (.call 24 (.cons (.slot 0) (.cons (.op .add (.cons (.op .len (.cons (.slot 2) .nil)) (.cons (.lit (.int 1)) .nil))) .nil))) (.cons (.slot 3) .nil))))
 .nil)
def l_law_mixed_1 : IS :=
 (.for .data (.cons (.slot 1) .nil) (.name 3) b_law_mixed_1)
/-- _law_mixed -/
def i_law_mixed : ISs :=
 (.cons (.set 2 (.lst .nil))
 (.cons l_law_mixed_1
 (.cons (.ret (.slot 2))
 .nil)))
def d_law_mixed : FDat := ⟨"_law_mixed", ["bag", "things"], ["bag", "things", "found", "thing"], defArgs (top 40), defBody (top 40), defScope (top 40), i_law_mixed⟩
def c_law_drawn_joined_1 : IE :=
 (.lc [⟨"j", 6⟩] .rng1 (.cons (.call 25 (.cons (.slot 0) (.cons (.lst (.cons (.lit (.int 0)) (.cons (.lit (.int 1)) (.cons (.lit (.int 2)) (.cons (.lit (.int 2)) (.cons (.lit (.int 3)) .nil)))))) .nil))) .nil) (.name 6) .nil (.call 25 (.cons (.slot 0) (.cons (.lst (.cons (.lit (.str "b0")) (.cons (.lit (.str "b1")) (.cons (.lit (.str "s0")) (.cons (.lit (.str "s1")) (.cons (.lit (.str "s2")) (.cons (.lit (.str "-")) .nil))))))) .nil))))
def c_law_drawn_joined_2 : IE :=
 (.lc [⟨"label", 7⟩] .data (.cons (.slot 5) .nil) (.name 7) .nil (.tup (.cons (.slot 7) (.cons (.call 24 (.cons (.slot 0) (.cons (.slot 3) .nil))) .nil))))
def b_law_drawn_joined_1 : ISs :=
 (.cons (.set 5 c_law_drawn_joined_1)
 (.cons (.drop (.mu .append 4 (.cons (.op .tuple (.cons (.op .sset (.cons c_law_drawn_joined_2 .nil)) .nil)) .nil)))
 .nil))
def l_law_drawn_joined_1 : IS :=
 (.for .rng1 (.cons (.slot 3) .nil) (.name 1) b_law_drawn_joined_1)
def c_law_drawn_joined_3 : IE :=
 (.lc [⟨"k", 1⟩] .rng1 (.cons (.op .add (.cons (.lit (.int 1)) (.cons (.call 24 (.cons (.slot 0) (.cons (.lit (.int 2)) .nil))) .nil))) .nil) (.name 1) .nil (.call 24 (.cons (.slot 0) (.cons (.slot 3) .nil))))
/-- _law_drawn_joined -/
def i_law_drawn_joined : ISs :=
 (.cons (.par [3, 4] (.cons (.op .add (.cons (.lit (.int 2)) (.cons (.call 24 (.cons (.slot 0) (.cons (.lit (.int 4)) .nil))) .nil))) (.cons (.lst .nil) .nil)))
 (.cons l_law_drawn_joined_1
 (.cons (.set 2 (.op .tuple (.cons (.op .sset (.cons c_law_drawn_joined_3 .nil)) .nil)))
 (.cons (.ret (.tup (.cons (.lit (.str "near")) (.cons (.tup .nil) (.cons (.slot 2) (.cons (.op .tuple (.cons (.slot 4) .nil)) .nil))))))
 .nil))))
def d_law_drawn_joined : FDat := ⟨"_law_drawn_joined", ["bag"], ["bag", "k", "begins", "many", "found", "labels", "j", "label"], defArgs (top 41), defBody (top 41), defScope (top 41), i_law_drawn_joined⟩
def c_law_reach_1 : IE :=
 (.lc [⟨"label", 7⟩, ⟨"later", 8⟩] .data (.cons (.op .idx (.cons (.op .idx (.cons (.slot 0) (.cons (.lit (.int 3)) .nil))) (.cons (.slot 6) .nil))) .nil) (.tup [7, 8]) (.cons (.op .isin (.cons (.slot 7) (.cons (.slot 2) .nil))) .nil) (.slot 8))
def b_law_reach_1 : ISs :=
 (.cons (.ite (.op .eq (.cons (.slot 5) (.cons (.lst .nil) .nil)))
  (.cons .brk
  .nil)
  .nil)
 (.cons (.set 6 (.mu .pop 5 .nil))
 (.cons (.ite (.op .notin (.cons (.slot 6) (.cons (.slot 4) .nil)))
  (.cons (.drop (.mu .append 4 (.cons (.slot 6) .nil)))
  (.cons (.drop (.mu .extend 5 (.cons c_law_reach_1 .nil)))
  .nil))
  .nil)
 .nil)))
def l_law_reach_1 : IS :=
 (.for .rng1 (.cons (.lit (.int 999)) .nil) (.name 3) b_law_reach_1)
/-- _law_reach -/
def i_law_reach : ISs :=
 (.cons (.par [4, 5] (.cons (.lst .nil) (.cons (.op .list (.cons (.slot 1) .nil)) .nil)))
 (.cons l_law_reach_1
 (.cons (.ret (.op .sorted (.cons (.slot 4) .nil)))
 .nil)))
def d_law_reach : FDat := ⟨"_law_reach", ["joined", "stands", "labels"], ["joined", "stands", "labels", "turn", "found", "line", "here", "label", "later"], defArgs (top 42), defBody (top 42), defScope (top 42), i_law_reach⟩
def c_law_all_rows_1 : IE :=
 (.lc [⟨"sign", 5⟩] .data (.cons (.tup (.cons (.lit (.int 0)) (.cons (.lit (.int 1)) (.cons (.lit (.int 2)) .nil)))) .nil) (.name 5) .nil (.op .add (.cons (.slot 4) (.cons (.tup (.cons (.slot 5) .nil)) .nil))))
def c_law_all_rows_2 : IE :=
 (.lc [⟨"row", 4⟩] .data (.cons (.slot 3) .nil) (.name 4) .nil c_law_all_rows_1)
def b_law_all_rows_1 : ISs :=
 (.cons (.set 3 (.op .sumL (.cons c_law_all_rows_2 .nil)))
 (.cons (.set 2 (.op .add (.cons (.slot 2) (.cons (.slot 3) .nil))))
 .nil))
def l_law_all_rows_1 : IS :=
 (.for .rng1 (.cons (.slot 0) .nil) (.name 1) b_law_all_rows_1)
/-- _law_all_rows -/
def i_law_all_rows : ISs :=
 (.cons (.par [2, 3] (.cons (.lst (.cons (.tup .nil) .nil)) (.cons (.lst (.cons (.tup .nil) .nil)) .nil)))
 (.cons l_law_all_rows_1
 (.cons (.ret (.slot 2))
 .nil)))
def d_law_all_rows : FDat := ⟨"_law_all_rows", ["many"], ["many", "k", "found", "last", "row", "sign"], defArgs (top 43), defBody (top 43), defScope (top 43), i_law_all_rows⟩
def b_law_has_ring_1 : ISs :=
 (.cons (.ite (.and (.op .eq (.cons (.op .idx (.cons (.slot 3) (.cons (.lit (.int 0)) .nil))) (.cons (.lit (.str "b")) .nil))) (.one (.op .isin (.cons (.slot 2) (.cons (.call 29 (.cons (.slot 0) (.cons (.lst (.cons (.slot 4) .nil)) (.cons (.slot 1) .nil)))) .nil)))))
  (.cons (.ret (.lit (.bool true)))
  .nil)
  .nil)
 .nil)
def l_law_has_ring_1 : IS :=
 (.for .data (.cons (.op .idx (.cons (.op .idx (.cons (.slot 0) (.cons (.lit (.int 3)) .nil))) (.cons (.slot 2) .nil))) .nil) (.tup [3, 4]) b_law_has_ring_1)
def b_law_has_ring_2 : ISs :=
 (.cons l_law_has_ring_1
 .nil)
def l_law_has_ring_2 : IS :=
 (.for .rng1 (.cons (.op .len (.cons (.op .idx (.cons (.slot 0) (.cons (.lit (.int 3)) .nil))) .nil)) .nil) (.name 2) b_law_has_ring_2)
/-- _law_has_ring -/
def i_law_has_ring : ISs :=
 (.cons (.set 1 (.lst (.cons (.lit (.str "b0")) (.cons (.lit (.str "b1")) (.cons (.lit (.str "-")) .nil)))))
 (.cons l_law_has_ring_2
 (.cons (.ret (.lit (.bool false)))
 .nil)))
def d_law_has_ring : FDat := ⟨"_law_has_ring", ["joined"], ["joined", "quiet", "stand", "label", "later"], defArgs (top 44), defBody (top 44), defScope (top 44), i_law_has_ring⟩
def b_law_steps_1 : ISs :=
 (.cons (.ite (.op .eq (.cons (.op .idx (.cons (.op .idx (.cons (.slot 1) (.cons (.lit (.int 3)) .nil))) (.cons (.slot 2) .nil))) (.cons (.tup .nil) .nil)))
  (.cons .brk
  .nil)
  .nil)
 (.cons (.asg (.tup [6, 2]) (.call 25 (.cons (.slot 0) (.cons (.op .list (.cons (.op .idx (.cons (.op .idx (.cons (.slot 1) (.cons (.lit (.int 3)) .nil))) (.cons (.slot 2) .nil))) .nil)) .nil))))
 (.cons (.set 4 (.op .add (.cons (.slot 4) (.cons (.tup (.cons (.tup (.cons (.slot 6) (.cons (.slot 2) .nil))) .nil)) .nil))))
 .nil)))
def l_law_steps_1 : IS :=
 (.for .rng1 (.cons (.slot 3) .nil) (.name 5) b_law_steps_1)
/-- _law_steps -/
def i_law_steps : ISs :=
 (.cons (.set 4 (.tup .nil))
 (.cons l_law_steps_1
 (.cons (.ret (.slot 4))
 .nil)))
def d_law_steps : FDat := ⟨"_law_steps", ["bag", "joined", "here", "most"], ["bag", "joined", "here", "most", "found", "lap", "label"], defArgs (top 45), defBody (top 45), defScope (top 45), i_law_steps⟩
def b_law_goes_1 : ISs :=
 (.cons (.ite (.or (.not (.op (.isi "int") (.cons (.slot 1) .nil))) (.one (.op .notin (.cons (.slot 3) (.cons (.op .idx (.cons (.op .idx (.cons (.slot 0) (.cons (.lit (.int 3)) .nil))) (.cons (.slot 1) .nil))) .nil)))))
  (.cons (.ret (.lit (.bool false)))
  .nil)
  .nil)
 (.cons (.set 1 (.op .idx (.cons (.slot 3) (.cons (.lit (.int 1)) .nil))))
 .nil))
def l_law_goes_1 : IS :=
 (.for .data (.cons (.slot 2) .nil) (.name 3) b_law_goes_1)
/-- _law_goes -/
def i_law_goes : ISs :=
 (.cons l_law_goes_1
 (.cons (.ret (.lit (.bool true)))
 .nil))
def d_law_goes : FDat := ⟨"_law_goes", ["joined", "here", "steps"], ["joined", "here", "steps", "one"], defArgs (top 46), defBody (top 46), defScope (top 46), i_law_goes⟩
def c_law_are_stands_1 : IE :=
 (.lc [⟨"k", 8⟩] .rng1 (.cons (.op .add (.cons (.lit (.int 1)) (.cons (.call 24 (.cons (.slot 0) (.cons (.lit (.int 3)) .nil))) .nil))) .nil) (.name 8) .nil (.call 24 (.cons (.slot 0) (.cons (.slot 5) .nil))))
def c_law_are_stands_2 : IE :=
 (.lc [⟨"label", 10⟩, ⟨"later", 11⟩] .data (.cons (.op .idx (.cons (.op .idx (.cons (.slot 1) (.cons (.lit (.int 3)) .nil))) (.cons (.slot 9) .nil))) .nil) (.tup [10, 11]) (.cons (.op .eq (.cons (.slot 10) (.cons (.op .add (.cons (.lit (.str "s")) (.cons (.op .str (.cons (.slot 3) .nil)) .nil))) .nil))) .nil) (.slot 11))
def c_law_are_stands_3 : IE :=
 (.lc [⟨"stand", 9⟩] .data (.cons (.slot 2) .nil) (.name 9) .nil c_law_are_stands_2)
def b_law_are_stands_1 : ISs :=
 (.cons (.set 7 (.op .sset (.cons (.op .sumL (.cons c_law_are_stands_3 .nil)) .nil)))
 (.cons (.ite (.not (.call 26 (.cons (.call 19 (.cons (.slot 1) (.cons (.op .tuple (.cons (.slot 2) .nil)) (.cons (.slot 3) .nil)))) (.cons (.op .tuple (.cons (.slot 7) .nil)) .nil))))
  (.cons (.ret (.lit (.bool false)))
  .nil)
  .nil)
 .nil))
def l_law_are_stands_1 : IS :=
 (.for .data (.cons (.tup (.cons (.lit (.int 0)) (.cons (.lit (.int 1)) (.cons (.lit (.int 2)) .nil)))) .nil) (.name 3) b_law_are_stands_1)
def b_law_are_stands_2 : ISs :=
 (.cons (.set 7 (.and (.op (.isi "int") (.cons (.slot 4) .nil)) (.and (.not (.op (.isi "bool") (.cons (.slot 4) .nil))) (.one (.chain .le .lt (.lit (.int 0)) (.slot 4) (.slot 5))))))
 (.cons (.ite (.or (.op .ne (.cons (.op .bool (.cons (.call 8 (.cons (.slot 1) (.cons (.slot 4) .nil))) .nil)) (.cons (.slot 7) .nil))) (.one (.and (.slot 7) (.one (.or (.not (.call 26 (.cons (.call 9 (.cons (.slot 1) (.cons (.slot 4) .nil))) (.cons (.op .idx (.cons (.op .idx (.cons (.slot 1) (.cons (.lit (.int 3)) .nil))) (.cons (.slot 4) .nil))) .nil)))) (.one (.op .ne (.cons (.op .bool (.cons (.call 10 (.cons (.slot 1) (.cons (.slot 4) .nil))) .nil)) (.cons (.op .eq (.cons (.op .idx (.cons (.op .idx (.cons (.slot 1) (.cons (.lit (.int 3)) .nil))) (.cons (.slot 4) .nil))) (.cons (.tup .nil) .nil))) .nil)))))))))
  (.cons (.ret (.lit (.bool false)))
  .nil)
  .nil)
 .nil))
def l_law_are_stands_2 : IS :=
 (.for .data (.cons (.lst (.cons (.lit (.int 0)) (.cons (.op .sub (.cons (.slot 5) (.cons (.lit (.int 1)) .nil))) (.cons (.slot 5) (.cons (.op .neg (.cons (.lit (.int 1)) .nil)) (.cons (.lit (.bool true)) (.cons (.lit .none) (.cons (.lit (.str "0")) (.cons (.tup (.cons (.lit (.int 0)) .nil)) .nil))))))))) .nil) (.name 4) b_law_are_stands_2)
/-- _law_are_stands -/
def i_law_are_stands : ISs :=
 (.cons (.par [5, 6] (.cons (.op .len (.cons (.op .idx (.cons (.slot 1) (.cons (.lit (.int 3)) .nil))) .nil)) (.cons (.lst (.cons (.lit (.str "b0")) (.cons (.lit (.str "b1")) (.cons (.lit (.str "-")) .nil)))) .nil)))
 (.cons (.set 2 (.op .sset (.cons c_law_are_stands_1 .nil)))
 (.cons (.ite (.not (.call 26 (.cons (.lst (.cons (.call 17 (.cons (.slot 1) (.cons (.op .tuple (.cons (.slot 2) .nil)) .nil))) (.cons (.call 18 (.cons (.slot 1) (.cons (.op .tuple (.cons (.slot 2) .nil)) .nil))) .nil))) (.cons (.lst (.cons (.op .tuple (.cons (.call 29 (.cons (.slot 1) (.cons (.slot 2) (.cons (.lst (.cons (.lit (.str "-")) .nil)) .nil)))) .nil)) (.cons (.op .tuple (.cons (.call 29 (.cons (.slot 1) (.cons (.slot 2) (.cons (.slot 6) .nil)))) .nil)) .nil))) .nil))))
  (.cons (.ret (.lit (.bool false)))
  .nil)
  .nil)
 (.cons l_law_are_stands_1
 (.cons l_law_are_stands_2
 (.cons (.ret (.op .eq (.cons (.op .bool (.cons (.call 22 (.cons (.slot 1) .nil)) .nil)) (.cons (.call 31 (.cons (.slot 1) .nil)) .nil))))
 .nil))))))
def d_law_are_stands : FDat := ⟨"_law_are_stands", ["bag", "joined"], ["bag", "joined", "some", "sign", "thing", "many", "quiet", "due", "k", "stand", "label", "later"], defArgs (top 47), defBody (top 47), defScope (top 47), i_law_are_stands⟩
def c_law_are_rows_1 : IE :=
 (.lc [⟨"label", 7⟩, ⟨"later", 8⟩] .data (.cons (.op .idx (.cons (.op .idx (.cons (.slot 1) (.cons (.lit (.int 3)) .nil))) (.cons (.slot 6) .nil))) .nil) (.tup [7, 8]) (.cons (.op .eq (.cons (.slot 7) (.cons (.op .add (.cons (.lit (.str "s")) (.cons (.op .str (.cons (.slot 5) .nil)) .nil))) .nil))) .nil) (.slot 8))
def c_law_are_rows_2 : IE :=
 (.lc [⟨"stand", 6⟩] .data (.cons (.slot 4) .nil) (.name 6) .nil c_law_are_rows_1)
def b_law_are_rows_1 : ISs :=
 (.cons (.set 4 (.call 29 (.cons (.slot 1) (.cons (.op .sset (.cons (.op .sumL (.cons c_law_are_rows_2 .nil)) .nil)) (.cons (.slot 2) .nil)))))
 .nil)
def l_law_are_rows_1 : IS :=
 (.for .data (.cons (.slot 3) .nil) (.name 5) b_law_are_rows_1)
def b_law_are_rows_2 : ISs :=
 (.cons (.set 4 (.call 29 (.cons (.slot 1) (.cons (.op .idx (.cons (.slot 1) (.cons (.lit (.int 2)) .nil))) (.cons (.slot 2) .nil)))))
 (.cons l_law_are_rows_1
 (.cons (.ite (.or (.not (.call 26 (.cons (.call 20 (.cons (.slot 1) (.cons (.slot 3) .nil))) (.cons (.op .tuple (.cons (.slot 4) .nil)) .nil)))) (.one (.op .ne (.cons (.op .bool (.cons (.call 21 (.cons (.slot 1) (.cons (.slot 3) .nil))) .nil)) (.cons (.op .ne (.cons (.slot 4) (.cons (.lst .nil) .nil))) .nil)))))
  (.cons (.ret (.lit (.bool false)))
  .nil)
  .nil)
 .nil)))
def l_law_are_rows_2 : IS :=
 (.for .data (.cons (.call 30 (.cons (.lit (.int 2)) .nil)) .nil) (.name 3) b_law_are_rows_2)
/-- _law_are_rows -/
def i_law_are_rows : ISs :=
 (.cons (.set 2 (.lst (.cons (.lit (.str "b0")) (.cons (.lit (.str "b1")) (.cons (.lit (.str "-")) .nil)))))
 (.cons l_law_are_rows_2
 (.cons (.ret (.lit (.bool true)))
 .nil)))
def d_law_are_rows : FDat := ⟨"_law_are_rows", ["bag", "joined"], ["bag", "joined", "quiet", "row", "here", "sign", "stand", "label", "later"], defArgs (top 48), defBody (top 48), defScope (top 48), i_law_are_rows⟩
def c_law_are_ways_1 : IE :=
 (.lc [⟨"label", 11⟩, ⟨"later", 12⟩] .data (.cons (.slot 3) .nil) (.tup [11, 12]) .nil (.slot 12))
def c_law_are_ways_2 : IE :=
 (.lc [⟨"label", 11⟩, ⟨"later", 12⟩] .data (.cons (.slot 3) .nil) (.tup [11, 12]) (.cons (.op .eq (.cons (.op .idx (.cons (.slot 11) (.cons (.lit (.int 0)) .nil))) (.cons (.lit (.str "b")) .nil))) .nil) (.op .int (.cons (.op .idx (.cons (.slot 11) (.cons (.lit (.int 1)) .nil))) .nil)))
def c_law_are_ways_3 : IE :=
 (.lc [⟨"label", 11⟩, ⟨"later", 12⟩] .data (.cons (.slot 3) .nil) (.tup [11, 12]) (.cons (.op .eq (.cons (.op .idx (.cons (.slot 11) (.cons (.lit (.int 0)) .nil))) (.cons (.lit (.str "s")) .nil))) .nil) (.op .int (.cons (.op .idx (.cons (.slot 11) (.cons (.lit (.int 1)) .nil))) .nil)))
def c_law_are_ways_4 : IE :=
 (.lc [⟨"one", 10⟩] .data (.cons (.slot 5) .nil) (.name 10) (.cons (.or (.not (.op (.isi "tuple") (.cons (.slot 10) .nil))) (.one (.op .ne (.cons (.op .len (.cons (.slot 10) .nil)) (.cons (.lit (.int 2)) .nil))))) .nil) (.slot 10))
def c_law_are_ways_5 : IE :=
 (.lc [⟨"one", 10⟩] .data (.cons (.op .idx (.cons (.slot 1) (.cons (.lit (.int 2)) .nil))) .nil) (.name 10) (.cons (.and (.slot 8) (.one (.call 33 (.cons (.slot 1) (.cons (.slot 10) (.cons (.slot 5) .nil)))))) .nil) (.slot 10))
def b_law_are_ways_1 : ISs :=
 (.cons (.set 8 (.and (.op (.isi "tuple") (.cons (.slot 5) .nil)) (.one (.op .eq (.cons c_law_are_ways_4 (.cons (.lst .nil) .nil))))))
 (.cons (.set 9 c_law_are_ways_5)
 (.cons (.ite (.or (.op .ne (.cons (.op .bool (.cons (.call 13 (.cons (.slot 1) (.cons (.slot 2) (.cons (.slot 5) .nil)))) .nil)) (.cons (.and (.slot 8) (.one (.call 33 (.cons (.slot 1) (.cons (.slot 2) (.cons (.slot 5) .nil)))))) .nil))) (.one (.op .ne (.cons (.op .bool (.cons (.call 15 (.cons (.slot 1) (.cons (.slot 5) .nil))) .nil)) (.cons (.op .ne (.cons (.slot 9) (.cons (.lst .nil) .nil))) .nil)))))
  (.cons (.ret (.lit (.bool false)))
  .nil)
  .nil)
 (.cons (.ite (.and (.op .ne (.cons (.slot 9) (.cons (.lst .nil) .nil))) (.one (.op .ne (.cons (.call 16 (.cons (.slot 1) (.cons (.slot 5) .nil))) (.cons (.op .idx (.cons (.slot 9) (.cons (.lit (.int 0)) .nil))) .nil)))))
  (.cons (.ret (.lit (.bool false)))
  .nil)
  .nil)
 .nil))))
def l_law_are_ways_1 : IS :=
 (.for .data (.cons (.lst (.cons (.op .add (.cons (.op .add (.cons (.sl false true (.cons (.slot 3) (.cons (.slot 4) .nil))) (.cons (.tup (.cons (.call 25 (.cons (.slot 0) (.cons (.lst (.cons (.tup (.cons (.lit (.str "b0")) (.cons (.lit (.int 0)) .nil))) (.cons (.tup (.cons (.lit (.str "s1")) (.cons (.lit (.int 1)) .nil))) (.cons (.tup (.cons (.lit (.str "-")) (.cons (.lit (.int 9)) .nil))) (.cons (.lit .none) (.cons (.tup (.cons (.lit (.str "b0")) .nil)) .nil)))))) .nil))) .nil)) .nil))) (.cons (.sl true false (.cons (.slot 3) (.cons (.op .add (.cons (.slot 4) (.cons (.lit (.int 1)) .nil))) .nil))) .nil))) (.cons (.op .list (.cons (.slot 3) .nil)) (.cons (.lit .none) (.cons (.op .rev (.cons (.slot 3) .nil)) (.cons (.slot 3) .nil)))))) .nil) (.name 5) b_law_are_ways_1)
/-- _law_are_ways -/
def i_law_are_ways : ISs :=
 (.cons (.set 2 (.call 25 (.cons (.slot 0) (.cons (.op .rngL (.cons (.op .len (.cons (.op .idx (.cons (.slot 1) (.cons (.lit (.int 3)) .nil))) .nil)) .nil)) .nil))))
 (.cons (.set 3 (.call 32 (.cons (.slot 0) (.cons (.slot 1) (.cons (.slot 2) (.cons (.lit (.int 6)) .nil))))))
 (.cons (.ite (.or (.not (.call 13 (.cons (.slot 1) (.cons (.slot 2) (.cons (.slot 3) .nil))))) (.one (.op .ne (.cons (.call 14 (.cons (.slot 2) (.cons (.slot 3) .nil))) (.cons (.op .idx (.cons (.op .add (.cons (.lst (.cons (.slot 2) .nil)) (.cons c_law_are_ways_1 .nil))) (.cons (.op .neg (.cons (.lit (.int 1)) .nil)) .nil))) .nil)))))
  (.cons (.ret (.lit (.bool false)))
  .nil)
  .nil)
 (.cons (.par [6, 7] (.cons c_law_are_ways_2 (.cons c_law_are_ways_3 .nil)))
 (.cons (.ite (.not (.call 26 (.cons (.lst (.cons (.call 11 (.cons (.slot 3) .nil)) (.cons (.call 12 (.cons (.slot 3) .nil)) .nil))) (.cons (.lst (.cons (.op .tuple (.cons (.slot 6) .nil)) (.cons (.op .tuple (.cons (.slot 7) .nil)) .nil))) .nil))))
  (.cons (.ret (.lit (.bool false)))
  .nil)
  .nil)
 (.cons (.set 4 (.ite (.op .ne (.cons (.slot 3) (.cons (.tup .nil) .nil))) (.call 24 (.cons (.slot 0) (.cons (.op .len (.cons (.slot 3) .nil)) .nil))) (.lit (.int 0))))
 (.cons l_law_are_ways_1
 (.cons (.tr 1
  (.cons (.drop (.call 9 (.cons (.slot 1) (.cons (.op .len (.cons (.op .idx (.cons (.slot 1) (.cons (.lit (.int 3)) .nil))) .nil)) .nil))))
  (.cons (.ret (.lit (.bool false)))
  .nil))
  (.cons (.ret (.lit (.bool true)))
  .nil))
 .nil))))))))
def d_law_are_ways : FDat := ⟨"_law_are_ways", ["bag", "joined"], ["bag", "joined", "origin", "steps", "k", "bent", "bits", "signs", "due", "goes", "one", "label", "later"], defArgs (top 49), defBody (top 49), defScope (top 49), i_law_are_ways⟩
def c_law_is_machine_1 : IE :=
 (.lc [⟨"i", 12⟩] .rng1 (.cons (.op .add (.cons (.lit (.int 1)) (.cons (.call 24 (.cons (.slot 0) (.cons (.lit (.int 2)) .nil))) .nil))) .nil) (.name 12) .nil (.call 24 (.cons (.slot 0) (.cons (.slot 5) .nil))))
def c_law_is_machine_2 : IE :=
 (.lc [⟨"j", 9⟩] .rng1 (.cons (.ite (.op .eq (.cons (.slot 6) (.cons (.lit (.str "sender")) .nil))) (.lit (.int 2)) (.lit (.int 3))) .nil) (.name 9) .nil (.op .tuple (.cons (.op .sset (.cons c_law_is_machine_1 .nil)) .nil)))
def b_law_is_machine_1 : ISs :=
 (.cons (.set 8 (.op .tuple (.cons c_law_is_machine_2 .nil)))
 (.cons (.drop (.mu .append 7 (.cons (.call 25 (.cons (.slot 0) (.cons (.lst (.cons (.tup (.cons (.lit (.str "take")) (.cons (.slot 8) .nil))) (.cons (.tup (.cons (.lit (.str "give")) (.cons (.call 24 (.cons (.slot 0) (.cons (.lit (.int 3)) .nil))) (.cons (.op .idx (.cons (.slot 8) (.cons (.lit (.int 0)) .nil))) .nil)))) .nil))) .nil))) .nil)))
 .nil))
def l_law_is_machine_1 : IS :=
 (.for .rng1 (.cons (.slot 5) .nil) (.name 1) b_law_is_machine_1)
def c_law_is_machine_3 : IE :=
 (.lc [⟨"k", 1⟩] .rng1 (.cons (.slot 5) .nil) (.name 1) .nil (.op .bool (.cons (.call 4 (.cons (.slot 2) (.cons (.slot 1) .nil))) .nil)))
def c_law_is_machine_4 : IE :=
 (.lc [⟨"row", 10⟩] .data (.cons (.slot 7) .nil) (.name 10) .nil (.op .eq (.cons (.op .idx (.cons (.slot 10) (.cons (.lit (.int 0)) .nil))) (.cons (.lit (.str "take")) .nil))))
def c_law_is_machine_5 : IE :=
 (.lc [⟨"sign", 11⟩] .rng1 (.cons (.op .len (.cons (.op .idx (.cons (.op .idx (.cons (.slot 7) (.cons (.slot 1) .nil))) (.cons (.lit (.int 1)) .nil))) .nil)) .nil) (.name 11) .nil (.call 6 (.cons (.slot 2) (.cons (.slot 1) (.cons (.slot 11) .nil)))))
def b_law_is_machine_2 : ISs :=
 (.cons (.ite (.and (.op .eq (.cons (.op .idx (.cons (.op .idx (.cons (.slot 7) (.cons (.slot 1) .nil))) (.cons (.lit (.int 0)) .nil))) (.cons (.lit (.str "give")) .nil))) (.one (.or (.op .ne (.cons (.call 5 (.cons (.slot 2) (.cons (.slot 1) .nil))) (.cons (.op .idx (.cons (.op .idx (.cons (.slot 7) (.cons (.slot 1) .nil))) (.cons (.lit (.int 1)) .nil))) .nil))) (.one (.op .ne (.cons (.call 6 (.cons (.slot 2) (.cons (.slot 1) (.cons (.lit .none) .nil)))) (.cons (.op .idx (.cons (.op .idx (.cons (.slot 7) (.cons (.slot 1) .nil))) (.cons (.lit (.int 2)) .nil))) .nil)))))))
  (.cons (.ret (.lit (.bool false)))
  .nil)
  .nil)
 (.cons (.ite (.and (.op .eq (.cons (.op .idx (.cons (.op .idx (.cons (.slot 7) (.cons (.slot 1) .nil))) (.cons (.lit (.int 0)) .nil))) (.cons (.lit (.str "take")) .nil))) (.one (.op .ne (.cons c_law_is_machine_5 (.cons (.op .list (.cons (.op .idx (.cons (.op .idx (.cons (.slot 7) (.cons (.slot 1) .nil))) (.cons (.lit (.int 1)) .nil))) .nil)) .nil)))))
  (.cons (.ret (.lit (.bool false)))
  .nil)
  .nil)
 .nil))
def l_law_is_machine_2 : IS :=
 (.for .rng1 (.cons (.slot 5) .nil) (.name 1) b_law_is_machine_2)
def c_law_is_machine_6 : IE :=
 (.lc [⟨"k", 1⟩] .rng1 (.cons (.lit (.int 3)) .nil) (.name 1) .nil (.call 24 (.cons (.slot 0) (.cons (.slot 5) .nil))))
def c_law_is_machine_7 : IE :=
 (.lc [⟨"k", 1⟩] .data (.cons (.slot 3) .nil) (.name 1) (.cons (.op .eq (.cons (.op .idx (.cons (.op .idx (.cons (.slot 7) (.cons (.slot 1) .nil))) (.cons (.lit (.int 0)) .nil))) (.cons (.lit (.str "take")) .nil))) .nil) (.op .list (.cons (.op .idx (.cons (.op .idx (.cons (.op .idx (.cons (.slot 7) (.cons (.slot 1) .nil))) (.cons (.lit (.int 1)) .nil))) (.cons (.lit (.int 1)) .nil))) .nil)))
/-- _law_is_machine -/
def i_law_is_machine : ISs :=
 (.cons (.par [5, 6, 7] (.cons (.op .add (.cons (.lit (.int 1)) (.cons (.call 24 (.cons (.slot 0) (.cons (.lit (.int 4)) .nil))) .nil))) (.cons (.call 25 (.cons (.slot 0) (.cons (.lst (.cons (.lit (.str "sender")) (.cons (.lit (.str "line")) (.cons (.lit (.str "receiver")) .nil)))) .nil))) (.cons (.lst .nil) .nil))))
 (.cons l_law_is_machine_1
 (.cons (.set 2 (.tup (.cons (.lit (.str "m")) (.cons (.slot 6) (.cons (.tup (.cons (.lit (.int 0)) .nil)) (.cons (.op .tuple (.cons (.slot 7) .nil)) .nil))))))
 (.cons (.ite (.or (.op .ne (.cons (.call 3 (.cons (.slot 2) .nil)) (.cons (.slot 5) .nil))) (.one (.op .ne (.cons c_law_is_machine_3 (.cons c_law_is_machine_4 .nil)))))
  (.cons (.ret (.lit (.bool false)))
  .nil)
  .nil)
 (.cons l_law_is_machine_2
 (.cons (.set 3 (.op .sset (.cons c_law_is_machine_6 .nil)))
 (.cons (.set 4 (.op .sset (.cons (.op .sumL (.cons c_law_is_machine_7 .nil)) .nil)))
 (.cons (.ite (.not (.call 26 (.cons (.call 7 (.cons (.slot 2) (.cons (.op .tuple (.cons (.slot 3) .nil)) (.cons (.lit (.int 1)) .nil)))) (.cons (.op .tuple (.cons (.slot 4) .nil)) .nil))))
  (.cons (.ret (.lit (.bool false)))
  .nil)
  .nil)
 (.cons (.set 1 (.call 24 (.cons (.slot 0) (.cons (.slot 5) .nil))))
 (.cons (.tr 1
  (.cons (.drop (.ite (.op .eq (.cons (.op .idx (.cons (.op .idx (.cons (.slot 7) (.cons (.slot 1) .nil))) (.cons (.lit (.int 0)) .nil))) (.cons (.lit (.str "take")) .nil))) (.call 5 (.cons (.slot 2) (.cons (.slot 1) .nil))) (.call 6 (.cons (.slot 2) (.cons (.slot 1) (.cons (.lit (.int 0)) .nil))))))
  (.cons (.ret (.lit (.bool false)))
  .nil))
  (.cons (.ret (.lit (.bool true)))
  .nil))
 .nil))))))))))
def d_law_is_machine : FDat := ⟨"_law_is_machine", ["bag"], ["bag", "k", "machine", "some", "due", "many", "kind", "rows", "ways", "j", "row", "sign", "i"], defArgs (top 50), defBody (top 50), defScope (top 50), i_law_is_machine⟩
def b_law_1 : ISs :=
 (.cons (.set 3 (.call 28 (.cons (.slot 1) .nil)))
 (.cons (.ite (.or (.not (.call 34 (.cons (.slot 1) (.cons (.slot 3) .nil)))) (.or (.not (.call 35 (.cons (.slot 1) (.cons (.slot 3) .nil)))) (.or (.not (.call 36 (.cons (.slot 1) (.cons (.slot 3) .nil)))) (.one (.not (.call 37 (.cons (.slot 1) .nil)))))))
  (.cons (.ret (.lit (.bool false)))
  .nil)
  .nil)
 .nil))
def l_law_1 : IS :=
 (.for .rng1 (.cons (.lit (.int 3)) .nil) (.name 2) b_law_1)
/-- law -/
def i_law : ISs :=
 (.cons (.set 1 (.call 23 (.cons (.slot 0) .nil)))
 (.cons l_law_1
 (.cons (.ret (.lit (.bool true)))
 .nil)))
def d_law : FDat := ⟨"law", ["script"], ["script", "bag", "lap", "joined"], defArgs (top 51), defBody (top 51), defScope (top 51), i_law⟩
def ds : List FDat := [d_is_integer, d_is_count, d_is_sign, d_many_stands, d_is_taking, d_sign_at, d_nexts_behind, d_stands_after, d_is_stand, d_steps_at, d_is_stuck, d_bits_in, d_signs_in, d_is_way, d_end_of, d_is_run, d_begin_of, d_silent_from, d_unheard_from, d_behind_sign, d_heard_stands, d_can_give, d_ring_without_sign, d_law_bag, d_law_take, d_law_some, d_law_alike, d_law_mixed, d_law_drawn_joined, d_law_reach, d_law_all_rows, d_law_has_ring, d_law_steps, d_law_goes, d_law_are_stands, d_law_are_rows, d_law_are_ways, d_law_is_machine, d_law]
theorem g_is_integer : d_is_integer.Good G := ⟨⟨rfl, rfl, rfl, by decide +kernel, rfl, by decide +kernel, by decide +kernel⟩, by decide +kernel, fun _ _ _ _ _ _ us hl => match us, hl with | [_], _ => rfl⟩
theorem g_is_count : d_is_count.Good G := ⟨⟨rfl, rfl, rfl, by decide +kernel, rfl, by decide +kernel, by decide +kernel⟩, by decide +kernel, fun _ _ _ _ _ _ us hl => match us, hl with | [_], _ => rfl⟩
theorem g_is_sign : d_is_sign.Good G := ⟨⟨rfl, rfl, rfl, by decide +kernel, rfl, by decide +kernel, by decide +kernel⟩, by decide +kernel, fun _ _ _ _ _ _ us hl => match us, hl with | [_], _ => rfl⟩
theorem g_many_stands : d_many_stands.Good G := ⟨⟨rfl, rfl, rfl, by decide +kernel, rfl, by decide +kernel, by decide +kernel⟩, by decide +kernel, fun _ _ _ _ _ _ us hl => match us, hl with | [_], _ => rfl⟩
theorem g_is_taking : d_is_taking.Good G := ⟨⟨rfl, rfl, rfl, by decide +kernel, rfl, by decide +kernel, by decide +kernel⟩, by decide +kernel, fun _ _ _ _ _ _ us hl => match us, hl with | [_, _], _ => rfl⟩
theorem g_sign_at : d_sign_at.Good G := ⟨⟨rfl, rfl, rfl, by decide +kernel, rfl, by decide +kernel, by decide +kernel⟩, by decide +kernel, fun _ _ _ _ _ _ us hl => match us, hl with | [_, _], _ => rfl⟩
theorem g_nexts_behind : d_nexts_behind.Good G := ⟨⟨rfl, rfl, rfl, by decide +kernel, rfl, by decide +kernel, by decide +kernel⟩, by decide +kernel, fun _ _ _ _ _ _ us hl => match us, hl with | [_, _, _], _ => rfl⟩
theorem g_stands_after : d_stands_after.Good G := ⟨⟨rfl, rfl, rfl, by decide +kernel, rfl, by decide +kernel, by decide +kernel⟩, by decide +kernel, fun _ _ _ _ _ _ us hl => match us, hl with | [_, _, _], _ => rfl⟩
theorem g_is_stand : d_is_stand.Good G := ⟨⟨rfl, rfl, rfl, by decide +kernel, rfl, by decide +kernel, by decide +kernel⟩, by decide +kernel, fun _ _ _ _ _ _ us hl => match us, hl with | [_, _], _ => rfl⟩
theorem g_steps_at : d_steps_at.Good G := ⟨⟨rfl, rfl, rfl, by decide +kernel, rfl, by decide +kernel, by decide +kernel⟩, by decide +kernel, fun _ _ _ _ _ _ us hl => match us, hl with | [_, _], _ => rfl⟩
theorem g_is_stuck : d_is_stuck.Good G := ⟨⟨rfl, rfl, rfl, by decide +kernel, rfl, by decide +kernel, by decide +kernel⟩, by decide +kernel, fun _ _ _ _ _ _ us hl => match us, hl with | [_, _], _ => rfl⟩
theorem g_bits_in : d_bits_in.Good G := ⟨⟨rfl, rfl, rfl, by decide +kernel, rfl, by decide +kernel, by decide +kernel⟩, by decide +kernel, fun _ _ _ _ _ _ us hl => match us, hl with | [_], _ => rfl⟩
theorem g_signs_in : d_signs_in.Good G := ⟨⟨rfl, rfl, rfl, by decide +kernel, rfl, by decide +kernel, by decide +kernel⟩, by decide +kernel, fun _ _ _ _ _ _ us hl => match us, hl with | [_], _ => rfl⟩
theorem g_is_way : d_is_way.Good G := ⟨⟨rfl, rfl, rfl, by decide +kernel, rfl, by decide +kernel, by decide +kernel⟩, by decide +kernel, fun _ _ _ _ _ _ us hl => match us, hl with | [_, _, _], _ => rfl⟩
theorem g_end_of : d_end_of.Good G := ⟨⟨rfl, rfl, rfl, by decide +kernel, rfl, by decide +kernel, by decide +kernel⟩, by decide +kernel, fun _ _ _ _ _ _ us hl => match us, hl with | [_, _], _ => rfl⟩
theorem g_is_run : d_is_run.Good G := ⟨⟨rfl, rfl, rfl, by decide +kernel, rfl, by decide +kernel, by decide +kernel⟩, by decide +kernel, fun _ _ _ _ _ _ us hl => match us, hl with | [_, _], _ => rfl⟩
theorem g_begin_of : d_begin_of.Good G := ⟨⟨rfl, rfl, rfl, by decide +kernel, rfl, by decide +kernel, by decide +kernel⟩, by decide +kernel, fun _ _ _ _ _ _ us hl => match us, hl with | [_, _], _ => rfl⟩
theorem g_silent_from : d_silent_from.Good G := ⟨⟨rfl, rfl, rfl, by decide +kernel, rfl, by decide +kernel, by decide +kernel⟩, by decide +kernel, fun _ _ _ _ _ _ us hl => match us, hl with | [_, _], _ => rfl⟩
theorem g_unheard_from : d_unheard_from.Good G := ⟨⟨rfl, rfl, rfl, by decide +kernel, rfl, by decide +kernel, by decide +kernel⟩, by decide +kernel, fun _ _ _ _ _ _ us hl => match us, hl with | [_, _], _ => rfl⟩
theorem g_behind_sign : d_behind_sign.Good G := ⟨⟨rfl, rfl, rfl, by decide +kernel, rfl, by decide +kernel, by decide +kernel⟩, by decide +kernel, fun _ _ _ _ _ _ us hl => match us, hl with | [_, _, _], _ => rfl⟩
theorem g_heard_stands : d_heard_stands.Good G := ⟨⟨rfl, rfl, rfl, by decide +kernel, rfl, by decide +kernel, by decide +kernel⟩, by decide +kernel, fun _ _ _ _ _ _ us hl => match us, hl with | [_, _], _ => rfl⟩
theorem g_can_give : d_can_give.Good G := ⟨⟨rfl, rfl, rfl, by decide +kernel, rfl, by decide +kernel, by decide +kernel⟩, by decide +kernel, fun _ _ _ _ _ _ us hl => match us, hl with | [_, _], _ => rfl⟩
theorem g_ring_without_sign : d_ring_without_sign.Good G := ⟨⟨rfl, rfl, rfl, by decide +kernel, rfl, by decide +kernel, by decide +kernel⟩, by decide +kernel, fun _ _ _ _ _ _ us hl => match us, hl with | [_], _ => rfl⟩
theorem g_law_bag : d_law_bag.Good G := ⟨⟨rfl, rfl, rfl, by decide +kernel, rfl, by decide +kernel, by decide +kernel⟩, by decide +kernel, fun _ _ _ _ _ _ us hl => match us, hl with | [_], _ => rfl⟩
theorem g_law_take : d_law_take.Good G := ⟨⟨rfl, rfl, rfl, by decide +kernel, rfl, by decide +kernel, by decide +kernel⟩, by decide +kernel, fun _ _ _ _ _ _ us hl => match us, hl with | [_, _], _ => rfl⟩
theorem g_law_some : d_law_some.Good G := ⟨⟨rfl, rfl, rfl, by decide +kernel, rfl, by decide +kernel, by decide +kernel⟩, by decide +kernel, fun _ _ _ _ _ _ us hl => match us, hl with | [_, _], _ => rfl⟩
theorem g_law_alike : d_law_alike.Good G := ⟨⟨rfl, rfl, rfl, by decide +kernel, rfl, by decide +kernel, by decide +kernel⟩, by decide +kernel, fun _ _ _ _ _ _ us hl => match us, hl with | [_, _], _ => rfl⟩
theorem g_law_mixed : d_law_mixed.Good G := ⟨⟨rfl, rfl, rfl, by decide +kernel, rfl, by decide +kernel, by decide +kernel⟩, by decide +kernel, fun _ _ _ _ _ _ us hl => match us, hl with | [_, _], _ => rfl⟩
theorem g_law_drawn_joined : d_law_drawn_joined.Good G := ⟨⟨rfl, rfl, rfl, by decide +kernel, rfl, by decide +kernel, by decide +kernel⟩, by decide +kernel, fun _ _ _ _ _ _ us hl => match us, hl with | [_], _ => rfl⟩
theorem g_law_reach : d_law_reach.Good G := ⟨⟨rfl, rfl, rfl, by decide +kernel, rfl, by decide +kernel, by decide +kernel⟩, by decide +kernel, fun _ _ _ _ _ _ us hl => match us, hl with | [_, _, _], _ => rfl⟩
theorem g_law_all_rows : d_law_all_rows.Good G := ⟨⟨rfl, rfl, rfl, by decide +kernel, rfl, by decide +kernel, by decide +kernel⟩, by decide +kernel, fun _ _ _ _ _ _ us hl => match us, hl with | [_], _ => rfl⟩
theorem g_law_has_ring : d_law_has_ring.Good G := ⟨⟨rfl, rfl, rfl, by decide +kernel, rfl, by decide +kernel, by decide +kernel⟩, by decide +kernel, fun _ _ _ _ _ _ us hl => match us, hl with | [_], _ => rfl⟩
theorem g_law_steps : d_law_steps.Good G := ⟨⟨rfl, rfl, rfl, by decide +kernel, rfl, by decide +kernel, by decide +kernel⟩, by decide +kernel, fun _ _ _ _ _ _ us hl => match us, hl with | [_, _, _, _], _ => rfl⟩
theorem g_law_goes : d_law_goes.Good G := ⟨⟨rfl, rfl, rfl, by decide +kernel, rfl, by decide +kernel, by decide +kernel⟩, by decide +kernel, fun _ _ _ _ _ _ us hl => match us, hl with | [_, _, _], _ => rfl⟩
theorem g_law_are_stands : d_law_are_stands.Good G := ⟨⟨rfl, rfl, rfl, by decide +kernel, rfl, by decide +kernel, by decide +kernel⟩, by decide +kernel, fun _ _ _ _ _ _ us hl => match us, hl with | [_, _], _ => rfl⟩
theorem g_law_are_rows : d_law_are_rows.Good G := ⟨⟨rfl, rfl, rfl, by decide +kernel, rfl, by decide +kernel, by decide +kernel⟩, by decide +kernel, fun _ _ _ _ _ _ us hl => match us, hl with | [_, _], _ => rfl⟩
theorem g_law_are_ways : d_law_are_ways.Good G := ⟨⟨rfl, rfl, rfl, by decide +kernel, rfl, by decide +kernel, by decide +kernel⟩, by decide +kernel, fun _ _ _ _ _ _ us hl => match us, hl with | [_, _], _ => rfl⟩
theorem g_law_is_machine : d_law_is_machine.Good G := ⟨⟨rfl, rfl, rfl, by decide +kernel, rfl, by decide +kernel, by decide +kernel⟩, by decide +kernel, fun _ _ _ _ _ _ us hl => match us, hl with | [_], _ => rfl⟩
theorem g_law : d_law.Good G := ⟨⟨rfl, rfl, rfl, by decide +kernel, rfl, by decide +kernel, by decide +kernel⟩, by decide +kernel, fun _ _ _ _ _ _ us hl => match us, hl with | [_], _ => rfl⟩
theorem gs : ∀ d ∈ ds, d.Good G := by
  intro d h
  simp only [ds, List.mem_cons, List.not_mem_nil, or_false] at h
  rcases h with rfl | rfl | rfl | rfl | rfl | rfl | rfl | rfl | rfl | rfl | rfl | rfl | rfl | rfl | rfl | rfl | rfl | rfl | rfl | rfl | rfl | rfl | rfl | rfl | rfl | rfl | rfl | rfl | rfl | rfl | rfl | rfl | rfl | rfl | rfl | rfl | rfl | rfl | rfl
  · exact g_is_integer
  · exact g_is_count
  · exact g_is_sign
  · exact g_many_stands
  · exact g_is_taking
  · exact g_sign_at
  · exact g_nexts_behind
  · exact g_stands_after
  · exact g_is_stand
  · exact g_steps_at
  · exact g_is_stuck
  · exact g_bits_in
  · exact g_signs_in
  · exact g_is_way
  · exact g_end_of
  · exact g_is_run
  · exact g_begin_of
  · exact g_silent_from
  · exact g_unheard_from
  · exact g_behind_sign
  · exact g_heard_stands
  · exact g_can_give
  · exact g_ring_without_sign
  · exact g_law_bag
  · exact g_law_take
  · exact g_law_some
  · exact g_law_alike
  · exact g_law_mixed
  · exact g_law_drawn_joined
  · exact g_law_reach
  · exact g_law_all_rows
  · exact g_law_has_ring
  · exact g_law_steps
  · exact g_law_goes
  · exact g_law_are_stands
  · exact g_law_are_rows
  · exact g_law_are_ways
  · exact g_law_is_machine
  · exact g_law
end VS.K22
set_option Elab.async false
set_option linter.all false
set_option maxRecDepth 1000000
set_option maxHeartbeats 0
/-! K22: the plain law. -/
namespace VS.K22
open PySem PySem.Spec PyProof.Rows L2
def fs : List IF := ds.map fun (d : FDat) => ⟨d.N.length, d.ie⟩
abbrev F (k i : Nat) : FS := evF G.exm fs k i
theorem F0 (k : Nat) : F (k + 1) 0 = runF 1 fun lk => evSs G.exm (F k) lk i_is_integer := rfl
theorem F1 (k : Nat) : F (k + 1) 1 = runF 1 fun lk => evSs G.exm (F k) lk i_is_count := rfl
theorem F8 (k : Nat) : F (k + 1) 8 = runF 2 fun lk => evSs G.exm (F k) lk i_is_stand := rfl
theorem F9 (k : Nat) : F (k + 1) 9 = runF 2 fun lk => evSs G.exm (F k) lk i_steps_at := rfl
theorem is_integer_int (k : Nat) (n : Int) : F (k + 1) 0 [.shr (.int n)] = .ok (.shr (.bool true)) [none] := by
  rw [F0]; rfl
theorem is_integer_none (k : Nat) : F (k + 1) 0 [.shr .none] = .ok (.shr (.bool false)) [none] := by
  rw [F0]; rfl
theorem is_count_int (k : Nat) (n : Int) : F (k + 2) 1 [.shr (.int n)] = .ok (.shr (.bool (decide (0 ≤ n)))) [none] := by
  rw [F1]
  have e := is_integer_int k n
  simp [runF, i_is_count, evS, ev, e]
abbrev stepD (p : Str × Nat) : D := .tuple [.str p.1, .int p.2]
abbrev rowD (r : List (Str × Nat)) : D := .tuple (r.map stepD)
abbrev jD (bs : List Nat) (J : List (List (Str × Nat))) : D := .tuple [.str "near", .tuple [], .tuple (natsD bs), .tuple (J.map rowD)]
theorem is_stand_int (k : Nat) (bs J) (n : Int) : F (k + 3) 8 [.shr (jD bs J), .shr (.int n)] = .ok (.shr (.bool (decide (0 ≤ n) && decide (n < J.length)))) [none, none] := by
  rw [F8]
  have e := is_count_int k n
  by_cases h : 0 ≤ n <;> simp [runF, i_is_stand, evS, ev, e, h, atI, ixN, lenT]
theorem steps_at_in (k : Nat) (bs J) (n : Nat) (h : n < J.length) : F (k + 4) 9 [.shr (jD bs J), .shr (.int n)] = .ok (.shr (rowD J[n])) [none, none] := by
  rw [F9]
  have e := is_stand_int k bs J n
  simp [runF, i_steps_at, evS, ev, e, h, atI, ixN, lenT]
def Bag (xs : List D) : Prop := ∃ (a b c : Int) (ns : List Int), xs = [.int a, .int b, .int c, .list (ns.map .int)] ∧ ns.length ≤ 63
theorem F24 (k : Nat) : F (k + 1) 24 = runF 7 fun lk => evSs G.exm (F k) lk i_law_take := rfl
theorem cut_ints (ns : List Int) (lo hi : Option Int) : ∃ ms : List Int, cutL (ns.map PyData.int) lo hi = ms.map PyData.int ∧ ms.length ≤ ns.length := by
  unfold cutL
  rw [List.length_map]
  exact ⟨_, by rw [← List.map_drop, ← List.map_take], by simp; omega⟩
theorem first_ints (ms : List Int) : ∃ v : Int, atI (ms.map PyData.int ++ [PyData.int 0]) 0 = some (.int v) := by
  cases ms with
  | nil => exact ⟨0, x_ix0 _ _⟩
  | cons m ms => exact ⟨m, x_ix0 _ _⟩
theorem take_spec (k : Nat) {xs : List D} (hb : Bag xs) (m : Nat) (hm : 0 < m) (hm2 : m < 1073741824) : ∃ (v : Nat) (ys : List D), v < m ∧ Bag ys ∧ F (k + 1) 24 [.lst xs, .shr (.int m)] = .ok (.shr (.int v)) [some (.lst ys), none] := by
  obtain ⟨a, b, c, ns, rfl, hl⟩ := hb
  obtain ⟨ms, e1, l1⟩ := cut_ints ns (some c) none
  obtain ⟨v, e2⟩ := first_ints ms
  have hz : ms.length + 1 ≤ 4096 := by omega
  have m0 : (0 : Int) < m := by omega
  have q1 : ∀ z : Int, 0 ≤ z % m ∧ z % m < m := fun z => ⟨Int.emod_nonneg _ (by omega), Int.emod_lt_of_pos _ m0⟩
  have q2 : ∀ z : Int, ∃ u : Nat, u < m ∧ z % m = (u : Int) := fun z => ⟨(z % m).toNat, by have := q1 z; omega, by have := q1 z; omega⟩
  have q3 : ∀ z : Int, small64 (z % 1000000007) = true := fun z => by
    have := Int.emod_nonneg z (by decide : (1000000007 : Int) ≠ 0)
    have := Int.emod_lt_of_pos z (by decide : (0 : Int) < 1000000007)
    unfold small64
    rw [decide_eq_true (by omega), decide_eq_true (by omega)]
    rfl
  have s1 : small64 48271 = true := by decide
  have s2 : small64 39373 = true := by decide
  have s3 : small64 7919 = true := by decide
  have s4 : small64 30011 = true := by decide
  have mm : (m : Int) < 1073741824 := by omega
  suffices s : ∃ (z a' b' c' : Int), F (k + 1) 24 [.lst [.int a, .int b, .int c, .list (ns.map .int)], .shr (.int m)] = .ok (.shr (.int z)) [some (.lst [.int a', .int b', .int c', .list (ns.map .int)]), none] ∧ 0 ≤ z ∧ z < m by
    obtain ⟨z, a', b', c', h2, h3, h4⟩ := s
    refine ⟨z.toNat, _, by omega, ⟨a', b', c', ns, rfl, hl⟩, ?_⟩
    rw [Int.toNat_of_nonneg h3]
    exact h2
  rw [F24]
  by_cases h : a = 0
  · subst h
    by_cases h2 : (1000000000000000000 : Int) ≤ v
    · have h3 : 0 < v := by omega
      simp [runF, i_law_take, evS, ev, isCmp, e1, e2, hz, h2, h3, m0, mm, hm, hm2, q1, s1, s2, s3, s4]
    · simp [runF, i_law_take, evS, ev, isCmp, e1, e2, hz, h2, m0, mm, hm, hm2, q3, q1, s1, s2, s3, s4]
  · have hb : (a == (0 : Int)) = false := beq_false_of_ne h
    by_cases h3 : 0 < a
    · simp [runF, i_law_take, evS, ev, isCmp, hb, h3, m0, mm, hm, hm2, q1, s1, s2, s3, s4]
    · simp [runF, i_law_take, evS, ev, isCmp, hb, h3, m0, mm, hm, hm2, q3, q1, s1, s2, s3, s4]
theorem F25 (k : Nat) : F (k + 1) 25 = runF 2 fun lk => evSs G.exm (F k) lk i_law_some := rfl
theorem some_spec (k : Nat) {xs : List D} (hb : Bag xs) (ts : List D) (h : 0 < ts.length) (h2 : ts.length < 1073741824) : ∃ (d : D) (ys : List D), d ∈ ts ∧ Bag ys ∧ F (k + 2) 25 [.lst xs, .lst ts] = .ok (.shr d) [some (.lst ys), some (.lst ts)] := by
  obtain ⟨v, ys, hv, hy, e⟩ := take_spec k hb ts.length h h2
  refine ⟨ts[v], ys, List.getElem_mem hv, hy, ?_⟩
  rw [F25]
  simp [runF, i_law_some, evS, ev, isCmp, e, atI_nat, hv]
theorem F26 (k : Nat) : F (k + 1) 26 = runF 2 fun lk => evSs G.exm (F k) lk i_law_alike := rfl
theorem alike_L (k : Nat) (xs : List D) (h : Shw (.list xs)) : ∃ o1 o2, F (k + 1) 26 [.lst xs, .lst xs] = .ok (.shr (.bool true)) [o1, o2] := by
  have e := PySem.SeqAt.eqv_refl _ (okD_lay h.ok)
  rw [F26]
  have e2 := PySem.SeqAt.eqv_refl _ (okD_lay h.txt)
  simp [runF, i_law_alike, evS, ev, isCmp, opT, h.ok, h.show_, h.len, h.txt, e, e2]
theorem alike_T (k : Nat) (xs : List D) (h : Shw (.tuple xs)) : ∃ o1 o2, F (k + 1) 26 [.shr (.tuple xs), .shr (.tuple xs)] = .ok (.shr (.bool true)) [o1, o2] := by
  have e := PySem.SeqAt.eqv_refl _ (okD_lay h.ok)
  rw [F26]
  have e2 := PySem.SeqAt.eqv_refl _ (okD_lay h.txt)
  simp [runF, i_law_alike, evS, ev, isCmp, opT, h.ok, h.show_, h.len, h.txt, e, e2]
def labels : List Str := ["b0", "b1", "s0", "s1", "s2", "-"]
/-- a machine as it is drawn -/
structure WJ (J : List (List (Str × Nat))) : Prop where
  lab : ∀ r ∈ J, ∀ p ∈ r, p.1 ∈ labels
  beh : ∀ r ∈ J, ∀ p ∈ r, p.2 < J.length
  few : J.length ≤ 5
  row : ∀ r ∈ J, r.length ≤ 3
theorem lab_ok {s : Str} (h : s ∈ labels) : okD (.str s) = true := by
  have : labels.all (fun s => okD (.str s)) = true := by decide +kernel
  exact List.all_eq_true.mp this s h
theorem ix_row {J : List (List (Str × Nat))} {n : Nat} (h : n < J.length) : atI (J.map rowD) (n : Int) = some (rowD J[n]) := by
  rw [atI_nat _ _ (by simpa using h)]
  simp [h]
/-- the stands behind a row's steps whose label passes -/
def behind (f : Str → Bool) (r : List (Str × Nat)) : List Nat := (r.filter fun p => f p.1).map (·.2)
theorem filt_row (f : Str → Bool) (g : D → Option D) (hg : ∀ p : Str × Nat, g (stepD p) = if f p.1 then some (.int p.2) else none) (r : List (Str × Nat)) : (r.map stepD).filterMap g = natsD (behind f r) := by
  induction r with
  | nil => rfl
  | cons p r ih =>
    rw [List.map_cons]
    unfold behind at ih ⊢
    by_cases h : f p.1 = true
    · rw [List.filterMap_cons_some (by rw [hg, if_pos h]), ih]; simp [h, natsD]
    · rw [List.filterMap_cons_none (by rw [hg, if_neg h]), ih]; simp [h]
def gIf (f : Str → Bool) (d : D) : Option D := match d with
  | .tuple [.str s, b] => if f s then some b else none
  | _ => none
theorem c_sil (Φ : Nat → FS) (bs : List Nat) {J : List (List (Str × Nat))} (W : WJ J) {n : Nat} (h : n < J.length) (s1 s2 s3 : Option T) :
    (ev Φ c_silent_from_1).e [some (.shr (jD bs J)), s1, s2, s3, some (.shr (.int n)), none, none] = .ok (.lst (natsD (behind (fun s => s == "-") J[n]))) [some (.shr (jD bs J)), s1, s2, s3, some (.shr (.int n)), none, none] := by
  unfold c_silent_from_1
  rw [ev, ← filt_row (fun s => s == "-") (gIf fun s => s == "-") (fun p => rfl)]
  refine (mLc_pure (ds := J[n].map stepD) (ρ1 := [some (.shr (jD bs J)), s1, s2, s3, some (.shr (.int n)), none, none]) (gIf fun s => s == "-") ?_ ?_ ?_ ?_).trans ?_
  · simp [evIt, mIter, items, ev, ix_row h]
  · rfl
  · intro d hd
    obtain ⟨p, hp, rfl⟩ := List.mem_map.mp hd
    have ok : okD (.str p.1) = true := lab_ok (W.lab _ (List.getElem_mem h) p hp)
    have ok2 : okD (.str "-") = true := by decide +kernel
    cases e : p.1 == ("-" : Str) <;> simp [turn, ev, isCmp, ok, ok2, e, gIf]
  · have := W.row _ (List.getElem_mem h)
    simp; exact Nat.le_trans this (by decide)
  · rfl
theorem c_unh (Φ : Nat → FS) (bs : List Nat) {J : List (List (Str × Nat))} (W : WJ J) {n : Nat} (h : n < J.length) (s1 s2 s3 : Option T) :
    (ev Φ c_unheard_from_1).e [some (.shr (jD bs J)), s1, s2, s3, some (.shr (.int n)), none, none] = .ok (.lst (natsD (behind (fun s => !(kd_SIGNS_stands.lookup s).isSome) J[n]))) [some (.shr (jD bs J)), s1, s2, s3, some (.shr (.int n)), none, none] := by
  unfold c_unheard_from_1
  rw [ev, ← filt_row (fun s => !(kd_SIGNS_stands.lookup s).isSome) (gIf fun s => !(kd_SIGNS_stands.lookup s).isSome) (fun p => rfl)]
  refine (mLc_pure (ds := J[n].map stepD) (ρ1 := [some (.shr (jD bs J)), s1, s2, s3, some (.shr (.int n)), none, none]) (gIf fun s => !(kd_SIGNS_stands.lookup s).isSome) ?_ ?_ ?_ ?_).trans ?_
  · simp [evIt, mIter, items, ev, ix_row h]
  · rfl
  · intro d hd
    obtain ⟨p, hp, rfl⟩ := List.mem_map.mp hd
    cases e : kd_SIGNS_stands.lookup p.1 <;> simp [turn, ev, isCmp, e, gIf, mKin]
  · have := W.row _ (List.getElem_mem h)
    simp; exact Nat.le_trans this (by decide)
  · rfl
end VS.K22
set_option Elab.async false
set_option linter.all false
set_option maxRecDepth 1000000
set_option maxHeartbeats 0
/-! K22: what is come to from some stands. -/
namespace VS.K22
open PySem PySem.Spec PyProof.Rows L2
/-- gone through from the end of a line, deep first -/
def dfs (J : List (List (Str × Nat))) (f : Str → Bool) : Nat → List Nat → List Nat → List Nat
  | 0, found, _ => found
  | _ + 1, found, [] => found
  | n + 1, found, s :: st => if s ∈ found then dfs J f n found st else dfs J f n (found ++ [s]) ((behind f (J.getD s [])).reverse ++ st)
/-- how long that can take -/
def mu (J : List (List (Str × Nat))) (found st : List Nat) : Nat := st.length + 4 * (J.length - found.length)
theorem room_left {n : Nat} {found : List Nat} {s : Nat} (nd : found.Nodup) (lt : ∀ x ∈ found, x < n) (h : s ∉ found) (hs : s < n) : found.length < n := by
  have : (s :: found).length ≤ (List.range n).length := (List.nodup_cons.mpr ⟨h, nd⟩).length_le_of_subset fun x hx => by
    rcases List.mem_cons.mp hx with e | e
    · rw [e]; simpa using hs
    · simpa using lt x e
  simp at this
  omega
theorem behind_len (f : Str → Bool) (r : List (Str × Nat)) : (behind f r).length ≤ r.length := by
  unfold behind
  rw [List.length_map]
  exact List.length_filter_le _ _
structure Ok (J : List (List (Str × Nat))) (found st : List Nat) : Prop where
  nd : found.Nodup
  lt : ∀ x ∈ found, x < J.length
  lt2 : ∀ x ∈ st, x < J.length
section
variable {J : List (List (Str × Nat))} {f : Str → Bool}
theorem getD_at {s : Nat} (h : s < J.length) : J.getD s [] = J[s] := by simp [h]
theorem behind_lt (W : WJ J) {s : Nat} (hs : s < J.length) : ∀ x ∈ behind f J[s], x < J.length := fun x hx => by
  unfold behind at hx
  obtain ⟨p, hp, rfl⟩ := List.mem_map.mp hx
  exact W.beh _ (List.getElem_mem hs) p (List.mem_filter.mp hp).1
theorem Ok.old {found st : List Nat} {s : Nat} (h : Ok J found (s :: st)) : Ok J found st := ⟨h.nd, h.lt, fun x hx => h.lt2 x (.tail _ hx)⟩
theorem Ok.new (W : WJ J) {found st : List Nat} {s : Nat} (h : Ok J found (s :: st)) (n : s ∉ found) : Ok J (found ++ [s]) ((behind f (J.getD s [])).reverse ++ st) := by
  have hs := h.lt2 s (.head _)
  refine ⟨?_, fun x hx => ?_, fun x hx => ?_⟩
  · rw [List.nodup_append]
    exact ⟨h.nd, by simp, fun a ha b hb e => n (by rw [List.mem_singleton.mp hb] at e; rw [← e]; exact ha)⟩
  · rcases List.mem_append.mp hx with e | e
    · exact h.lt x e
    · rw [List.mem_singleton.mp e]; exact hs
  · rcases List.mem_append.mp hx with e | e
    · rw [getD_at hs] at e
      exact behind_lt W hs x (List.mem_reverse.mp e)
    · exact h.lt2 x (.tail _ e)
theorem Ok.less (W : WJ J) {found st : List Nat} {s : Nat} (h : Ok J found (s :: st)) (n : s ∉ found) : mu J (found ++ [s]) ((behind f (J.getD s [])).reverse ++ st) < mu J found (s :: st) := by
  have hs := h.lt2 s (.head _)
  have := room_left h.nd h.lt n hs
  have l1 := behind_len f J[s]
  have l2 := W.row _ (List.getElem_mem hs)
  unfold mu
  rw [getD_at hs]
  simp
  omega
theorem Ok.fewer (found st : List Nat) (s : Nat) : mu J found st < mu J found (s :: st) := by unfold mu; simp
/-- what is found stays a row of stands without repeats -/
theorem dfs_ok (W : WJ J) : ∀ (n : Nat) (found st : List Nat), Ok J found st → (dfs J f n found st).Nodup ∧ ∀ x ∈ dfs J f n found st, x < J.length
  | 0, found, st, h => ⟨h.nd, h.lt⟩
  | n + 1, found, [], h => ⟨h.nd, h.lt⟩
  | n + 1, found, s :: st, h => by
    unfold dfs
    split
    · exact dfs_ok W n _ _ h.old
    · rename_i c
      exact dfs_ok W n _ _ (h.new W c)
end
/-- all that is come to from S -/
def rch (J : List (List (Str × Nat))) (f : Str → Bool) (S : List Nat) : List Nat := dfs J f 100 [] S.reverse
theorem Ok.start {J : List (List (Str × Nat))} {S : List Nat} (h : ∀ s ∈ S, s < J.length) : Ok J [] S.reverse := ⟨List.nodup_nil, fun x hx => (nomatch hx), fun x hx => h x (List.mem_reverse.mp hx)⟩
theorem rch_lt {J : List (List (Str × Nat))} (W : WJ J) {f : Str → Bool} {S : List Nat} (h : ∀ s ∈ S, s < J.length) : ∀ x ∈ rch J f S, x < J.length := (dfs_ok W _ _ _ (.start h)).2
theorem rch_nd {J : List (List (Str × Nat))} (W : WJ J) {f : Str → Bool} {S : List Nat} (h : ∀ s ∈ S, s < J.length) : (rch J f S).Nodup := (dfs_ok W _ _ _ (.start h)).1
theorem few_of {n : Nat} {l : List Nat} (nd : l.Nodup) (lt : ∀ x ∈ l, x < n) : l.length ≤ n := by
  have : l.length ≤ (List.range n).length := nd.length_le_of_subset fun x hx => by simpa using lt x hx
  simpa using this
/-! ### the program's two -/
def quiet (s : Str) : Bool := s == "b0" || s == "b1" || s == "-"
theorem nats_snoc (st : List Nat) (s : Nat) : natsD (s :: st).reverse = natsD st.reverse ++ [.int (s : Int)] := by rw [List.reverse_cons, nats_app]; rfl
theorem F17 (k : Nat) : F (k + 1) 17 = runF 7 fun lk => evSs G.exm (F k) lk i_silent_from := rfl
theorem F18 (k : Nat) : F (k + 1) 18 = runF 7 fun lk => evSs G.exm (F k) lk i_unheard_from := rfl
theorem v_sil (Φ : Nat → FS) : (ev Φ c_silent_from_1).v = mOpd (ev Φ c_silent_from_1).e := by unfold c_silent_from_1; rw [ev]; rfl
theorem v_unh (Φ : Nat → FS) : (ev Φ c_unheard_from_1).v = mOpd (ev Φ c_unheard_from_1).e := by unfold c_unheard_from_1; rw [ev]; rfl
theorem lab_quiet {s : Str} (h : s ∈ labels) : (!(kd_SIGNS_stands.lookup s).isSome) = quiet s := by
  have : labels.all (fun s => (!(kd_SIGNS_stands.lookup s).isSome) == quiet s) = true := by decide +kernel
  simpa using List.all_eq_true.mp this s h
theorem behind_congr {J : List (List (Str × Nat))} (W : WJ J) {f g : Str → Bool} (h : ∀ s ∈ labels, f s = g s) {r : List (Str × Nat)} (hr : r ∈ J) : behind f r = behind g r := by
  unfold behind
  congr 1
  refine List.filter_congr fun p hp => ?_
  exact h _ (W.lab r hr p hp)
section
variable {J : List (List (Str × Nat))} (W : WJ J) (bs : List Nat) (Φ : Nat → FS) (xm : Nat → Nat → Option Bool)
include W
theorem b_sil {found st : List Nat} {s : Nat} (h : Ok J found (s :: st)) (l : st.length ≤ 1000) (t1 t4 : Option T) : evSs xm Φ [false, false] b_silent_from_1 [some (.shr (jD bs J)), t1, some (.dic (kd found)), some (.lst (natsD (s :: st).reverse)), t4, none, none] =
    .ok .next (if s ∈ found then [some (.shr (jD bs J)), t1, some (.dic (kd found)), some (.lst (natsD st.reverse)), some (.shr (.int s)), none, none] else [some (.shr (jD bs J)), t1, some (.dic (kd (found ++ [s]))), some (.lst (natsD ((behind (· == "-") (J.getD s [])).reverse ++ st).reverse)), some (.shr (.int s)), none, none]) := by
  have hs := h.lt2 s (.head _)
  rw [nats_snoc, getD_at hs]
  by_cases c : s ∈ found
  · simp [b_silent_from_1, evS, ev, isCmp, in_dic, c]
  · have e := c_sil Φ bs W hs t1 (some (.dic (kd (found ++ [s])))) (some (.lst (natsD st.reverse)))
    have l1 : found.length < sizeLine := Nat.lt_of_lt_of_le (room_left h.nd h.lt c hs) (Nat.le_trans W.few (by decide))
    have l2 := behind_len (· == "-") J[s]
    have l3 := W.row _ (List.getElem_mem hs)
    have l4 : st.length + (behind (· == "-") J[s]).length ≤ 4096 := by omega
    simp [b_silent_from_1, evS, ev, isCmp, in_dic, c, unD, put_kd c, v_sil, e, l1, l4, nats_app, List.reverse_append]
theorem b_unh {found st : List Nat} {s : Nat} (h : Ok J found (s :: st)) (l : st.length ≤ 1000) (t1 t4 : Option T) : evSs xm Φ [false, false] b_unheard_from_1 [some (.shr (jD bs J)), t1, some (.dic (kd found)), some (.lst (natsD (s :: st).reverse)), t4, none, none] =
    .ok .next (if s ∈ found then [some (.shr (jD bs J)), t1, some (.dic (kd found)), some (.lst (natsD st.reverse)), some (.shr (.int s)), none, none] else [some (.shr (jD bs J)), t1, some (.dic (kd (found ++ [s]))), some (.lst (natsD ((behind quiet (J.getD s [])).reverse ++ st).reverse)), some (.shr (.int s)), none, none]) := by
  have hs := h.lt2 s (.head _)
  rw [nats_snoc, getD_at hs]
  by_cases c : s ∈ found
  · simp [b_unheard_from_1, evS, ev, isCmp, in_dic, c]
  · have e := c_unh Φ bs W hs t1 (some (.dic (kd (found ++ [s])))) (some (.lst (natsD st.reverse)))
    rw [behind_congr W (fun s hs => lab_quiet hs) (List.getElem_mem hs)] at e
    have l1 : found.length < sizeLine := Nat.lt_of_lt_of_le (room_left h.nd h.lt c hs) (Nat.le_trans W.few (by decide))
    have l2 := behind_len quiet J[s]
    have l3 := W.row _ (List.getElem_mem hs)
    have l4 : st.length + (behind quiet J[s]).length ≤ 4096 := by omega
    simp [b_unheard_from_1, evS, ev, isCmp, in_dic, c, unD, put_kd c, v_unh, e, l1, l4, nats_app, List.reverse_append]
/-- the while loop of both -/
theorem w_dfs {c : M Bool} {b : M Fl} {f : Str → Bool} {t1 : Option T} (hc : ∀ (found st : List Nat) (t4 : Option T), c [some (.shr (jD bs J)), t1, some (.dic (kd found)), some (.lst (natsD st.reverse)), t4, none, none] = .ok (!st.isEmpty) [some (.shr (jD bs J)), t1, some (.dic (kd found)), some (.lst (natsD st.reverse)), t4, none, none])
    (hb : ∀ (found st : List Nat) (s : Nat) (t4 : Option T), Ok J found (s :: st) → st.length ≤ 1000 → b [some (.shr (jD bs J)), t1, some (.dic (kd found)), some (.lst (natsD (s :: st).reverse)), t4, none, none] =
      .ok .next (if s ∈ found then [some (.shr (jD bs J)), t1, some (.dic (kd found)), some (.lst (natsD st.reverse)), some (.shr (.int s)), none, none] else [some (.shr (jD bs J)), t1, some (.dic (kd (found ++ [s]))), some (.lst (natsD ((behind f (J.getD s [])).reverse ++ st).reverse)), some (.shr (.int s)), none, none])) :
    ∀ (m n : Nat) (found st : List Nat) (t4 : Option T), Ok J found st → mu J found st < m → mu J found st < n → mu J found st ≤ 1000 →
      ∃ t4', whileL c b n [some (.shr (jD bs J)), t1, some (.dic (kd found)), some (.lst (natsD st.reverse)), t4, none, none] = .ok .next [some (.shr (jD bs J)), t1, some (.dic (kd (dfs J f m found st))), some (.lst []), t4', none, none]
  | 0, n, found, st, t4, _, hm, _, _ => by omega
  | m + 1, 0, found, st, t4, _, _, hn, _ => by omega
  | m + 1, n + 1, found, [], t4, h, _, _, _ => ⟨t4, by
    rw [while_end _ _ _ (hc found [] t4)]
    rfl⟩
  | m + 1, n + 1, found, s :: st, t4, h, hm, hn, hl => by
    have l : st.length ≤ 1000 := by unfold mu at hl; simp at hl; omega
    have ed : dfs J f (m + 1) found (s :: st) = if s ∈ found then dfs J f m found st else dfs J f m (found ++ [s]) ((behind f (J.getD s [])).reverse ++ st) := by rw [dfs]
    rw [ed, while_step _ _ _ (hc found (s :: st) t4) (hb found st s t4 h l)]
    by_cases z : s ∈ found
    · simp only [if_pos z]
      have := Ok.fewer (J := J) found st s
      exact w_dfs hc hb m n found st _ h.old (by omega) (by omega) (by omega)
    · simp only [if_neg z]
      have := h.less (f := f) W z
      exact w_dfs hc hb m n _ _ _ (h.new W z) (by omega) (by omega) (by omega)
end
theorem c_nonempty (Φ : Nat → FS) (t0 t1 t2 t4 t5 t6 : Option T) (st : List Nat) : (ev Φ (.op .ne (.cons (.slot 3) (.cons (.lst .nil) .nil)))).t [t0, t1, t2, some (.lst (natsD st.reverse)), t4, t5, t6] = .ok (!st.isEmpty) [t0, t1, t2, some (.lst (natsD st.reverse)), t4, t5, t6] := by
  have ok : okD (.list (natsD st.reverse)) = true := ok_nlist _
  have ok0 : okD (.list []) = true := rfl
  have e : PyData.eqv (.list (natsD st.reverse)) (.list []) = st.isEmpty := by
    cases st with
    | nil => simp [PyData.eqv, PyData.eqvAll]
    | cons s st => rw [nats_snoc]; cases natsD st.reverse <;> simp [PyData.eqv, PyData.eqvAll]
  simp [ev, isCmp, ok, ok0, e]
section
variable {J : List (List (Str × Nat))} (W : WJ J) (bs : List Nat)
include W
theorem mu_start (S : List Nat) (l : S.length ≤ 60) : mu J [] S.reverse ≤ 80 := by
  have := W.few
  unfold mu
  simp
  omega
theorem sil_spec (k : Nat) {S : List Nat} (h : ∀ s ∈ S, s < J.length) (l : S.length ≤ 60) : F (k + 1) 17 [.shr (jD bs J), .shr (.tuple (natsD S))] = .ok (.shr (.tuple (natsD (srt (rch J (· == "-") S))))) [none, none] := by
  have m := mu_start W S l
  obtain ⟨t4, e⟩ := w_dfs W bs (c := (ev (F k) (.op .ne (.cons (.slot 3) (.cons (.lst .nil) .nil)))).t) (b := evSs G.exm (F k) [false, false] b_silent_from_1) (f := (· == "-")) (t1 := some (.shr (.tuple (natsD S)))) (fun found st t4 => c_nonempty _ _ _ _ _ _ _ st) (fun found st s t4 h l => b_sil W bs _ _ h l _ t4) 100 1000 [] S.reverse none (.start h) (by omega) (by omega) (by omega)
  rw [List.reverse_reverse] at e
  have nd := rch_nd W (f := (· == "-")) h
  have fw := few_of nd (rch_lt W h)
  have := W.few
  have e2 := sort_dic (ns := rch J (· == "-") S) (by omega)
  have el : evS G.exm (F k) [false, false] l_silent_from_1 = whileL (ev (F k) (.op .ne (.cons (.slot 3) (.cons (.lst .nil) .nil)))).t (evSs G.exm (F k) [false, false] b_silent_from_1) 1000 := by unfold l_silent_from_1; rw [evS]
  rw [← el, kd_nil] at e
  rw [F17]
  unfold rch at e2 ⊢
  simp [runF, i_silent_from, evS, ev, isCmp, e, e2]
theorem unh_spec (k : Nat) {S : List Nat} (h : ∀ s ∈ S, s < J.length) (l : S.length ≤ 60) : F (k + 1) 18 [.shr (jD bs J), .shr (.tuple (natsD S))] = .ok (.shr (.tuple (natsD (srt (rch J quiet S))))) [none, none] := by
  have m := mu_start W S l
  obtain ⟨t4, e⟩ := w_dfs W bs (c := (ev (F k) (.op .ne (.cons (.slot 3) (.cons (.lst .nil) .nil)))).t) (b := evSs G.exm (F k) [false, false] b_unheard_from_1) (f := quiet) (t1 := some (.shr (.tuple (natsD S)))) (fun found st t4 => c_nonempty _ _ _ _ _ _ _ st) (fun found st s t4 h l => b_unh W bs _ _ h l _ t4) 100 1000 [] S.reverse none (.start h) (by omega) (by omega) (by omega)
  rw [List.reverse_reverse] at e
  have nd := rch_nd W (f := quiet) h
  have fw := few_of nd (rch_lt W h)
  have := W.few
  have e2 := sort_dic (ns := rch J quiet S) (by omega)
  have el : evS G.exm (F k) [false, false] l_unheard_from_1 = whileL (ev (F k) (.op .ne (.cons (.slot 3) (.cons (.lst .nil) .nil)))).t (evSs G.exm (F k) [false, false] b_unheard_from_1) 1000 := by unfold l_unheard_from_1; rw [evS]
  rw [← el, kd_nil] at e
  rw [F18]
  unfold rch at e2 ⊢
  simp [runF, i_unheard_from, evS, ev, isCmp, e, e2]
end
end VS.K22
set_option Elab.async false
set_option linter.all false
set_option maxRecDepth 1000000
set_option maxHeartbeats 0
/-! K22: the law's own going. -/
namespace VS.K22
open PySem PySem.Spec PyProof.Rows L2
def strsD (L : List Str) : List D := L.map .str
theorem in_strs {L : List Str} (hL : okD (.list (strsD L)) = true) {s : Str} (hs : okD (.str s) = true) : inT (.str s) (.list (strsD L)) = some (L.any (· == s)) := by
  show (if _ then _ else _) = _
  rw [if_pos (by rw [hs, hL]; rfl)]
  unfold strsD
  rw [List.any_map]
  congr 2
theorem F29 (k : Nat) : F (k + 1) 29 = runF 9 fun lk => evSs G.exm (F k) lk i_law_reach := rfl
theorem v_rch (Φ : Nat → FS) : (ev Φ c_law_reach_1).v = mOpd (ev Φ c_law_reach_1).e := by unfold c_law_reach_1; rw [ev]; rfl
section
variable {J : List (List (Str × Nat))} (W : WJ J) (bs : List Nat) (Φ : Nat → FS) (xm : Nat → Nat → Option Bool) {L : List Str} (hL : okD (.list (strsD L)) = true) {f : Str → Bool} (hf : ∀ s ∈ labels, L.any (· == s) = f s)
include W hL hf
theorem c_rch {n : Nat} (h : n < J.length) (s1 s3 s4 s5 : Option T) :
    (ev Φ c_law_reach_1).e [some (.shr (jD bs J)), s1, some (.lst (strsD L)), s3, s4, s5, some (.shr (.int n)), none, none] = .ok (.lst (natsD (behind f J[n]))) [some (.shr (jD bs J)), s1, some (.lst (strsD L)), s3, s4, s5, some (.shr (.int n)), none, none] := by
  rw [← behind_congr W hf (List.getElem_mem h)]
  unfold c_law_reach_1
  rw [ev, ← filt_row (fun s => L.any (· == s)) (gIf fun s => L.any (· == s)) (fun p => rfl)]
  refine (mLc_pure (ds := J[n].map stepD) (ρ1 := [some (.shr (jD bs J)), s1, some (.lst (strsD L)), s3, s4, s5, some (.shr (.int n)), none, none]) (gIf fun s => L.any (· == s)) ?_ ?_ ?_ ?_).trans ?_
  · simp [ev, ix_row h]
  · rfl
  · intro d hd
    obtain ⟨p, hp, rfl⟩ := List.mem_map.mp hd
    have ok : okD (.str p.1) = true := lab_ok (W.lab _ (List.getElem_mem h) p hp)
    have e := in_strs hL ok
    cases e2 : L.any (· == p.1) <;> simp [turn, ev, isCmp, e, e2, gIf]
  · have := W.row _ (List.getElem_mem h)
    simp; exact Nat.le_trans this (by decide)
  · rfl
theorem b_rch {found st : List Nat} {s : Nat} (h : Ok J found (s :: st)) (l : st.length ≤ 1000) (o1 : Bool) (t1 t3 t6 : Option T) : evSs xm Φ [false, o1, true] b_law_reach_1 [some (.shr (jD bs J)), t1, some (.lst (strsD L)), t3, some (.lst (natsD found)), some (.lst (natsD (s :: st).reverse)), t6, none, none] =
    .ok .next (if s ∈ found then [some (.shr (jD bs J)), t1, some (.lst (strsD L)), t3, some (.lst (natsD found)), some (.lst (natsD st.reverse)), some (.shr (.int s)), none, none]
      else [some (.shr (jD bs J)), t1, some (.lst (strsD L)), t3, some (.lst (natsD (found ++ [s]))), some (.lst (natsD ((behind f (J.getD s [])).reverse ++ st).reverse)), some (.shr (.int s)), none, none]) := by
  have hs := h.lt2 s (.head _)
  have ok : okD (.list (natsD (s :: st).reverse)) = true := ok_nlist _
  have ok0 : okD (.list []) = true := rfl
  have e0 : PyData.eqv (.list (natsD (s :: st).reverse)) (.list []) = false := by
    rw [nats_snoc]; cases natsD st.reverse <;> simp [PyData.eqv, PyData.eqvAll]
  have ei : inT (.int (s : Int)) (.list (natsD found)) = some (decide (s ∈ found)) := in_nats _ _
  rw [nats_snoc] at *
  rw [getD_at hs]
  by_cases c : s ∈ found
  · simp [b_law_reach_1, evS, ev, isCmp, ok, ok0, e0, ei, c]
  · have e := c_rch W bs Φ hL hf hs t1 t3 (some (.lst (natsD (found ++ [s])))) (some (.lst (natsD st.reverse)))
    have l1 : found.length < sizeLine := Nat.lt_of_lt_of_le (room_left h.nd h.lt c hs) (Nat.le_trans W.few (by decide))
    have l2 := behind_len f J[s]
    have l3 := W.row _ (List.getElem_mem hs)
    have l4 : st.length + (behind f J[s]).length ≤ 4096 := by omega
    have ea : natsD found ++ [.int (s : Int)] = natsD (found ++ [s]) := by rw [nats_app]; rfl
    simp [b_law_reach_1, evS, ev, isCmp, ok, ok0, e0, ei, c, v_rch, l1, ea, e, l4]
    rw [nats_app]
theorem e_rch (o1 : Bool) (t1 t3 t6 : Option T) (found : List Nat) : evSs xm Φ [false, o1, true] b_law_reach_1 [some (.shr (jD bs J)), t1, some (.lst (strsD L)), t3, some (.lst (natsD found)), some (.lst []), t6, none, none] =
    .ok .brk [some (.shr (jD bs J)), t1, some (.lst (strsD L)), t3, some (.lst (natsD found)), some (.lst []), t6, none, none] := by
  have ok0 : okD (.list []) = true := rfl
  have e0 : PyData.eqv (.list []) (.list []) = true := by simp [PyData.eqv, PyData.eqvAll]
  simp [b_law_reach_1, evS, ev, isCmp, ok0, e0]
theorem r_dfs (o1 : Bool) (t1 : Option T) : ∀ (m : Nat) (ds : List D) (found st : List Nat) (t3 t6 : Option T), Ok J found st → mu J found st < m → mu J found st < ds.length → mu J found st ≤ 1000 →
      ∃ t3' t6', forL [false, o1, true] (.name 3) (evSs xm Φ [false, o1, true] b_law_reach_1) ds [some (.shr (jD bs J)), t1, some (.lst (strsD L)), t3, some (.lst (natsD found)), some (.lst (natsD st.reverse)), t6, none, none] =
        .ok .next [some (.shr (jD bs J)), t1, some (.lst (strsD L)), t3', some (.lst (natsD (dfs J f m found st))), some (.lst []), t6', none, none]
  | 0, ds, found, st, t3, t6, _, hm, _, _ => by omega
  | m + 1, [], found, st, t3, t6, _, _, hn, _ => by simp at hn
  | m + 1, d :: ds, found, [], t3, t6, h, _, _, _ => ⟨some (.shr d), t6, for_brk (ρ1 := [some (.shr (jD bs J)), t1, some (.lst (strsD L)), some (.shr d), some (.lst (natsD found)), some (.lst []), t6, none, none]) (by simp) (e_rch W bs Φ xm hL hf o1 t1 _ t6 found)⟩
  | m + 1, d :: ds, found, s :: st, t3, t6, h, hm, hn, hl => by
    have l : st.length ≤ 1000 := by unfold mu at hl; simp at hl; omega
    have ed : dfs J f (m + 1) found (s :: st) = if s ∈ found then dfs J f m found st else dfs J f m (found ++ [s]) ((behind f (J.getD s [])).reverse ++ st) := by rw [dfs]
    simp only [List.length_cons] at hn
    rw [ed, for_next (ρ1 := [some (.shr (jD bs J)), t1, some (.lst (strsD L)), some (.shr d), some (.lst (natsD found)), some (.lst (natsD (s :: st).reverse)), t6, none, none]) (by simp) (b_rch W bs Φ xm hL hf h l o1 t1 _ t6)]
    by_cases z : s ∈ found
    · simp only [if_pos z]
      have := Ok.fewer (J := J) found st s
      exact r_dfs o1 t1 m ds found st _ _ h.old (by omega) (by omega) (by omega)
    · simp only [if_neg z]
      have := h.less (f := f) W z
      exact r_dfs o1 t1 m ds _ _ _ _ (h.new W z) (by omega) (by omega) (by omega)
theorem reach_any (k : Nat) {S : List Nat} (h : ∀ s ∈ S, s < J.length) (l : S.length ≤ 60) {t : T} (ht : t = .shr (.tuple (natsD S)) ∨ t = .lst (natsD S)) :
    F (k + 1) 29 [.shr (jD bs J), t, .lst (strsD L)] = .ok (.lst (natsD (srt (rch J f S)))) [none, if t.own then some t else none, some (.lst (strsD L))] := by
  have m := mu_start W S l
  obtain ⟨t3, t6, e⟩ := r_dfs W bs (F k) G.exm hL hf t.own (some t) 100 (natsD (List.range 999)) [] S.reverse none none (.start h) (by omega) (by rw [nats_len, List.length_range]; omega) (by omega)
  rw [List.reverse_reverse, nats_nil] at e
  have nd := rch_nd W (f := f) h
  have fw := few_of nd (rch_lt W h)
  have := W.few
  have e2 := sort_nats (ns := rch J f S) (by omega)
  have el : ∀ (lk : Lks) ρ, evS G.exm (F k) lk l_law_reach_1 ρ = forL lk (.name 3) (evSs G.exm (F k) lk b_law_reach_1) (natsD (List.range 999)) ρ := fun lk ρ => by
    unfold l_law_reach_1
    rw [evS]
    simp [ev, bnd62]
  rw [F29]
  unfold rch at e2 ⊢
  rcases ht with rfl | rfl
  · simp only [x_own1] at e
    have e' := (el _ _).trans e
    clear el e
    simp [runF, i_law_reach, evS, ev, isCmp, e', e2]
  · simp only [x_own2] at e
    have e' := (el _ _).trans e
    clear el e
    simp [runF, i_law_reach, evS, ev, isCmp, e', e2]
end
theorem reach_silent {J : List (List (Str × Nat))} (W : WJ J) (bs : List Nat) (k : Nat) {S : List Nat} (h : ∀ s ∈ S, s < J.length) (l : S.length ≤ 60) {t : T} (ht : t = .shr (.tuple (natsD S)) ∨ t = .lst (natsD S)) :
    F (k + 1) 29 [.shr (jD bs J), t, .lst [.str "-"]] = .ok (.lst (natsD (srt (rch J (· == "-") S)))) [none, if t.own then some t else none, some (.lst [.str "-"])] :=
  reach_any W bs (L := ["-"]) (by decide +kernel) (fun s hs => by
    have : labels.all (fun s => (["-"] : List Str).any (· == s) == (s == "-")) = true := by decide +kernel
    simpa using List.all_eq_true.mp this s hs) k h l ht
theorem reach_quiet {J : List (List (Str × Nat))} (W : WJ J) (bs : List Nat) (k : Nat) {S : List Nat} (h : ∀ s ∈ S, s < J.length) (l : S.length ≤ 60) {t : T} (ht : t = .shr (.tuple (natsD S)) ∨ t = .lst (natsD S)) :
    F (k + 1) 29 [.shr (jD bs J), t, .lst [.str "b0", .str "b1", .str "-"]] = .ok (.lst (natsD (srt (rch J quiet S)))) [none, if t.own then some t else none, some (.lst [.str "b0", .str "b1", .str "-"])] :=
  reach_any W bs (L := ["b0", "b1", "-"]) (by decide +kernel) (fun s hs => by
    have : labels.all (fun s => (["b0", "b1", "-"] : List Str).any (· == s) == quiet s) = true := by decide +kernel
    simpa using List.all_eq_true.mp this s hs) k h l ht
end VS.K22
set_option Elab.async false
set_option linter.all false
set_option maxRecDepth 1000000
set_option maxHeartbeats 0
/-! K22: stands just behind a sign, behind a row. -/
namespace VS.K22
open PySem PySem.Spec PyProof.Rows L2
def sgl : Nat → Str
  | 0 => "s0"
  | 1 => "s1"
  | _ => "s2"
theorem sgl_lab (g : Nat) : sgl g ∈ labels := by
  unfold sgl
  split <;> decide +kernel
theorem str_sgl {g : Nat} (h : g < 3) : ∃ z, opT .str [.int (g : Int)] = some (.shr (.str z)) ∧ opT .add [.str "s", .str z] = some (.shr (.str (sgl g))) := by
  have : g = 0 ∨ g = 1 ∨ g = 2 := by omega
  rcases this with rfl | rfl | rfl
  · exact ⟨"0", by kernel_rfl, by kernel_rfl⟩
  · exact ⟨"1", by kernel_rfl, by kernel_rfl⟩
  · exact ⟨"2", by kernel_rfl, by kernel_rfl⟩
def bsg (J : List (List (Str × Nat))) (l : Str) (S : List Nat) : List Nat := (S.map fun s => behind (· == l) (J.getD s [])).flatten
theorem bsg_lt {J : List (List (Str × Nat))} (W : WJ J) {l : Str} {S : List Nat} (h : ∀ s ∈ S, s < J.length) : ∀ x ∈ bsg J l S, x < J.length := fun x hx => by
  unfold bsg at hx
  obtain ⟨r, hr, hx⟩ := List.mem_flatten.mp hx
  obtain ⟨s, hs, rfl⟩ := List.mem_map.mp hr
  rw [getD_at (h s hs)] at hx
  exact behind_lt W (h s hs) x hx
theorem bsg_len {J : List (List (Str × Nat))} (W : WJ J) {l : Str} : ∀ {S : List Nat}, (∀ s ∈ S, s < J.length) → (bsg J l S).length ≤ 3 * S.length
  | [], _ => by simp [bsg]
  | s :: S, h => by
    have ih := bsg_len W (l := l) (S := S) fun x hx => h x (.tail _ hx)
    have hs := h s (.head _)
    have l1 := behind_len (· == l) J[s]
    have l2 := W.row _ (List.getElem_mem hs)
    unfold bsg at ih ⊢
    rw [List.map_cons, List.flatten_cons, List.length_append, getD_at hs, List.length_cons]
    omega
def gK (f : Str → Bool) (d : D) : Option (Key × D) := match d with
  | .tuple [.str s, .int b] => if f s then some (.inl b, .bool true) else none
  | _ => none
theorem filt_kd (f : Str → Bool) (r : List (Str × Nat)) : (r.map stepD).filterMap (gK f) = kd (behind f r) := by
  induction r with
  | nil => rfl
  | cons p r ih =>
    rw [List.map_cons]
    unfold behind at ih ⊢
    have e : gK f (stepD p) = if f p.1 then some (.inl (p.2 : Int), .bool true) else none := rfl
    by_cases h : f p.1 = true
    · rw [List.filterMap_cons_some (by rw [e, if_pos h]), ih]; simp [h, kd_cons]
    · rw [List.filterMap_cons_none (by rw [e, if_neg h]), ih]; simp [h]
theorem flat_kd (l : List (List Nat)) : (l.map kd).flatten = kd l.flatten := by
  induction l with
  | nil => rfl
  | cons x l ih => rw [List.map_cons, List.flatten_cons, List.flatten_cons, kd_app, ih]
theorem o_bsg (Φ : Nat → FS) : (ev Φ c_behind_sign_1).o = mOpd (ev Φ c_behind_sign_1).e := by unfold c_behind_sign_1; rw [ev]; rfl
theorem F19 (k : Nat) : F (k + 1) 19 = runF 7 fun lk => evSs G.exm (F k) lk i_behind_sign := rfl
section
variable {J : List (List (Str × Nat))} (W : WJ J) (bs : List Nat)
include W
theorem c_bsg (Φ : Nat → FS) {S : List Nat} (h : ∀ s ∈ S, s < J.length) (l : S.length ≤ 30) {z : Str} (hz : z ∈ labels) (t2 : Option T) :
    (ev Φ c_behind_sign_1).e [some (.shr (jD bs J)), some (.shr (.tuple (natsD S))), t2, some (.shr (.str z)), none, none, none] =
      .ok (.dic (kd ((bsg J z S).foldl addN []))) [some (.shr (jD bs J)), some (.shr (.tuple (natsD S))), t2, some (.shr (.str z)), none, none, none] := by
  have eg : (natsD S).map (fun d => match d with | .int i => kd (behind (· == z) (J.getD i.toNat [])) | _ => []) = (S.map fun s => behind (· == z) (J.getD s [])).map kd := by
    unfold natsD
    rw [List.map_map, List.map_map]
    refine List.map_congr_left fun s _ => ?_
    simp
  have okz := lab_ok hz
  unfold c_behind_sign_1
  rw [ev, x_mke]
  refine (mDc2_pure (ds := natsD S) (ρ1 := [some (.shr (jD bs J)), some (.shr (.tuple (natsD S))), t2, some (.shr (.str z)), none, none, none]) (fun d => match d with | .int i => kd (behind (· == z) (J.getD i.toNat [])) | _ => []) ?_ ?_ ?_ ?_).trans ?_
  · simp [ev]
  · rfl
  · intro d hd
    obtain ⟨s, hs, rfl⟩ := nats_mem.mp hd
    have lt := h s hs
    refine ⟨[some (.shr (jD bs J)), some (.shr (.tuple (natsD S))), t2, some (.shr (.str z)), some (.shr (.int s)), none, none], [some (.shr (jD bs J)), some (.shr (.tuple (natsD S))), t2, some (.shr (.str z)), some (.shr (.int s)), none, none], J[s].map stepD, gK (· == z), ?_, ?_, ?_, ?_, ?_, ?_, ?_⟩
    · simp
    · simp
    · simp [ev, ix_row lt]
    · intro e he
      obtain ⟨p, hp, rfl⟩ := List.mem_map.mp he
      have ok : okD (.str p.1) = true := lab_ok (W.lab _ (List.getElem_mem lt) p hp)
      cases e : p.1 == z <;> simp [dturn, ev, isCmp, ok, okz, e, gK, unD]
    · have := W.row _ (List.getElem_mem lt)
      simp; omega
    · rw [filt_kd]
      simp [lt]
    · simp
  · rw [nats_len]
    exact Nat.le_trans (by omega : 100 * S.length ≤ 4096) (by decide)
  · have ep := puts_kd (bsg J z S) []
    rw [kd_nil] at ep
    unfold bsg at ep ⊢
    rw [eg, flat_kd, ep]
    rfl
theorem bsg_spec (k : Nat) {S : List Nat} (h : ∀ s ∈ S, s < J.length) (l : S.length ≤ 20) {g : Nat} (hg : g < 3) :
    F (k + 1) 19 [.shr (jD bs J), .shr (.tuple (natsD S)), .shr (.int (g : Int))] = .ok (.shr (.tuple (natsD (srt (ddN (bsg J (sgl g) S)))))) [none, none, none] := by
  obtain ⟨z, e1, e2⟩ := str_sgl hg
  have e3 := c_bsg W bs (F k) h (by omega) (sgl_lab g) (some (.shr (.int (g : Int))))
  have ln := bsg_len W (l := sgl g) h
  have nd := addN_nodup (bsg J (sgl g) S) [] List.nodup_nil
  have few : ((bsg J (sgl g) S).foldl addN []).length < 64 := by
    have := few_of nd (n := J.length) fun x hx => by
      rcases (addN_mem _ _ _).mp hx with q | q
      · cases q
      · exact bsg_lt W h x q
    have := W.few
    omega
  have e4 := sort_dic few
  rw [srt_add] at e4
  rw [F19]
  simp [runF, i_behind_sign, evS, ev, isCmp, o_bsg, e1, e2, e3, e4]
end
end VS.K22
set_option Elab.async false
set_option linter.all false
set_option maxRecDepth 1000000
set_option maxHeartbeats 0
/-! K22: rows heard; rings. -/
namespace VS.K22
open PySem PySem.Spec PyProof.Rows L2
/-- a few stands -/
structure St (J : List (List (Str × Nat))) (S : List Nat) : Prop where
  lt : ∀ s ∈ S, s < J.length
  len : S.length ≤ 5
section
variable {J : List (List (Str × Nat))} (W : WJ J) (bs : List Nat)
include W
theorem st_srt {S : List Nat} (nd : S.Nodup) (lt : ∀ s ∈ S, s < J.length) : St J (srt S) := ⟨fun s hs => lt s (srt_mem.mp hs), by rw [(srt_perm S).length_eq]; exact Nat.le_trans (few_of nd lt) W.few⟩
theorem st_rch {f : Str → Bool} {S : List Nat} (h : ∀ s ∈ S, s < J.length) : St J (srt (rch J f S)) := st_srt W (rch_nd W h) (rch_lt W h)
theorem st_bsg {l : Str} {S : List Nat} (h : ∀ s ∈ S, s < J.length) : St J (srt (ddN (bsg J l S))) := st_srt W (ddN_nodup _) fun s hs => bsg_lt W h s (ddN_mem.mp hs)
end
def stepH (J : List (List (Str × Nat))) (here : List Nat) (g : Nat) : List Nat := srt (rch J quiet (srt (ddN (bsg J (sgl g) here))))
def hrd (J : List (List (Str × Nat))) (bs row : List Nat) : List Nat := row.foldl (stepH J) (srt (rch J quiet bs))
theorem F20 (k : Nat) : F (k + 1) 20 = runF 4 fun lk => evSs G.exm (F k) lk i_heard_stands := rfl
theorem F21 (k : Nat) : F (k + 1) 21 = runF 2 fun lk => evSs G.exm (F k) lk i_can_give := rfl
theorem F22 (k : Nat) : F (k + 1) 22 = runF 4 fun lk => evSs G.exm (F k) lk i_ring_without_sign := rfl
theorem F31 (k : Nat) : F (k + 1) 31 = runF 5 fun lk => evSs G.exm (F k) lk i_law_has_ring := rfl
section
variable {J : List (List (Str × Nat))} (W : WJ J) (bs : List Nat)
include W
theorem l_hrd (k : Nat) (t1 : Option T) : ∀ (row here : List Nat) (t3 : Option T), (∀ g ∈ row, g < 3) → St J here → ∃ t3', forL [false, false] (.name 3) (evSs G.exm (F (k + 1)) [false, false] b_heard_stands_1) (natsD row) [some (.shr (jD bs J)), t1, some (.shr (.tuple (natsD here))), t3] =
    .ok .next [some (.shr (jD bs J)), t1, some (.shr (.tuple (natsD (row.foldl (stepH J) here)))), t3'] ∧ St J (row.foldl (stepH J) here)
  | [], here, t3, _, h => ⟨t3, rfl, h⟩
  | g :: row, here, t3, hg, h => by
    have e1 := bsg_spec W bs k h.lt (Nat.le_trans h.len (by omega)) (hg g (.head _))
    have s1 := st_bsg W (l := sgl g) h.lt
    have e2 := unh_spec W bs k s1.lt (Nat.le_trans s1.len (by omega))
    have s2 := st_rch W (f := quiet) s1.lt
    obtain ⟨t3', e3, s3⟩ := l_hrd k t1 row (stepH J here g) (some (.shr (.int g))) (fun x hx => hg x (.tail _ hx)) s2
    refine ⟨t3', ?_, s3⟩
    rw [nats_cons, for_next (ρ1 := [some (.shr (jD bs J)), t1, some (.shr (.tuple (natsD here))), some (.shr (.int g))]) (ρ2 := [some (.shr (jD bs J)), t1, some (.shr (.tuple (natsD (stepH J here g)))), some (.shr (.int g))]) (by simp) ?_, e3]
    · rfl
    · simp [b_heard_stands_1, evS, ev, isCmp, e1, e2, stepH]
theorem hrd_spec (k : Nat) (hb : St J bs) {row : List Nat} (hr : ∀ g ∈ row, g < 3) : F (k + 2) 20 [.shr (jD bs J), .shr (.tuple (natsD row))] = .ok (.shr (.tuple (natsD (hrd J bs row)))) [none, none] ∧ St J (hrd J bs row) := by
  have e1 := unh_spec W bs k hb.lt (Nat.le_trans hb.len (by omega))
  obtain ⟨t3, e2, s⟩ := l_hrd W bs k (some (.shr (.tuple (natsD row)))) row (srt (rch J quiet bs)) none hr (st_rch W hb.lt)
  refine ⟨?_, s⟩
  have el : ∀ ρ, evS G.exm (F (k + 1)) [false, false] l_heard_stands_1 ρ = (match (ev (F (k + 1)) (.slot 1)).e ρ with | .ok t ρ2 => (match items t.toD with | some ds => forL [false, false] (.name 3) (evSs G.exm (F (k + 1)) [false, false] b_heard_stands_1) ds ρ2 | none => .stk) | .exn x ρ2 => .exn x ρ2 | .stk => .stk) := fun ρ => by
    unfold l_heard_stands_1
    rw [evS]
    simp only [x_evs1, x_evs0, x_evI1, x_for, x_bnd, x_iter]
    cases (ev (F (k + 1)) (.slot 1)).e ρ with
    | ok t ρ2 => dsimp only; cases items t.toD <;> rfl
    | exn _ _ => rfl
    | stk => rfl
  rw [F20]
  unfold hrd
  simp [runF, i_heard_stands, evS, ev, isCmp, e1, el, e2]
theorem give_spec (k : Nat) (hb : St J bs) {row : List Nat} (hr : ∀ g ∈ row, g < 3) : F (k + 3) 21 [.shr (jD bs J), .shr (.tuple (natsD row))] = .ok (.shr (.bool (!(hrd J bs row).isEmpty))) [none, none] := by
  obtain ⟨e, _⟩ := hrd_spec W bs k hb hr
  have ok : okD (.tuple (natsD (hrd J bs row))) = true := ok_ntup _
  have ok0 : okD (.tuple []) = true := rfl
  have ee : PyData.eqv (.tuple (natsD (hrd J bs row))) (.tuple []) = (hrd J bs row).isEmpty := by
    cases hrd J bs row <;> simp [PyData.eqv, PyData.eqvAll, nats_cons]
  rw [F21]
  simp [runF, i_can_give, evS, ev, isCmp, e, ok, ok0, ee]
end
/-! ### rings -/
def bitl (s : Str) : Bool := s == "b0" || s == "b1"
theorem lab_bit {s : Str} (h : s ∈ labels) : (kd_BITS.lookup s).isSome = bitl s := by
  have : labels.all (fun s => (kd_BITS.lookup s).isSome == bitl s) = true := by decide +kernel
  simpa using List.all_eq_true.mp this s h
theorem lab_first {s : Str} (h : s ∈ labels) : ∃ c, opT .idx [.str s, .int 0] = some (.shr (.str c)) ∧ (c == "b") = bitl s ∧ okD (.str c) = true := by
  simp only [labels, List.mem_cons, List.not_mem_nil, or_false] at h
  rcases h with rfl | rfl | rfl | rfl | rfl | rfl
  · exact ⟨"b", by kernel_rfl, by decide +kernel, by decide +kernel⟩
  · exact ⟨"b", by kernel_rfl, by decide +kernel, by decide +kernel⟩
  · exact ⟨"s", by kernel_rfl, by decide +kernel, by decide +kernel⟩
  · exact ⟨"s", by kernel_rfl, by decide +kernel, by decide +kernel⟩
  · exact ⟨"s", by kernel_rfl, by decide +kernel, by decide +kernel⟩
  · exact ⟨"-", by kernel_rfl, by decide +kernel, by decide +kernel⟩
/-- a step that takes a bit and may come back without a sign -/
def backs (J : List (List (Str × Nat))) (s : Nat) (p : Str × Nat) : Bool := bitl p.1 && decide (s ∈ rch J quiet [p.2])
def ring (J : List (List (Str × Nat))) : Bool := (List.range J.length).any fun s => (J.getD s []).any (backs J s)
section
variable {J : List (List (Str × Nat))} (W : WJ J) (bs : List Nat)
include W
theorem ring_in (k : Nat) {s : Nat} (hs : s < J.length) (t2 t3 : Option T) : ∃ t2' t3', evS G.exm (F (k + 1)) [false] l_ring_without_sign_1 [some (.shr (jD bs J)), some (.shr (.int s)), t2, t3] =
    .ok (if (J.getD s []).any (backs J s) then .ret (.shr (.bool true)) else .next) [some (.shr (jD bs J)), some (.shr (.int s)), t2', t3'] := by
  obtain ⟨ρ2, e, t2', t3', rfl⟩ := for_any (lk := [false]) (tg := .tup [2, 3]) (b := evSs G.exm (F (k + 1)) [false] b_ring_without_sign_1) (I := fun ρ => ∃ t2 t3, ρ = [some (.shr (jD bs J)), some (.shr (.int s)), t2, t3]) stepD (backs J s) (.shr (.bool true)) J[s] _ ⟨t2, t3, rfl⟩ fun p hp ρ ⟨a2, a3, e⟩ => by
    subst e
    have e1 := lab_bit (W.lab _ (List.getElem_mem hs) p hp)
    have lt := W.beh _ (List.getElem_mem hs) p hp
    have e2 := unh_spec W bs k (S := [p.2]) (fun x hx => by rw [List.mem_singleton.mp hx]; exact lt) (by simp)
    have e3 := in_ntup (srt (rch J quiet [p.2])) s
    refine ⟨[some (.shr (jD bs J)), some (.shr (.int s)), some (.shr (.str p.1)), some (.shr (.int p.2))], by simp, [some (.shr (jD bs J)), some (.shr (.int s)), some (.shr (.str p.1)), some (.shr (.int p.2))], ?_, ⟨_, _, rfl⟩⟩
    rw [nats_cons, nats_nil] at e2
    cases c : bitl p.1 with
    | false =>
      rw [c] at e1
      simp [b_ring_without_sign_1, evS, ev, isCmp, e1, backs, c]
    | true =>
      rw [c] at e1
      by_cases z : s ∈ rch J quiet [p.2]
      · have e4 : decide (s ∈ srt (rch J quiet [p.2])) = true := decide_eq_true (srt_mem.mpr z)
        rw [e4] at e3
        simp [b_ring_without_sign_1, evS, ev, isCmp, e1, e2, e3, backs, c, z]
      · have e4 : decide (s ∈ srt (rch J quiet [p.2])) = false := decide_eq_false fun h => z (srt_mem.mp h)
        rw [e4] at e3
        simp [b_ring_without_sign_1, evS, ev, isCmp, e1, e2, e3, backs, c, z]
  refine ⟨t2', t3', ?_⟩
  unfold l_ring_without_sign_1
  rw [evS, getD_at hs]
  simp [ev, ix_row hs, e]
theorem ring_a (k : Nat) : ∃ t1' t2' t3', forL [false] (.name 1) (evSs G.exm (F (k + 1)) [false] b_ring_without_sign_2) (natsD (List.range J.length)) [some (.shr (jD bs J)), none, none, none] = .ok (if ring J then .ret (.shr (.bool true)) else .next) [some (.shr (jD bs J)), t1', t2', t3'] := by
  obtain ⟨ρ2, e, t1', t2', t3', rfl⟩ := for_any (lk := [false]) (tg := .name 1) (b := evSs G.exm (F (k + 1)) [false] b_ring_without_sign_2) (I := fun ρ => ∃ t1 t2 t3, ρ = [some (.shr (jD bs J)), t1, t2, t3]) (fun (n : Nat) => .int (n : Int)) (fun s => (J.getD s []).any (backs J s)) (.shr (.bool true)) (List.range J.length) [some (.shr (jD bs J)), none, none, none] ⟨_, _, _, rfl⟩ fun s hs ρ ⟨a1, a2, a3, e⟩ => by
    subst e
    obtain ⟨t2', t3', e1⟩ := ring_in W bs k (List.mem_range.mp hs) a2 a3
    refine ⟨[some (.shr (jD bs J)), some (.shr (.int s)), a2, a3], by simp, [some (.shr (jD bs J)), some (.shr (.int s)), t2', t3'], ?_, ⟨_, _, _, rfl⟩⟩
    cases c : (J.getD s []).any (backs J s) <;> rw [c] at e1 <;> simp [b_ring_without_sign_2, e1]
  exact ⟨t1', t2', t3', e⟩
theorem ring_b (k : Nat) : ∃ t1' t2' t3', evS G.exm (F (k + 1)) [false] l_ring_without_sign_2 [some (.shr (jD bs J)), none, none, none] = .ok (if ring J then .ret (.shr (.bool true)) else .next) [some (.shr (jD bs J)), t1', t2', t3'] := by
  obtain ⟨t1', t2', t3', e⟩ := ring_a W bs k
  have fw := W.few
  have b62 := bnd62_nat (n := J.length) (by omega)
  refine ⟨t1', t2', t3', ?_⟩
  unfold l_ring_without_sign_2
  rw [evS]
  simp [ev, b62, e]
theorem ring_spec (k : Nat) : F (k + 2) 22 [.shr (jD bs J)] = .ok (.shr (.bool (ring J))) [none] := by
  obtain ⟨t1', t2', t3', el⟩ := ring_b W bs k
  rw [F22]
  refine (runF_ret (ρ := [some (.shr (jD bs J)), t1', t2', t3']) (t := .shr (.bool (ring J))) ?_).trans rfl
  show evSs G.exm (F (k + 1)) [false] i_ring_without_sign [some (.shr (jD bs J)), none, none, none] = _
  cases c : ring J <;> rw [c] at el <;> simp [i_ring_without_sign, evS, ev, el]
end
end VS.K22
set_option Elab.async false
set_option linter.all false
set_option maxRecDepth 1000000
set_option maxHeartbeats 0
/-! K22: the law's rings; rows of stands by a sign. -/
namespace VS.K22
open PySem PySem.Spec PyProof.Rows L2
abbrev qL : List D := [.str "b0", .str "b1", .str "-"]
section
variable {J : List (List (Str × Nat))} (W : WJ J) (bs : List Nat)
include W
theorem hr_in (k : Nat) {s : Nat} (hs : s < J.length) (t3 t4 : Option T) : ∃ t3' t4', evS G.exm (F (k + 1)) [false] l_law_has_ring_1 [some (.shr (jD bs J)), some (.lst qL), some (.shr (.int s)), t3, t4] =
    .ok (if (J.getD s []).any (backs J s) then .ret (.shr (.bool true)) else .next) [some (.shr (jD bs J)), some (.lst qL), some (.shr (.int s)), t3', t4'] := by
  obtain ⟨ρ2, e, t3', t4', rfl⟩ := for_any (lk := [false]) (tg := .tup [3, 4]) (b := evSs G.exm (F (k + 1)) [false] b_law_has_ring_1) (I := fun ρ => ∃ t3 t4, ρ = [some (.shr (jD bs J)), some (.lst qL), some (.shr (.int s)), t3, t4]) stepD (backs J s) (.shr (.bool true)) J[s] _ ⟨t3, t4, rfl⟩ fun p hp ρ ⟨a3, a4, e⟩ => by
    subst e
    obtain ⟨z, e1, e1b, okz⟩ := lab_first (W.lab _ (List.getElem_mem hs) p hp)
    have okb : okD (.str "b") = true := by decide +kernel
    have lt := W.beh _ (List.getElem_mem hs) p hp
    have e2 := reach_quiet W bs k (S := [p.2]) (fun x hx => by rw [List.mem_singleton.mp hx]; exact lt) (by simp) (t := .lst (natsD [p.2])) (.inr rfl)
    have e3 := in_nats (srt (rch J quiet [p.2])) s
    refine ⟨[some (.shr (jD bs J)), some (.lst qL), some (.shr (.int s)), some (.shr (.str p.1)), some (.shr (.int p.2))], by simp, [some (.shr (jD bs J)), some (.lst qL), some (.shr (.int s)), some (.shr (.str p.1)), some (.shr (.int p.2))], ?_, ⟨_, _, rfl⟩⟩
    rw [nats_cons, nats_nil, x_own2] at e2
    cases c : bitl p.1 with
    | false =>
      rw [c] at e1b
      simp [b_law_has_ring_1, evS, ev, isCmp, e1, e1b, okz, okb, backs, c]
    | true =>
      rw [c] at e1b
      by_cases z : s ∈ rch J quiet [p.2]
      · have e4 : decide (s ∈ srt (rch J quiet [p.2])) = true := decide_eq_true (srt_mem.mpr z)
        rw [e4] at e3
        simp [b_law_has_ring_1, evS, ev, isCmp, e1, e1b, okz, okb, e2, e3, backs, c, z]
      · have e4 : decide (s ∈ srt (rch J quiet [p.2])) = false := decide_eq_false fun h => z (srt_mem.mp h)
        rw [e4] at e3
        simp [b_law_has_ring_1, evS, ev, isCmp, e1, e1b, okz, okb, e2, e3, backs, c, z]
  refine ⟨t3', t4', ?_⟩
  unfold l_law_has_ring_1
  rw [evS, getD_at hs]
  simp [ev, ix_row hs, e]
theorem hr_a (k : Nat) : ∃ t2' t3' t4', forL [false] (.name 2) (evSs G.exm (F (k + 1)) [false] b_law_has_ring_2) (natsD (List.range J.length)) [some (.shr (jD bs J)), some (.lst qL), none, none, none] = .ok (if ring J then .ret (.shr (.bool true)) else .next) [some (.shr (jD bs J)), some (.lst qL), t2', t3', t4'] := by
  obtain ⟨ρ2, e, t2', t3', t4', rfl⟩ := for_any (lk := [false]) (tg := .name 2) (b := evSs G.exm (F (k + 1)) [false] b_law_has_ring_2) (I := fun ρ => ∃ t2 t3 t4, ρ = [some (.shr (jD bs J)), some (.lst qL), t2, t3, t4]) (fun (n : Nat) => .int (n : Int)) (fun s => (J.getD s []).any (backs J s)) (.shr (.bool true)) (List.range J.length) [some (.shr (jD bs J)), some (.lst qL), none, none, none] ⟨_, _, _, rfl⟩ fun s hs ρ ⟨a2, a3, a4, e⟩ => by
    subst e
    obtain ⟨t3', t4', e1⟩ := hr_in W bs k (List.mem_range.mp hs) a3 a4
    refine ⟨[some (.shr (jD bs J)), some (.lst qL), some (.shr (.int s)), a3, a4], by simp, [some (.shr (jD bs J)), some (.lst qL), some (.shr (.int s)), t3', t4'], ?_, ⟨_, _, _, rfl⟩⟩
    cases c : (J.getD s []).any (backs J s) <;> rw [c] at e1 <;> simp [b_law_has_ring_2, e1]
  exact ⟨t2', t3', t4', e⟩
theorem hr_spec (k : Nat) : F (k + 2) 31 [.shr (jD bs J)] = .ok (.shr (.bool (ring J))) [none] := by
  obtain ⟨t2', t3', t4', e⟩ := hr_a W bs k
  have fw := W.few
  have b62 := bnd62_nat (n := J.length) (by omega)
  have el : evS G.exm (F (k + 1)) [false] l_law_has_ring_2 [some (.shr (jD bs J)), some (.lst qL), none, none, none] = .ok (if ring J then .ret (.shr (.bool true)) else .next) [some (.shr (jD bs J)), some (.lst qL), t2', t3', t4'] := by
    unfold l_law_has_ring_2
    rw [evS]
    simp [ev, b62, e]
  rw [F31]
  refine (runF_ret (ρ := [some (.shr (jD bs J)), some (.lst qL), t2', t3', t4']) (t := .shr (.bool (ring J))) ?_).trans rfl
  show evSs G.exm (F (k + 1)) [false] i_law_has_ring [some (.shr (jD bs J)), none, none, none, none] = _
  refine go_next (ρ1 := [some (.shr (jD bs J)), some (.lst qL), none, none, none]) (by simp [evS, ev]) ?_
  cases c : ring J <;> rw [c] at el
  · exact go_next el (go_ret (by simp [evS, ev]))
  · exact go_ret el
end
end VS.K22
set_option Elab.async false
set_option linter.all false
set_option maxRecDepth 1000000
set_option maxHeartbeats 0
/-! K22: the law's rows of stands by a sign. -/
namespace VS.K22
open PySem PySem.Spec PyProof.Rows L2
def bsL (J : List (List (Str × Nat))) (l : Str) (S : List Nat) : List D := (S.map fun s => behind (· == l) (J.getD s [])).map fun x => .list (natsD x)
theorem sum_bsg {J : List (List (Str × Nat))} (W : WJ J) {l : Str} {S : List Nat} (h : ∀ s ∈ S, s < J.length) (n : S.length ≤ 30) : opT .sumL [.list (bsL J l S)] = some (.lst (natsD (bsg J l S))) := by
  have := bsg_len W (l := l) h
  exact sumL_nats (l := S.map fun s => behind (· == l) (J.getD s [])) (by unfold bsg at this; omega)
theorem gif_nats {f : Nat → D} {S : List Nat} {g : D → Option D} (h : ∀ s ∈ S, g (.int (s : Int)) = some (f s)) : (natsD S).filterMap g = S.map f := by
  induction S with
  | nil => rfl
  | cons s S ih => rw [nats_cons, List.filterMap_cons_some (h s (.head _)), List.map_cons, ih fun x hx => h x (.tail _ hx)]
def gB (J : List (List (Str × Nat))) (l : Str) (d : D) : Option D := match d with
  | .int i => some (.list (natsD (behind (· == l) (J.getD i.toNat []))))
  | _ => none
theorem gB_nats (J : List (List (Str × Nat))) (l : Str) (S : List Nat) : (natsD S).filterMap (gB J l) = bsL J l S := by
  rw [gif_nats (f := fun s => .list (natsD (behind (· == l) (J.getD s [])))) fun s _ => by simp [gB]]
  show _ = List.map _ (List.map _ S)
  rw [List.map_map]
  rfl
section
variable {J : List (List (Str × Nat))} (W : WJ J) (bs : List Nat) (Φ : Nat → FS)
include W
theorem ca2 {g : Nat} (hg : g < 3) {n : Nat} (h : n < J.length) (t0 t2 t4 t5 t6 t7 : Option T) :
    (ev Φ c_law_are_stands_2).e [t0, some (.shr (jD bs J)), t2, some (.shr (.int (g : Int))), t4, t5, t6, t7, none, some (.shr (.int n)), none, none] = .ok (.lst (natsD (behind (· == sgl g) J[n]))) [t0, some (.shr (jD bs J)), t2, some (.shr (.int (g : Int))), t4, t5, t6, t7, none, some (.shr (.int n)), none, none] := by
  obtain ⟨z, e1, e2⟩ := str_sgl hg
  unfold c_law_are_stands_2
  rw [ev, x_mke, ← filt_row (fun s => s == sgl g) (gIf fun s => s == sgl g) (fun p => rfl)]
  refine (mLc_pure (ds := J[n].map stepD) (ρ1 := [t0, some (.shr (jD bs J)), t2, some (.shr (.int (g : Int))), t4, t5, t6, t7, none, some (.shr (.int n)), none, none]) (gIf fun s => s == sgl g) ?_ ?_ ?_ ?_).trans ?_
  · simp [ev, ix_row h]
  · rfl
  · intro d hd
    obtain ⟨p, hp, rfl⟩ := List.mem_map.mp hd
    have ok : okD (.str p.1) = true := lab_ok (W.lab _ (List.getElem_mem h) p hp)
    have ok2 := lab_ok (sgl_lab g)
    cases e : p.1 == sgl g <;> simp [turn, ev, isCmp, ok, ok2, e, e1, e2, gIf]
  · have := W.row _ (List.getElem_mem h)
    simp; exact Nat.le_trans this (by decide)
  · rfl
theorem ca3 {g : Nat} (hg : g < 3) {S : List Nat} (h : ∀ s ∈ S, s < J.length) (l : S.length ≤ 30) {t2 : T} (h2 : t2 = .lst (natsD S) ∨ t2 = .shr (.list (natsD S))) (t0 t4 t5 t6 t7 : Option T) :
    (ev Φ c_law_are_stands_3).e [t0, some (.shr (jD bs J)), some t2, some (.shr (.int (g : Int))), t4, t5, t6, t7, none, none, none, none] = .ok (.lst (bsL J (sgl g) S)) [t0, some (.shr (jD bs J)), some (.shr (.list (natsD S))), some (.shr (.int (g : Int))), t4, t5, t6, t7, none, none, none, none] := by
  unfold c_law_are_stands_3
  rw [ev, x_mke]
  refine (mLc_pure (ds := natsD S) (ρ1 := [t0, some (.shr (jD bs J)), some (.shr (.list (natsD S))), some (.shr (.int (g : Int))), t4, t5, t6, t7, none, none, none, none]) (gB J (sgl g)) ?_ ?_ ?_ ?_).trans ?_
  · rcases h2 with rfl | rfl <;> simp [ev]
  · rfl
  · intro d hd
    obtain ⟨s, hs, rfl⟩ := nats_mem.mp hd
    have e := ca2 W bs Φ hg (h s hs) t0 (some (.shr (.list (natsD S)))) t4 t5 t6 t7
    simp [turn, e, gB, h s hs]
  · rw [nats_len]; exact Nat.le_trans l (by decide)
  · rw [gB_nats]; rfl
theorem cr1 {g : Nat} (hg : g < 3) {n : Nat} (h : n < J.length) (t0 t2 t3 t4 : Option T) :
    (ev Φ c_law_are_rows_1).e [t0, some (.shr (jD bs J)), t2, t3, t4, some (.shr (.int (g : Int))), some (.shr (.int n)), none, none] = .ok (.lst (natsD (behind (· == sgl g) J[n]))) [t0, some (.shr (jD bs J)), t2, t3, t4, some (.shr (.int (g : Int))), some (.shr (.int n)), none, none] := by
  obtain ⟨z, e1, e2⟩ := str_sgl hg
  unfold c_law_are_rows_1
  rw [ev, x_mke, ← filt_row (fun s => s == sgl g) (gIf fun s => s == sgl g) (fun p => rfl)]
  refine (mLc_pure (ds := J[n].map stepD) (ρ1 := [t0, some (.shr (jD bs J)), t2, t3, t4, some (.shr (.int (g : Int))), some (.shr (.int n)), none, none]) (gIf fun s => s == sgl g) ?_ ?_ ?_ ?_).trans ?_
  · simp [ev, ix_row h]
  · rfl
  · intro d hd
    obtain ⟨p, hp, rfl⟩ := List.mem_map.mp hd
    have ok : okD (.str p.1) = true := lab_ok (W.lab _ (List.getElem_mem h) p hp)
    have ok2 := lab_ok (sgl_lab g)
    cases e : p.1 == sgl g <;> simp [turn, ev, isCmp, ok, ok2, e, e1, e2, gIf]
  · have := W.row _ (List.getElem_mem h)
    simp; exact Nat.le_trans this (by decide)
  · rfl
theorem cr2 {g : Nat} (hg : g < 3) {S : List Nat} (h : ∀ s ∈ S, s < J.length) (l : S.length ≤ 30) (t0 t2 t3 : Option T) :
    (ev Φ c_law_are_rows_2).e [t0, some (.shr (jD bs J)), t2, t3, some (.lst (natsD S)), some (.shr (.int (g : Int))), none, none, none] = .ok (.lst (bsL J (sgl g) S)) [t0, some (.shr (jD bs J)), t2, t3, some (.shr (.list (natsD S))), some (.shr (.int (g : Int))), none, none, none] := by
  unfold c_law_are_rows_2
  rw [ev, x_mke]
  refine (mLc_pure (ds := natsD S) (ρ1 := [t0, some (.shr (jD bs J)), t2, t3, some (.shr (.list (natsD S))), some (.shr (.int (g : Int))), none, none, none]) (gB J (sgl g)) ?_ ?_ ?_ ?_).trans ?_
  · simp [ev]
  · rfl
  · intro d hd
    obtain ⟨s, hs, rfl⟩ := nats_mem.mp hd
    have e := cr1 W bs Φ hg (h s hs) t0 t2 t3 (some (.shr (.list (natsD S))))
    simp [turn, e, gB, h s hs]
  · rw [nats_len]; exact Nat.le_trans l (by decide)
  · rw [gB_nats]; rfl
end
end VS.K22
set_option Elab.async false
set_option linter.all false
set_option maxRecDepth 1000000
set_option maxHeartbeats 0
/-! K22: _law_are_rows. -/
namespace VS.K22
open PySem PySem.Spec PyProof.Rows L2
theorem F30 (k : Nat) : F (k + 1) 30 = runF 6 fun lk => evSs G.exm (F k) lk i_law_all_rows := rfl
theorem F35 (k : Nat) : F (k + 1) 35 = runF 9 fun lk => evSs G.exm (F k) lk i_law_are_rows := rfl
def allR : List (List Nat) := [[], [0], [1], [2], [0, 0], [0, 1], [0, 2], [1, 0], [1, 1], [1, 2], [2, 0], [2, 1], [2, 2]]
theorem allR_lt : ∀ r ∈ allR, ∀ g ∈ r, g < 3 := by decide
theorem all_rows (k : Nat) : F (k + 1) 30 [.shr (.int 2)] = .ok (.shr (.list (allR.map fun r => .tuple (natsD r)))) [none] := by
  rw [F30]
  kernel_rfl
theorem o_cr2 (Φ : Nat → FS) : (ev Φ c_law_are_rows_2).o = mOpd (ev Φ c_law_are_rows_2).e := by unfold c_law_are_rows_2; rw [ev]; rfl
section
variable {J : List (List (Str × Nat))} (W : WJ J) (bs : List Nat)
include W
theorem rows_b1 (k : Nat) {g : Nat} (hg : g < 3) {here : List Nat} (h : St J here) (t0 t3 : Option T) : evSs G.exm (F (k + 1)) [true, false] b_law_are_rows_1 [t0, some (.shr (jD bs J)), some (.lst qL), t3, some (.lst (natsD here)), some (.shr (.int (g : Int))), none, none, none] =
    .ok .next [t0, some (.shr (jD bs J)), some (.lst qL), t3, some (.lst (natsD (stepH J here g))), some (.shr (.int (g : Int))), none, none, none] := by
  have e1 := cr2 W bs (F (k + 1)) hg h.lt (Nat.le_trans h.len (by omega)) t0 (some (.lst qL)) t3
  have e2 := sum_bsg W (l := sgl g) h.lt (Nat.le_trans h.len (by omega))
  have ln := bsg_len W (l := sgl g) h.lt
  have e3 := sset_nats (ns := bsg J (sgl g) here) (by have := h.len; omega)
  have s1 := st_bsg W (l := sgl g) h.lt
  have e4 := reach_quiet W bs k s1.lt (Nat.le_trans s1.len (by omega)) (t := .lst (natsD (srt (ddN (bsg J (sgl g) here))))) (.inr rfl)
  rw [x_own2] at e4
  simp [b_law_are_rows_1, evS, ev, isCmp, o_cr2, e1, e2, e3, e4, stepH]
theorem rows_in (k : Nat) (t0 t3 : Option T) : ∀ (row here : List Nat) (t5 : Option T), (∀ g ∈ row, g < 3) → St J here → ∃ t5', forL [true, false] (.name 5) (evSs G.exm (F (k + 1)) [true, false] b_law_are_rows_1) (natsD row) [t0, some (.shr (jD bs J)), some (.lst qL), t3, some (.lst (natsD here)), t5, none, none, none] =
    .ok .next [t0, some (.shr (jD bs J)), some (.lst qL), t3, some (.lst (natsD (row.foldl (stepH J) here))), t5', none, none, none]
  | [], here, t5, _, h => ⟨t5, rfl⟩
  | g :: row, here, t5, hg, h => by
    have s1 := st_bsg W (l := sgl g) h.lt
    have s2 : St J (stepH J here g) := st_rch W (f := quiet) s1.lt
    obtain ⟨t5', e3⟩ := rows_in k t0 t3 row (stepH J here g) (some (.shr (.int g))) (fun x hx => hg x (.tail _ hx)) s2
    refine ⟨t5', ?_⟩
    rw [nats_cons, for_next (ρ1 := [t0, some (.shr (jD bs J)), some (.lst qL), t3, some (.lst (natsD here)), some (.shr (.int g)), none, none, none]) (by simp) (rows_b1 W bs k (hg g (.head _)) h t0 t3), e3]
    rfl
theorem rows_b2 (k : Nat) (hb : St J bs) {row : List Nat} (hr : ∀ g ∈ row, g < 3) (t0 t4 t5 : Option T) : ∃ t4' t5', evSs G.exm (F (k + 3)) [true, false] b_law_are_rows_2 [t0, some (.shr (jD bs J)), some (.lst qL), some (.shr (.tuple (natsD row))), t4, t5, none, none, none] =
    .ok .next [t0, some (.shr (jD bs J)), some (.lst qL), some (.shr (.tuple (natsD row))), t4', t5', none, none, none] := by
  have e1 := reach_quiet W bs (k + 2) hb.lt (Nat.le_trans hb.len (by omega)) (t := .shr (.tuple (natsD bs))) (.inl rfl)
  rw [x_own1] at e1
  change F (k + 3) 29 _ = _ at e1
  have s0 := st_rch W (f := quiet) hb.lt
  obtain ⟨t5', e2⟩ := rows_in W bs (k + 2) t0 (some (.shr (.tuple (natsD row)))) row _ t5 hr s0
  obtain ⟨e3, s3⟩ := hrd_spec W bs (k + 1) hb hr
  change F (k + 3) 20 _ = _ at e3
  have e4 := give_spec W bs k hb hr
  have sh : Shw (.tuple (natsD (hrd J bs row))) := shw_ntup (fun n hn => by have := s3.lt n hn; have := W.few; omega) (by have := s3.len; omega)
  obtain ⟨o1, o2, e5⟩ := alike_T (k + 2) _ sh
  change F (k + 3) 26 _ = _ at e5
  have ok : okD (.list (natsD (hrd J bs row))) = true := ok_nlist _
  have ok0 : okD (.list []) = true := rfl
  have ee : PyData.eqv (.list (natsD (hrd J bs row))) (.list []) = (hrd J bs row).isEmpty := by
    cases hrd J bs row <;> simp [PyData.eqv, PyData.eqvAll, nats_cons]
  refine ⟨some (.lst (natsD (hrd J bs row))), t5', ?_⟩
  refine go_next (ρ1 := [t0, some (.shr (jD bs J)), some (.lst qL), some (.shr (.tuple (natsD row))), some (.lst (natsD (srt (rch J quiet bs)))), t5, none, none, none]) (by simp [evS, ev, e1]) ?_
  refine go_next (ρ1 := [t0, some (.shr (jD bs J)), some (.lst qL), some (.shr (.tuple (natsD row))), some (.lst (natsD (hrd J bs row))), t5', none, none, none]) (go_for (ds := natsD row) (by simp [ev]) e2) ?_
  refine go_next (go_iteF (ρ1 := [t0, some (.shr (jD bs J)), some (.lst qL), some (.shr (.tuple (natsD row))), some (.lst (natsD (hrd J bs row))), t5', none, none, none]) ?_ go_nil) go_nil
  simp [ev, isCmp, e3, e4, e5, ok, ok0, ee]
theorem rows_spec (k : Nat) (hb : St J bs) {xs : List D} : F (k + 4) 35 [.lst xs, .shr (jD bs J)] = .ok (.shr (.bool true)) [some (.lst xs), none] := by
  have e1 := all_rows (k + 2)
  change F (k + 3) 30 _ = _ at e1
  obtain ⟨ρ2, e2, t3', t4', t5', rfl⟩ := for_all (lk := [true, false]) (tg := .name 3) (b := evSs G.exm (F (k + 3)) [true, false] b_law_are_rows_2) (I := fun ρ => ∃ t3 t4 t5, ρ = [some (.lst xs), some (.shr (jD bs J)), some (.lst qL), t3, t4, t5, none, none, none]) (allR.map fun r => .tuple (natsD r)) _ ⟨none, none, none, rfl⟩ fun d hd ρ ⟨a3, a4, a5, e⟩ => by
    subst e
    obtain ⟨r, hr, rfl⟩ := List.mem_map.mp hd
    obtain ⟨t4', t5', e3⟩ := rows_b2 W bs k hb (allR_lt r hr) (some (.lst xs)) a4 a5
    exact ⟨[some (.lst xs), some (.shr (jD bs J)), some (.lst qL), some (.shr (.tuple (natsD r))), a4, a5, none, none, none], by simp, _, e3, _, _, _, rfl⟩
  rw [F35]
  refine (runF_ret (ρ := [some (.lst xs), some (.shr (jD bs J)), some (.lst qL), t3', t4', t5', none, none, none]) (t := .shr (.bool true)) ?_).trans rfl
  show evSs G.exm (F (k + 3)) [true, false] i_law_are_rows [some (.lst xs), some (.shr (jD bs J)), none, none, none, none, none, none, none] = _
  refine go_next (ρ1 := [some (.lst xs), some (.shr (jD bs J)), some (.lst qL), none, none, none, none, none, none]) (by simp [evS, ev]) ?_
  refine go_next (go_for (ds := allR.map fun r => .tuple (natsD r)) (by simp [ev, e1]) e2) (go_ret (by simp [evS, ev]))
end
end VS.K22
set_option Elab.async false
set_option linter.all false
set_option maxRecDepth 1000000
set_option maxHeartbeats 0
/-! K22: _law_are_stands. -/
namespace VS.K22
open PySem PySem.Spec PyProof.Rows L2
theorem nats_of {n : Nat} : ∀ {xs : List D}, (∀ x ∈ xs, ∃ v : Nat, v < n ∧ x = .int (v : Int)) → ∃ vs : List Nat, xs = natsD vs ∧ ∀ v ∈ vs, v < n
  | [], _ => ⟨[], rfl, fun _ h => (nomatch h)⟩
  | x :: xs, h => by
    obtain ⟨v, hv, rfl⟩ := h x (.head _)
    obtain ⟨vs, rfl, hs⟩ := nats_of fun y hy => h y (.tail _ hy)
    exact ⟨v :: vs, (nats_cons v vs).symm, fun y hy => by
      rcases List.mem_cons.mp hy with e | e
      · rw [e]; exact hv
      · exact hs y e⟩
theorem shw_l2 {A B : List Nat} (hA : ∀ n ∈ A, n < 64) (hB : ∀ n ∈ B, n < 64) (lA : A.length ≤ 10) (lB : B.length ≤ 10) : Shw (.list [.tuple (natsD A), .tuple (natsD B)]) := by
  have s : ∀ x ∈ [PyData.tuple (natsD A), PyData.tuple (natsD B)], Sx 100 x := fun x hx => by
    rcases List.mem_cons.mp hx with e | e
    · rw [e]; exact (sx_tup (sx_nats hA)).mono (by rw [nats_len]; omega)
    · rw [List.mem_singleton.mp e]; exact (sx_tup (sx_nats hB)).mono (by rw [nats_len]; omega)
  refine (sx_list s).shw (by simp) ?_
  have o : ∀ ns : List Nat, okAt 59 (.tuple (natsD ns)) = true := fun ns => List.all_eq_true.mpr fun d hd => by
    obtain ⟨a, _, rfl⟩ := nats_mem.mp hd
    rfl
  show ([PyData.tuple (natsD A), PyData.tuple (natsD B)]).all (okAt 59) = true
  simp [o]
theorem sx_lab {s : Str} (h : s ∈ labels) : Sx 4 (.str s) := by
  have all : labels.all (fun s => PyData.showable (.str s) && decide ((PyData.str s).shown.length ≤ 4) && PyData.strOk (PyData.str s).shown) = true := by decide +kernel
  have := List.all_eq_true.mp all s h
  simp only [Bool.and_eq_true, decide_eq_true_eq] at this
  exact ⟨this.1.1, this.1.2, this.2⟩
theorem ok_step {n : Nat} {p : Str × Nat} (h : p.1 ∈ labels) : okAt (n + 2) (stepD p) = true := by
  have := lab_ok h
  show ([PyData.str p.1, PyData.int p.2]).all (okAt (n + 1)) = true
  simp [okAt]
  exact this
theorem ok_rowD {r : List (Str × Nat)} (h : ∀ p ∈ r, p.1 ∈ labels) : okD (rowD r) = true := List.all_eq_true.mpr fun d hd => by
  obtain ⟨p, hp, rfl⟩ := List.mem_map.mp hd
  exact ok_step (n := 57) (h p hp)
theorem shw_row {r : List (Str × Nat)} (h : ∀ p ∈ r, p.1 ∈ labels) (h2 : ∀ p ∈ r, p.2 < 64) (l : r.length ≤ 10) : Shw (rowD r) := by
  refine (sx_tup (n := 20) fun d hd => ?_).shw (by rw [List.length_map]; omega) (ok_rowD h)
  obtain ⟨p, hp, rfl⟩ := List.mem_map.mp hd
  refine (sx_tup (n := 4) fun x hx => ?_).mono (by simp)
  rcases List.mem_cons.mp hx with e | e
  · rw [e]; exact sx_lab (h p hp)
  · rw [List.mem_singleton.mp e]; exact (sx_nat (h2 p hp)).mono (by omega)
theorem F10 (k : Nat) : F (k + 1) 10 = runF 2 fun lk => evSs G.exm (F k) lk i_is_stuck := rfl
theorem F34 (k : Nat) : F (k + 1) 34 = runF 12 fun lk => evSs G.exm (F k) lk i_law_are_stands := rfl
/-- what is no integer -/
def odd : D → Bool
  | .bool _ | .none | .str _ | .tuple _ | .list _ => true
  | _ => false
theorem is_integer_odd (k : Nat) {d : D} (h : odd d = true) : F (k + 1) 0 [.shr d] = .ok (.shr (.bool false)) [none] := by
  rw [F0]
  cases d <;> simp [odd] at h
  · rfl
  · rfl
  · rfl
  · rfl
  · rfl
theorem is_count_odd (k : Nat) {d : D} (h : odd d = true) : F (k + 2) 1 [.shr d] = .ok (.shr (.bool false)) [none] := by
  have e := is_integer_odd k h
  rw [F1]
  exact (runF_ret (ρ := [some (.shr d)]) (t := .shr (.bool false)) (go_ret (by simp [evS, ev, e]))).trans rfl
theorem is_stand_odd (k : Nat) (bs J) {d : D} (h : odd d = true) : F (k + 3) 8 [.shr (jD bs J), .shr d] = .ok (.shr (.bool false)) [none, none] := by
  have e := is_count_odd k h
  rw [F8]
  exact (runF_ret (ρ := [some (.shr (jD bs J)), some (.shr d)]) (t := .shr (.bool false)) (go_ret (by simp [evS, ev, e]))).trans rfl
theorem is_stuck_in (k : Nat) (bs) {J} (W : WJ J) (n : Nat) (h : n < J.length) : F (k + 5) 10 [.shr (jD bs J), .shr (.int n)] = .ok (.shr (.bool J[n].isEmpty)) [none, none] := by
  have e := steps_at_in k bs J n h
  have ok : okD (rowD J[n]) = true := ok_rowD fun p hp => W.lab _ (List.getElem_mem h) p hp
  have ok0 : okD (.tuple []) = true := rfl
  have ee : PyData.eqv (rowD J[n]) (.tuple []) = J[n].isEmpty := by
    cases J[n] <;> simp [PyData.eqv, PyData.eqvAll]
  rw [F10]
  exact (runF_ret (ρ := [some (.shr (jD bs J)), some (.shr (.int n))]) (t := .shr (.bool J[n].isEmpty)) (go_ret (by simp [evS, ev, isCmp, e, ok, ok0, ee]))).trans rfl
theorem o_ca1 (Φ : Nat → FS) : (ev Φ c_law_are_stands_1).o = mOpd (ev Φ c_law_are_stands_1).e := by unfold c_law_are_stands_1; rw [ev]; rfl
theorem o_ca3 (Φ : Nat → FS) : (ev Φ c_law_are_stands_3).o = mOpd (ev Φ c_law_are_stands_3).e := by unfold c_law_are_stands_3; rw [ev]; rfl
theorem draw_some (k : Nat) (bs J) {xs : List D} (hb : Bag xs) (hn : 0 < J.length) (hn2 : J.length ≤ 5) : ∃ (vs : List Nat) (ys : List D), Bag ys ∧ (∀ v ∈ vs, v < J.length) ∧ vs.length ≤ 3 ∧
    (ev (F (k + 1)) c_law_are_stands_1).e [some (.lst xs), some (.shr (jD bs J)), none, none, none, some (.shr (.int J.length)), some (.lst qL), none, none, none, none, none] = .ok (.lst (natsD vs)) [some (.lst ys), some (.shr (jD bs J)), none, none, none, some (.shr (.int J.length)), some (.lst qL), none, none, none, none, none] := by
  obtain ⟨v, ys, hv, hy, e⟩ := take_spec k hb 3 (by omega) (by omega)
  change F (k + 1) 24 [.lst xs, .shr (.int 3)] = _ at e
  have b2 := bnd62_nat (n := 1 + v) (by omega)
  obtain ⟨zs, ρ', e2, n2, p2, i2⟩ := mLc_inv (own := [8]) (tg := .name 8) (mt := VS.ret true) (me := (ev (F (k + 1)) (.call 24 (.cons (.slot 0) (.cons (.slot 5) .nil)))).e) (it := evIt .rng1 (evs (F (k + 1)) (.cons (.op .add (.cons (.lit (.int 1)) (.cons (.call 24 (.cons (.slot 0) (.cons (.lit (.int 3)) .nil))) .nil))) .nil)))
    (ρ := [some (.lst xs), some (.shr (jD bs J)), none, none, none, some (.shr (.int J.length)), some (.lst qL), none, none, none, none, none]) (ds := natsD (List.range (1 + v)))
    (ρ1 := [some (.lst ys), some (.shr (jD bs J)), none, none, none, some (.shr (.int J.length)), some (.lst qL), none, none, none, none, none])
    (fun ρ => ∃ ys, Bag ys ∧ ρ = [some (.lst ys), some (.shr (jD bs J)), none, none, none, some (.shr (.int J.length)), some (.lst qL), none, none, none, none, none]) (fun x => ∃ v : Nat, v < J.length ∧ x = .int (v : Int))
    (by
      have b3 : bnd62 ((1 : Int) + (v : Int)) = true := by rw [show (1 : Int) + (v : Int) = ((1 + v : Nat) : Int) by omega]; exact b2
      have tn : ((1 : Int) + (v : Int)).toNat = 1 + v := by omega
      simp [ev, e, b3, tn]) rfl ⟨ys, hy, rfl⟩ (fun d hd ρ ⟨us, hu, er⟩ => by
      subst er
      obtain ⟨w, zs, hw, hz, e3⟩ := take_spec k hu J.length hn (by omega)
      refine ⟨.int w, [some (.lst zs), some (.shr (jD bs J)), none, none, none, some (.shr (.int J.length)), some (.lst qL), none, none, none, none, none], ?_, ⟨w, hw, rfl⟩, zs, hz, rfl⟩
      simp [turn, ev, e3]) (by rw [nats_len, List.length_range]; exact Nat.le_trans (by omega : 1 + v ≤ 4096) (by decide))
  obtain ⟨us, hu, rfl⟩ := i2
  obtain ⟨vs, rfl, hvs⟩ := nats_of p2
  rw [nats_len, nats_len, List.length_range] at n2
  refine ⟨vs, us, hu, hvs, by omega, ?_⟩
  unfold c_law_are_stands_1
  rw [ev, x_mke]
  exact e2
end VS.K22
set_option Elab.async false
set_option linter.all false
set_option maxRecDepth 1000000
set_option maxHeartbeats 0
/-! K22: _law_are_stands, the end. -/
namespace VS.K22
open PySem PySem.Spec PyProof.Rows L2
@[simp] theorem op_negI (i : Int) : opT .neg [.int i] = some (.shr (.int (-i))) := (rfl)
section
variable {J : List (List (Str × Nat))} (W : WJ J) (bs : List Nat)
include W
theorem st_b1 (k : Nat) {g : Nat} (hg : g < 3) {S : List Nat} (h : St J S) {t2 : T} (h2 : t2 = .lst (natsD S) ∨ t2 = .shr (.list (natsD S))) (t0 t4 t5 t6 t7 : Option T) : ∃ t7', evSs G.exm (F (k + 1)) [true, false] b_law_are_stands_1 [t0, some (.shr (jD bs J)), some t2, some (.shr (.int (g : Int))), t4, t5, t6, t7, none, none, none, none] =
    .ok .next [t0, some (.shr (jD bs J)), some (.shr (.list (natsD S))), some (.shr (.int (g : Int))), t4, t5, t6, t7', none, none, none, none] := by
  have e1 := ca3 W bs (F (k + 1)) hg h.lt (Nat.le_trans h.len (by omega)) h2 t0 t4 t5 t6 t7
  have e2 := sum_bsg W (l := sgl g) h.lt (Nat.le_trans h.len (by omega))
  have ln := bsg_len W (l := sgl g) h.lt
  have e3 := sset_nats (ns := bsg J (sgl g) S) (by have := h.len; omega)
  have e4 := bsg_spec W bs k h.lt (Nat.le_trans h.len (by omega)) hg
  have s1 := st_bsg W (l := sgl g) h.lt
  have sh : Shw (.tuple (natsD (srt (ddN (bsg J (sgl g) S))))) := shw_ntup (fun n hn => by have := s1.lt n hn; have := W.few; omega) (by have := s1.len; omega)
  obtain ⟨o1, o2, e5⟩ := alike_T k _ sh
  refine ⟨some (.lst (natsD (srt (ddN (bsg J (sgl g) S))))), ?_⟩
  refine go_next (ρ1 := [t0, some (.shr (jD bs J)), some (.shr (.list (natsD S))), some (.shr (.int (g : Int))), t4, t5, t6, some (.lst (natsD (srt (ddN (bsg J (sgl g) S))))), none, none, none, none]) (by simp [evS, ev, o_ca3, e1, e2, e3]) ?_
  refine go_next (go_iteF (ρ1 := [t0, some (.shr (jD bs J)), some (.shr (.list (natsD S))), some (.shr (.int (g : Int))), t4, t5, t6, some (.lst (natsD (srt (ddN (bsg J (sgl g) S))))), none, none, none, none]) ?_ go_nil) go_nil
  simp [ev, e4, e5]
/-- one thing: whether it is a stand, and what of it -/
theorem st_b2 (k : Nat) {d : D} (h : odd d = true ∨ ∃ i : Int, d = .int i) (t0 t2 t3 t6 t7 : Option T) : ∃ t7', evSs G.exm (F (k + 5)) [true, false] b_law_are_stands_2 [t0, some (.shr (jD bs J)), t2, t3, some (.shr d), some (.shr (.int J.length)), t6, t7, none, none, none, none] =
    .ok .next [t0, some (.shr (jD bs J)), t2, t3, some (.shr d), some (.shr (.int J.length)), t6, t7', none, none, none, none] := by
  rcases h with h | ⟨i, rfl⟩
  · have e1 := is_stand_odd (k + 2) bs J h
    change F (k + 5) 8 _ = _ at e1
    refine ⟨some (.shr (.bool false)), ?_⟩
    refine go_next (ρ1 := [t0, some (.shr (jD bs J)), t2, t3, some (.shr d), some (.shr (.int J.length)), t6, some (.shr (.bool false)), none, none, none, none]) ?_ ?_
    · cases d <;> simp [odd] at h
      · have a1 : kitB (dTy .none) "int" = some false := rfl
        simp [evS, ev, a1]
      · rename_i b
        have a1 : kitB (dTy (.bool b)) "int" = some true := rfl
        have a2 : kitB (dTy (.bool b)) "bool" = some true := rfl
        simp [evS, ev, a1, a2]
      · rename_i z
        have a1 : kitB (dTy (.str z)) "int" = some false := rfl
        simp [evS, ev, a1]
      · rename_i z
        have a1 : kitB (dTy (.list z)) "int" = some false := rfl
        simp [evS, ev, a1]
      · rename_i z
        have a1 : kitB (dTy (.tuple z)) "int" = some false := rfl
        simp [evS, ev, a1]
    · refine go_next (go_iteF (ρ1 := [t0, some (.shr (jD bs J)), t2, t3, some (.shr d), some (.shr (.int J.length)), t6, some (.shr (.bool false)), none, none, none, none]) ?_ go_nil) go_nil
      simp [ev, isCmp, e1]
  · have e1 := is_stand_int (k + 2) bs J i
    change F (k + 5) 8 _ = _ at e1
    have a1 : kitB (dTy (.int i)) "int" = some true := rfl
    have a2 : kitB (dTy (.int i)) "bool" = some false := rfl
    by_cases c : 0 ≤ i ∧ i < J.length
    · obtain ⟨n, rfl⟩ : ∃ n : Nat, i = n := ⟨i.toNat, by omega⟩
      have hn : n < J.length := by omega
      have e2 := steps_at_in (k + 1) bs J n hn
      have e3 := is_stuck_in k bs W n hn
      change F (k + 5) 9 _ = _ at e2
      have sh : Shw (rowD J[n]) := shw_row (fun p hp => W.lab _ (List.getElem_mem hn) p hp) (fun p hp => by have := W.beh _ (List.getElem_mem hn) p hp; have := W.few; omega) (by have := W.row _ (List.getElem_mem hn); omega)
      obtain ⟨o1, o2, e4⟩ := alike_T (k + 4) _ sh
      change F (k + 5) 26 [.shr (rowD J[n]), .shr (rowD J[n])] = _ at e4
      have ok0 : okD (.tuple []) = true := rfl
      have ee : PyData.eqv (rowD J[n]) (.tuple []) = J[n].isEmpty := by
        cases J[n] <;> simp [PyData.eqv, PyData.eqvAll]
      have ix := ix_row hn
      have ok := sh.ok
      refine ⟨some (.shr (.bool true)), ?_⟩
      have d1 : decide ((n : Int) < (J.length : Int)) = true := decide_eq_true c.2
      have d2 : decide ((0 : Int) ≤ (n : Int)) = true := decide_eq_true c.1
      rw [d1, d2] at e1
      generalize rowD J[n] = rr at *
      refine go_next (ρ1 := [t0, some (.shr (jD bs J)), t2, t3, some (.shr (.int n)), some (.shr (.int J.length)), t6, some (.shr (.bool true)), none, none, none, none]) (by simp [evS, ev, a1, a2, hn]) ?_
      refine go_next (go_iteF (ρ1 := [t0, some (.shr (jD bs J)), t2, t3, some (.shr (.int n)), some (.shr (.int J.length)), t6, some (.shr (.bool true)), none, none, none, none]) ?_ go_nil) go_nil
      simp [ev, isCmp, e1, e2, e3, e4, ix, ok, ok0, ee]
    · have e1' : F (k + 5) 8 [.shr (jD bs J), .shr (.int i)] = .ok (.shr (.bool false)) [none, none] := by
        rw [e1]
        by_cases c1 : 0 ≤ i
        · have c2 : ¬ i < J.length := fun z => c ⟨c1, z⟩
          rw [decide_eq_false c2]; simp
        · rw [decide_eq_false c1]; simp
      refine ⟨some (.shr (.bool false)), ?_⟩
      refine go_next (ρ1 := [t0, some (.shr (jD bs J)), t2, t3, some (.shr (.int i)), some (.shr (.int J.length)), t6, some (.shr (.bool false)), none, none, none, none]) ?_ ?_
      · by_cases c1 : 0 ≤ i
        · have c2 : ¬ i < J.length := fun z => c ⟨c1, z⟩
          simp [evS, ev, a1, a2, c1, c2]
        · simp [evS, ev, a1, a2, c1]
      · refine go_next (go_iteF (ρ1 := [t0, some (.shr (jD bs J)), t2, t3, some (.shr (.int i)), some (.shr (.int J.length)), t6, some (.shr (.bool false)), none, none, none, none]) ?_ go_nil) go_nil
        simp [ev, isCmp, e1']
end
end VS.K22
set_option Elab.async false
set_option linter.all false
set_option maxRecDepth 1000000
set_option maxHeartbeats 0
/-! K22: _law_are_stands, put together. -/
namespace VS.K22
open PySem PySem.Spec PyProof.Rows L2
section
variable {J : List (List (Str × Nat))} (bs : List Nat)
theorem z1 (Φ : Nat → FS) (xs : List D) : evS G.exm Φ [true, false] (.par [5, 6] (.cons (.op .len (.cons (.op .idx (.cons (.slot 1) (.cons (.lit (.int 3)) .nil))) .nil)) (.cons (.lst (.cons (.lit (.str "b0")) (.cons (.lit (.str "b1")) (.cons (.lit (.str "-")) .nil)))) .nil))) [some (.lst xs), some (.shr (jD bs J)), none, none, none, none, none, none, none, none, none, none] =
  .ok .next [some (.lst xs), some (.shr (jD bs J)), none, none, none, some (.shr (.int J.length)), some (.lst qL), none, none, none, none, none] := by simp [evS, ev]
theorem z2 (Φ : Nat → FS) (xs ys : List D) (vs : List Nat) (e1 : (ev Φ c_law_are_stands_1).e [some (.lst xs), some (.shr (jD bs J)), none, none, none, some (.shr (.int J.length)), some (.lst qL), none, none, none, none, none] = .ok (.lst (natsD vs)) [some (.lst ys), some (.shr (jD bs J)), none, none, none, some (.shr (.int J.length)), some (.lst qL), none, none, none, none, none])
  (e2 : opT .sset [.list (natsD vs)] = some (.lst (natsD (srt (ddN vs))))) : evS G.exm Φ [true, false] (.set 2 (.op .sset (.cons c_law_are_stands_1 .nil))) [some (.lst xs), some (.shr (jD bs J)), none, none, none, some (.shr (.int J.length)), some (.lst qL), none, none, none, none, none] =
  .ok .next [some (.lst ys), some (.shr (jD bs J)), some (.lst (natsD (srt (ddN vs)))), none, none, some (.shr (.int J.length)), some (.lst qL), none, none, none, none, none] := by simp [evS, ev, o_ca1, e1, e2]
theorem z3 (Φ : Nat → FS) (t0 t3 t4 t5 t7 : Option T) (S A B : List D) {x1 x2 x3 x4 x5 x6 x7 x8 x9 : Option T}
  (a1 : Φ 17 [.shr (jD bs J), .shr (.tuple S)] = .ok (.shr (.tuple A)) [x1, x2]) (a2 : Φ 18 [.shr (jD bs J), .shr (.tuple S)] = .ok (.shr (.tuple B)) [x3, x4])
  (a3 : Φ 29 [.shr (jD bs J), .lst S, .lst [.str "-"]] = .ok (.lst A) [x5, some (.lst S), x6]) (a4 : Φ 29 [.shr (jD bs J), .lst S, .lst qL] = .ok (.lst B) [x7, some (.lst S), some (.lst qL)])
  (a5 : Φ 26 [.lst [.tuple A, .tuple B], .lst [.tuple A, .tuple B]] = .ok (.shr (.bool true)) [x8, x9]) :
  (ev Φ (.not (.call 26 (.cons (.lst (.cons (.call 17 (.cons (.slot 1) (.cons (.op .tuple (.cons (.slot 2) .nil)) .nil))) (.cons (.call 18 (.cons (.slot 1) (.cons (.op .tuple (.cons (.slot 2) .nil)) .nil))) .nil))) (.cons (.lst (.cons (.op .tuple (.cons (.call 29 (.cons (.slot 1) (.cons (.slot 2) (.cons (.lst (.cons (.lit (.str "-")) .nil)) .nil)))) .nil)) (.cons (.op .tuple (.cons (.call 29 (.cons (.slot 1) (.cons (.slot 2) (.cons (.slot 6) .nil)))) .nil)) .nil))) .nil))))).t [t0, some (.shr (jD bs J)), some (.lst S), t3, t4, t5, some (.lst qL), t7, none, none, none, none] = .ok false [t0, some (.shr (jD bs J)), some (.lst S), t3, t4, t5, some (.lst qL), t7, none, none, none, none] := by
  generalize jD bs J = jj at *
  simp [ev, a1, a2, a3, a4, a5]
theorem z4 (Φ : Nat → FS) (ρ : Env) : evIt .data (evs Φ (.cons (.tup (.cons (.lit (.int 0)) (.cons (.lit (.int 1)) (.cons (.lit (.int 2)) .nil)))) .nil)) ρ = .ok (natsD [0, 1, 2]) ρ := by simp [ev, nats_cons]
theorem z5 (Φ : Nat → FS) (t0 t1 t2 t3 t4 t6 t7 : Option T) (n : Nat) : evIt .data (evs Φ (.cons (.lst (.cons (.lit (.int 0)) (.cons (.op .sub (.cons (.slot 5) (.cons (.lit (.int 1)) .nil))) (.cons (.slot 5) (.cons (.op .neg (.cons (.lit (.int 1)) .nil)) (.cons (.lit (.bool true)) (.cons (.lit .none) (.cons (.lit (.str "0")) (.cons (.tup (.cons (.lit (.int 0)) .nil)) .nil))))))))) .nil)) [t0, t1, t2, t3, t4, some (.shr (.int n)), t6, t7, none, none, none, none] = .ok [.int 0, .int ((n : Int) - 1), .int n, .int (-1), .bool true, .none, .str "0", .tuple [.int 0]] [t0, t1, t2, t3, t4, some (.shr (.int n)), t6, t7, none, none, none, none] := by simp [ev]
theorem z6 (Φ : Nat → FS) (t0 t2 t3 t4 t5 t6 t7 : Option T) (b : Bool) (e6 : Φ 22 [.shr (jD bs J)] = .ok (.shr (.bool b)) [none]) (e7 : Φ 31 [.shr (jD bs J)] = .ok (.shr (.bool b)) [none]) : evS G.exm Φ [true, false] (.ret (.op .eq (.cons (.op .bool (.cons (.call 22 (.cons (.slot 1) .nil)) .nil)) (.cons (.call 31 (.cons (.slot 1) .nil)) .nil)))) [t0, some (.shr (jD bs J)), t2, t3, t4, t5, t6, t7, none, none, none, none] = .ok (.ret (.shr (.bool true))) [t0, some (.shr (jD bs J)), t2, t3, t4, t5, t6, t7, none, none, none, none] := by
  cases b <;> simp [evS, ev, e6, e7]
end
section
variable {J : List (List (Str × Nat))} (W : WJ J) (bs : List Nat)
include W
theorem stands_spec (k : Nat) (hn : 0 < J.length) {xs : List D} (hb : Bag xs) : ∃ ys, Bag ys ∧ F (k + 6) 34 [.lst xs, .shr (jD bs J)] = .ok (.shr (.bool true)) [some (.lst ys), none] := by
  have fw := W.few
  obtain ⟨vs, ys, hy, lt, len, e1⟩ := draw_some (k + 4) bs J hb hn fw
  have st := st_srt W (ddN_nodup vs) fun s hs => lt s (ddN_mem.mp hs)
  have e2 := sset_nats (ns := vs) (by omega)
  refine ⟨ys, hy, ?_⟩
  have l := Nat.le_trans st.len (by omega : 5 ≤ 60)
  have a1 := sil_spec W bs (k + 4) st.lt l
  have a2 := unh_spec W bs (k + 4) st.lt l
  have a3 := reach_silent W bs (k + 4) st.lt l (t := .lst (natsD (srt (ddN vs)))) (.inr rfl)
  have a4 := reach_quiet W bs (k + 4) st.lt l (t := .lst (natsD (srt (ddN vs)))) (.inr rfl)
  rw [x_own2, if_pos rfl] at a3 a4
  have s1 := st_rch W (f := fun s => s == "-") st.lt
  have s2 := st_rch W (f := quiet) st.lt
  have sh := shw_l2 (A := srt (rch J (fun s => s == "-") (srt (ddN vs)))) (B := srt (rch J quiet (srt (ddN vs)))) (fun n hn => by have := s1.lt n hn; omega) (fun n hn => by have := s2.lt n hn; omega) (by have := s1.len; omega) (by have := s2.len; omega)
  obtain ⟨o1, o2, a5⟩ := alike_L (k + 4) _ sh
  obtain ⟨ρ4, e4, t3, t7, t2, h2, rfl⟩ := for_all (lk := [true, false]) (tg := .name 3) (b := evSs G.exm (F (k + 5)) [true, false] b_law_are_stands_1)
    (I := fun ρ => ∃ t3 t7 t2, (t2 = T.lst (natsD (srt (ddN vs))) ∨ t2 = .shr (.list (natsD (srt (ddN vs))))) ∧ ρ = [some (.lst ys), some (.shr (jD bs J)), some t2, t3, none, some (.shr (.int J.length)), some (.lst qL), t7, none, none, none, none])
    (natsD [0, 1, 2]) [some (.lst ys), some (.shr (jD bs J)), some (.lst (natsD (srt (ddN vs)))), none, none, some (.shr (.int J.length)), some (.lst qL), none, none, none, none, none] ⟨none, none, _, .inl rfl, rfl⟩ fun d hd ρ ⟨a3, a7, a2, h2, e⟩ => by
    subst e
    obtain ⟨g, hg, rfl⟩ := nats_mem.mp hd
    have g3 : g < 3 := by
      simp only [List.mem_cons, List.not_mem_nil, or_false] at hg
      omega
    obtain ⟨t7', e⟩ := st_b1 W bs (k + 4) g3 st h2 (some (.lst ys)) none (some (.shr (.int J.length))) (some (.lst qL)) a7
    exact ⟨[some (.lst ys), some (.shr (jD bs J)), some a2, some (.shr (.int g)), none, some (.shr (.int J.length)), some (.lst qL), a7, none, none, none, none], by simp, _, e, _, _, _, .inr rfl, rfl⟩
  obtain ⟨ρ5, e5, t4, t7', rfl⟩ := for_all (lk := [true, false]) (tg := .name 4) (b := evSs G.exm (F (k + 5)) [true, false] b_law_are_stands_2)
    (I := fun ρ => ∃ t4 t7, ρ = [some (.lst ys), some (.shr (jD bs J)), some t2, t3, t4, some (.shr (.int J.length)), some (.lst qL), t7, none, none, none, none])
    [.int 0, .int ((J.length : Int) - 1), .int J.length, .int (-1), .bool true, .none, .str "0", .tuple [.int 0]] [some (.lst ys), some (.shr (jD bs J)), some t2, t3, none, some (.shr (.int J.length)), some (.lst qL), t7, none, none, none, none] ⟨none, t7, rfl⟩ fun d hd ρ ⟨a4, a7, e⟩ => by
    subst e
    have hd' : odd d = true ∨ ∃ i : Int, d = .int i := by
      simp only [List.mem_cons, List.not_mem_nil, or_false] at hd
      rcases hd with rfl | rfl | rfl | rfl | rfl | rfl | rfl | rfl
      · exact .inr ⟨_, rfl⟩
      · exact .inr ⟨_, rfl⟩
      · exact .inr ⟨_, rfl⟩
      · exact .inr ⟨_, rfl⟩
      · exact .inl rfl
      · exact .inl rfl
      · exact .inl rfl
      · exact .inl rfl
    obtain ⟨t7', e⟩ := st_b2 W bs k hd' (some (.lst ys)) (some t2) t3 (some (.lst qL)) a7
    exact ⟨[some (.lst ys), some (.shr (jD bs J)), some t2, t3, some (.shr d), some (.shr (.int J.length)), some (.lst qL), a7, none, none, none, none], by simp, _, e, _, _, rfl⟩
  have e6 := ring_spec W bs (k + 3)
  have e7 := hr_spec W bs (k + 3)
  change F (k + 5) 22 _ = _ at e6
  change F (k + 5) 31 _ = _ at e7
  rw [F34]
  refine (runF_ret (ρ := [some (.lst ys), some (.shr (jD bs J)), some t2, t3, t4, some (.shr (.int J.length)), some (.lst qL), t7', none, none, none, none]) (t := .shr (.bool true)) ?_).trans rfl
  show evSs G.exm (F (k + 5)) [true, false] i_law_are_stands [some (.lst xs), some (.shr (jD bs J)), none, none, none, none, none, none, none, none, none, none] = _
  refine go_next (ρ1 := [some (.lst xs), some (.shr (jD bs J)), none, none, none, some (.shr (.int J.length)), some (.lst qL), none, none, none, none, none]) (z1 bs _ _) ?_
  refine go_next (ρ1 := [some (.lst ys), some (.shr (jD bs J)), some (.lst (natsD (srt (ddN vs)))), none, none, some (.shr (.int J.length)), some (.lst qL), none, none, none, none, none]) (z2 bs _ _ _ _ e1 e2) ?_
  refine go_next (go_iteF (ρ1 := [some (.lst ys), some (.shr (jD bs J)), some (.lst (natsD (srt (ddN vs)))), none, none, some (.shr (.int J.length)), some (.lst qL), none, none, none, none, none]) (z3 bs _ _ _ _ _ _ _ _ _ a1 a2 a3 a4 a5) go_nil) ?_
  refine go_next (go_for (ds := natsD [0, 1, 2]) (z4 _ _) e4) ?_
  refine go_next (go_for (ds := [.int 0, .int ((J.length : Int) - 1), .int J.length, .int (-1), .bool true, .none, .str "0", .tuple [.int 0]]) (z5 _ _ _ _ _ _ _ _ _) e5) ?_
  exact go_ret (z6 bs _ _ _ _ _ _ _ _ _ e6 e7)
end
end VS.K22
set_option Elab.async false
set_option linter.all false
set_option maxRecDepth 1000000
set_option maxHeartbeats 0
/-! K22: a joined machine drawn. -/
namespace VS.K22
open PySem PySem.Spec PyProof.Rows L2
theorem F28 (k : Nat) : F (k + 1) 28 = runF 8 fun lk => evSs G.exm (F k) lk i_law_drawn_joined := rfl
/-- rows of steps: sorted sets of pairs -/
theorem steps_of {n : Nat} : ∀ {xs : List D}, (∀ x ∈ xs, ∃ (l : Str) (v : Nat), l ∈ labels ∧ v < n ∧ x = stepD (l, v)) → ∃ r : List (Str × Nat), xs = r.map stepD ∧ ∀ p ∈ r, p.1 ∈ labels ∧ p.2 < n
  | [], _ => ⟨[], rfl, fun _ h => (nomatch h)⟩
  | x :: xs, h => by
    obtain ⟨l, v, hl, hv, rfl⟩ := h x (.head _)
    obtain ⟨r, rfl, hs⟩ := steps_of fun y hy => h y (.tail _ hy)
    exact ⟨(l, v) :: r, rfl, fun y hy => by
      rcases List.mem_cons.mp hy with e | e
      · rw [e]; exact ⟨hl, hv⟩
      · exact hs y e⟩
theorem sset_steps {n : Nat} {r : List (Str × Nat)} (h : ∀ p ∈ r, p.1 ∈ labels ∧ p.2 < n) (l : r.length ≤ 3) : ∃ r' : List (Str × Nat), opT .sset [.list (r.map stepD)] = some (.lst (r'.map stepD)) ∧ (∀ p ∈ r', p.1 ∈ labels ∧ p.2 < n) ∧ r'.length ≤ 3 := by
  have nk : ∀ x ∈ r.map stepD, nkAt 8 x = true := fun x hx => by
    obtain ⟨p, _, rfl⟩ := List.mem_map.mp hx
    rfl
  have a1 : (r.map stepD).all tupNE = true := List.all_eq_true.mpr fun x hx => by
    obtain ⟨p, _, rfl⟩ := List.mem_map.mp hx
    rfl
  have a2 : (r.map stepD).all (nkAt 8) = true := List.all_eq_true.mpr nk
  have a3 : alikes (r.map stepD) = true := List.all_eq_true.mpr fun x hx => List.all_eq_true.mpr fun y hy => by
    obtain ⟨p, _, rfl⟩ := List.mem_map.mp hx
    obtain ⟨q, _, rfl⟩ := List.mem_map.mp hy
    simp [PySem.W.alike, PySem.W.alikeAll]
  have a4 : (r.map stepD).all okD = true := List.all_eq_true.mpr fun x hx => by
    obtain ⟨p, hp, rfl⟩ := List.mem_map.mp hx
    exact ok_step (n := 58) (h p hp).1
  have e : opT .sset [.list (r.map stepD)] = some (.lst (sortD (dedup (r.map stepD)))) := by
    show (if _ then _ else _) = _
    rw [if_pos]
    rw [a1, a2, a3, a4, List.length_map, Bool.and_eq_true]
    exact ⟨by simp, decide_eq_true (by omega)⟩
  have pm : (sortD (dedup (r.map stepD))).Perm (dedup (r.map stepD)) := List.mergeSort_perm _ _
  have mem : ∀ x ∈ sortD (dedup (r.map stepD)), ∃ (l : Str) (v : Nat), l ∈ labels ∧ v < n ∧ x = stepD (l, v) := fun x hx => by
    have := (dedup_mem nk x).mp (pm.mem_iff.mp hx)
    obtain ⟨p, hp, rfl⟩ := List.mem_map.mp this
    exact ⟨p.1, p.2, (h p hp).1, (h p hp).2, rfl⟩
  obtain ⟨r', er, hr⟩ := steps_of mem
  refine ⟨r', by rw [e, er], hr, ?_⟩
  have l1 : (r'.map stepD).length ≤ (r.map stepD).length := by
    rw [← er, pm.length_eq]
    exact (dedup_nd _).length_le_of_subset fun x hx => (dedup_mem nk x).mp hx
  simpa using Nat.le_trans l1 (by simpa using l)
theorem v_dr (Φ : Nat → FS) : (ev Φ c_law_drawn_joined_2).o = mOpd (ev Φ c_law_drawn_joined_2).e := by unfold c_law_drawn_joined_2; rw [ev]; rfl
theorem o_dr3 (Φ : Nat → FS) : (ev Φ c_law_drawn_joined_3).o = mOpd (ev Φ c_law_drawn_joined_3).e := by unfold c_law_drawn_joined_3; rw [ev]; rfl
section
variable (Φ : Nat → FS) (take : ∀ {xs : List D}, Bag xs → ∀ (m : Nat), 0 < m → m < 1073741824 → ∃ (v : Nat) (ys : List D), v < m ∧ Bag ys ∧ Φ 24 [.lst xs, .shr (.int m)] = .ok (.shr (.int v)) [some (.lst ys), none])
  (some_ : ∀ {xs : List D}, Bag xs → ∀ (ts : List D), 0 < ts.length → ts.length < 1073741824 → ∃ (d : D) (ys : List D), d ∈ ts ∧ Bag ys ∧ Φ 25 [.lst xs, .lst ts] = .ok (.shr d) [some (.lst ys), some (.lst ts)])
include take some_
/-- labels drawn -/
theorem dr1 {xs : List D} (hb : Bag xs) (t1 t2 t3 t4 t5 : Option T) : ∃ (ls : List Str) (ys : List D), Bag ys ∧ (∀ l ∈ ls, l ∈ labels) ∧ ls.length ≤ 3 ∧
    (ev Φ c_law_drawn_joined_1).e [some (.lst xs), t1, t2, t3, t4, t5, none, none] = .ok (.lst (strsD ls)) [some (.lst ys), t1, t2, t3, t4, t5, none, none] := by
  obtain ⟨d, ys, hd, hy, e⟩ := some_ hb [.int 0, .int 1, .int 2, .int 2, .int 3] (by simp) (by simp)
  obtain ⟨n, hn, rfl⟩ : ∃ n : Nat, n ≤ 3 ∧ d = .int (n : Int) := by
    simp only [List.mem_cons, List.not_mem_nil, or_false] at hd
    rcases hd with rfl | rfl | rfl | rfl | rfl
    · exact ⟨0, by omega, rfl⟩
    · exact ⟨1, by omega, rfl⟩
    · exact ⟨2, by omega, rfl⟩
    · exact ⟨2, by omega, rfl⟩
    · exact ⟨3, by omega, rfl⟩
  have b2 := bnd62_nat (n := n) (by omega)
  obtain ⟨zs, ρ', e2, n2, p2, us, hu, rfl⟩ := mLc_inv (own := [6]) (tg := .name 6) (mt := VS.ret true) (me := (ev Φ (.call 25 (.cons (.slot 0) (.cons (.lst (.cons (.lit (.str "b0")) (.cons (.lit (.str "b1")) (.cons (.lit (.str "s0")) (.cons (.lit (.str "s1")) (.cons (.lit (.str "s2")) (.cons (.lit (.str "-")) .nil))))))) .nil)))).e)
    (it := evIt .rng1 (evs Φ (.cons (.call 25 (.cons (.slot 0) (.cons (.lst (.cons (.lit (.int 0)) (.cons (.lit (.int 1)) (.cons (.lit (.int 2)) (.cons (.lit (.int 2)) (.cons (.lit (.int 3)) .nil)))))) .nil))) .nil)))
    (ρ := [some (.lst xs), t1, t2, t3, t4, t5, none, none]) (ds := natsD (List.range n)) (ρ1 := [some (.lst ys), t1, t2, t3, t4, t5, none, none])
    (fun ρ => ∃ ys, Bag ys ∧ ρ = [some (.lst ys), t1, t2, t3, t4, t5, none, none]) (fun x => ∃ l : Str, l ∈ labels ∧ x = .str l)
    (by simp [ev, e, b2]) rfl ⟨ys, hy, rfl⟩ (fun d hd ρ ⟨us, hu, er⟩ => by
      subst er
      obtain ⟨w, zs, hw, hz, e3⟩ := some_ hu [.str "b0", .str "b1", .str "s0", .str "s1", .str "s2", .str "-"] (by simp) (by simp)
      refine ⟨w, [some (.lst zs), t1, t2, t3, t4, t5, none, none], ?_, ?_, zs, hz, rfl⟩
      · simp [turn, ev, e3]
      · obtain ⟨l, hl, rfl⟩ := List.mem_map.mp (show w ∈ labels.map PyData.str from hw)
        exact ⟨l, hl, rfl⟩) (by rw [nats_len, List.length_range]; exact Nat.le_trans (by omega : n ≤ 4096) (by decide))
  have : ∃ ls : List Str, zs = strsD ls ∧ ∀ l ∈ ls, l ∈ labels := by
    clear e2 n2
    induction zs with
    | nil => exact ⟨[], rfl, fun _ h => (nomatch h)⟩
    | cons z zs ih =>
      obtain ⟨l, hl, rfl⟩ := p2 z (.head _)
      obtain ⟨ls, rfl, hs⟩ := ih fun y hy => p2 y (.tail _ hy)
      exact ⟨l :: ls, rfl, fun y hy => by
        rcases List.mem_cons.mp hy with e | e
        · rw [e]; exact hl
        · exact hs y e⟩
  obtain ⟨ls, rfl, hl⟩ := this
  unfold strsD at n2
  rw [List.length_map, nats_len, List.length_range] at n2
  refine ⟨ls, us, hu, hl, by omega, ?_⟩
  unfold c_law_drawn_joined_1
  rw [ev, x_mke]
  exact e2
/-- steps drawn for labels -/
theorem dr2 {xs : List D} (hb : Bag xs) {n : Nat} (hn : 0 < n) (hn2 : n < 1000) {ls : List Str} (hl : ∀ l ∈ ls, l ∈ labels) (l3 : ls.length ≤ 3) (t1 t2 t4 : Option T) : ∃ (r : List (Str × Nat)) (ys : List D), Bag ys ∧ (∀ p ∈ r, p.1 ∈ labels ∧ p.2 < n) ∧ r.length ≤ 3 ∧
    (ev Φ c_law_drawn_joined_2).e [some (.lst xs), t1, t2, some (.shr (.int n)), t4, some (.lst (strsD ls)), none, none] = .ok (.lst (r.map stepD)) [some (.lst ys), t1, t2, some (.shr (.int n)), t4, some (.shr (.list (strsD ls))), none, none] := by
  obtain ⟨zs, ρ', e2, n2, p2, us, hu, rfl⟩ := mLc_inv (own := [7]) (tg := .name 7) (mt := VS.ret true) (me := (ev Φ (.tup (.cons (.slot 7) (.cons (.call 24 (.cons (.slot 0) (.cons (.slot 3) .nil))) .nil)))).e) (it := evIt .data (evs Φ (.cons (.slot 5) .nil)))
    (ρ := [some (.lst xs), t1, t2, some (.shr (.int n)), t4, some (.lst (strsD ls)), none, none]) (ds := strsD ls) (ρ1 := [some (.lst xs), t1, t2, some (.shr (.int n)), t4, some (.shr (.list (strsD ls))), none, none])
    (fun ρ => ∃ ys, Bag ys ∧ ρ = [some (.lst ys), t1, t2, some (.shr (.int n)), t4, some (.shr (.list (strsD ls))), none, none]) (fun x => ∃ (l : Str) (v : Nat), l ∈ labels ∧ v < n ∧ x = stepD (l, v))
    (by simp [ev]) rfl ⟨xs, hb, rfl⟩ (fun d hd ρ ⟨us, hu, er⟩ => by
      subst er
      obtain ⟨l, hl2, rfl⟩ := List.mem_map.mp hd
      obtain ⟨w, zs, hw, hz, e3⟩ := take hu n hn (by omega)
      refine ⟨stepD (l, w), [some (.lst zs), t1, t2, some (.shr (.int n)), t4, some (.shr (.list (strsD ls))), none, none], ?_, ⟨l, w, hl l hl2, hw, rfl⟩, zs, hz, rfl⟩
      simp [turn, ev, e3]) (by unfold strsD; rw [List.length_map]; exact Nat.le_trans (by omega : ls.length ≤ 4096) (by decide))
  obtain ⟨r, rfl, hr⟩ := steps_of p2
  unfold strsD at n2
  rw [List.length_map, List.length_map] at n2
  refine ⟨r, us, hu, hr, by omega, ?_⟩
  unfold c_law_drawn_joined_2
  rw [ev, x_mke]
  exact e2
/-- begins drawn -/
theorem dr3 {xs : List D} (hb : Bag xs) {n : Nat} (hn : 0 < n) (hn2 : n < 1000) {t1 : Option T} (h1 : t1 = none ∨ ∃ d, t1 = some (.shr d)) (t2 t4 t5 : Option T) : ∃ (vs : List Nat) (ys : List D), Bag ys ∧ (∀ v ∈ vs, v < n) ∧ vs.length ≤ 2 ∧
    (ev Φ c_law_drawn_joined_3).e [some (.lst xs), t1, t2, some (.shr (.int n)), t4, t5, none, none] = .ok (.lst (natsD vs)) [some (.lst ys), t1, t2, some (.shr (.int n)), t4, t5, none, none] := by
  obtain ⟨v, ys, hv, hy, e⟩ := take hb 2 (by omega) (by omega)
  change Φ 24 [.lst xs, .shr (.int 2)] = _ at e
  have b2 := bnd62_nat (n := 1 + v) (by omega)
  obtain ⟨zs, ρ', e2, n2, p2, us, hu, rfl⟩ := mLc_inv (own := [1]) (tg := .name 1) (mt := VS.ret true) (me := (ev Φ (.call 24 (.cons (.slot 0) (.cons (.slot 3) .nil)))).e) (it := evIt .rng1 (evs Φ (.cons (.op .add (.cons (.lit (.int 1)) (.cons (.call 24 (.cons (.slot 0) (.cons (.lit (.int 2)) .nil))) .nil))) .nil)))
    (ρ := [some (.lst xs), t1, t2, some (.shr (.int n)), t4, t5, none, none]) (ds := natsD (List.range (1 + v))) (ρ1 := [some (.lst ys), t1, t2, some (.shr (.int n)), t4, t5, none, none])
    (fun ρ => ∃ ys, Bag ys ∧ ρ = [some (.lst ys), none, t2, some (.shr (.int n)), t4, t5, none, none]) (fun x => ∃ v : Nat, v < n ∧ x = .int (v : Int))
    (by
      have b3 : bnd62 ((1 : Int) + (v : Int)) = true := by rw [show (1 : Int) + (v : Int) = ((1 + v : Nat) : Int) by omega]; exact b2
      have tn : ((1 : Int) + (v : Int)).toNat = 1 + v := by omega
      simp [ev, e, b3, tn]) (by rcases h1 with rfl | ⟨d, rfl⟩ <;> rfl) ⟨ys, hy, rfl⟩ (fun d hd ρ ⟨us, hu, er⟩ => by
      subst er
      obtain ⟨w, zs, hw, hz, e3⟩ := take hu n hn (by omega)
      refine ⟨.int w, [some (.lst zs), none, t2, some (.shr (.int n)), t4, t5, none, none], ?_, ⟨w, hw, rfl⟩, zs, hz, rfl⟩
      simp [turn, ev, e3]) (by rw [nats_len, List.length_range]; exact Nat.le_trans (by omega : 1 + v ≤ 4096) (by decide))
  obtain ⟨vs, rfl, hvs⟩ := nats_of p2
  rw [nats_len, nats_len, List.length_range] at n2
  refine ⟨vs, us, hu, hvs, by omega, ?_⟩
  unfold c_law_drawn_joined_3
  rw [ev, x_mke]
  exact e2
/-- one row -/
theorem dr_b {xs : List D} (hb : Bag xs) {n : Nat} (hn : 0 < n) (hn2 : n < 1000) (R : List (List (Str × Nat))) (hR : R.length < 100) (t1 t5 : Option T) : ∃ (r : List (Str × Nat)) (ys : List D) (t5' : Option T), Bag ys ∧ (∀ p ∈ r, p.1 ∈ labels ∧ p.2 < n) ∧ r.length ≤ 3 ∧
    evSs G.exm Φ [true] b_law_drawn_joined_1 [some (.lst xs), t1, none, some (.shr (.int n)), some (.lst (R.map rowD)), t5, none, none] = .ok .next [some (.lst ys), t1, none, some (.shr (.int n)), some (.lst ((R ++ [r]).map rowD)), t5', none, none] := by
  obtain ⟨ls, ys, hy, hl, l3, e1⟩ := dr1 Φ take some_ hb t1 none (some (.shr (.int n))) (some (.lst (R.map rowD))) t5
  obtain ⟨r, zs, hz, hr, r3, e2⟩ := dr2 Φ take some_ hy hn hn2 hl l3 t1 none (some (.lst (R.map rowD)))
  obtain ⟨r', e3, hr', r3'⟩ := sset_steps hr r3
  refine ⟨r', zs, some (.shr (.list (strsD ls))), hz, hr', r3', ?_⟩
  refine go_next (ρ1 := [some (.lst ys), t1, none, some (.shr (.int n)), some (.lst (R.map rowD)), some (.lst (strsD ls)), none, none]) (by rw [evS]; simp [e1]) ?_
  refine go_next (ρ1 := [some (.lst zs), t1, none, some (.shr (.int n)), some (.lst ((R ++ [r']).map rowD)), some (.shr (.list (strsD ls))), none, none]) ?_ go_nil
  have l4 : (R.map rowD).length < sizeLine := by rw [List.length_map]; exact Nat.lt_of_lt_of_le hR (by decide)
  rw [List.map_append]
  generalize R.map rowD = RR at *
  simp [evS, ev, v_dr, e2, e3, l4]
end
theorem drawn_spec (k : Nat) {xs : List D} (hb : Bag xs) : ∃ (bs : List Nat) (J : List (List (Str × Nat))) (ys : List D), Bag ys ∧ WJ J ∧ 0 < J.length ∧ St J bs ∧ F (k + 3) 28 [.lst xs] = .ok (.shr (jD bs J)) [some (.lst ys)] := by
  have take : ∀ {xs : List D}, Bag xs → ∀ (m : Nat), 0 < m → m < 1073741824 → ∃ (v : Nat) (ys : List D), v < m ∧ Bag ys ∧ F (k + 2) 24 [.lst xs, .shr (.int m)] = .ok (.shr (.int v)) [some (.lst ys), none] := fun hb m h1 h2 => take_spec (k + 1) hb m h1 h2
  have some_ : ∀ {xs : List D}, Bag xs → ∀ (ts : List D), 0 < ts.length → ts.length < 1073741824 → ∃ (d : D) (ys : List D), d ∈ ts ∧ Bag ys ∧ F (k + 2) 25 [.lst xs, .lst ts] = .ok (.shr d) [some (.lst ys), some (.lst ts)] := fun hb ts h1 h2 => some_spec k hb ts h1 h2
  rw [F28]
  generalize F (k + 2) = Φ at *
  obtain ⟨v, ys, hv, hy, e⟩ := take hb 4 (by omega) (by omega)
  change Φ 24 [.lst xs, .shr (.int 4)] = _ at e
  have en : (2 : Int) + (v : Int) = ((2 + v : Nat) : Int) := by omega
  generalize hn : 2 + v = n at en
  have b2 := bnd62_nat (n := n) (by omega)
  obtain ⟨fl, ρ2, e2, hfl, zs, R, t1, t5, hz, hR, lR, h1, rfl⟩ := for_inv (lk := [true]) (tg := .name 1) (b := evSs G.exm Φ [true] b_law_drawn_joined_1)
    (fun i ρ => ∃ zs R t1 t5, Bag zs ∧ (∀ r ∈ R, (∀ p ∈ r, p.1 ∈ labels ∧ p.2 < n) ∧ r.length ≤ 3) ∧ R.length = i ∧ (t1 = none ∨ ∃ d, t1 = some (.shr d)) ∧ ρ = [some (.lst zs), t1, none, some (.shr (.int n)), some (.lst (R.map rowD)), t5, none, none])
    (fun fl ρ => fl = .next ∧ ∃ zs R t1 t5, Bag zs ∧ (∀ r ∈ R, (∀ p ∈ r, p.1 ∈ labels ∧ p.2 < n) ∧ r.length ≤ 3) ∧ R.length = n ∧ (t1 = none ∨ ∃ d, t1 = some (.shr d)) ∧ ρ = [some (.lst zs), t1, none, some (.shr (.int n)), some (.lst (R.map rowD)), t5, none, none])
    (natsD (List.range n)) 0 [some (.lst ys), none, none, some (.shr (.int n)), some (.lst []), none, none, none] ⟨ys, [], none, none, hy, fun _ h => (nomatch h), rfl, .inl rfl, rfl⟩
    (fun j d ρ ej ⟨zs, R, t1, t5, hz, hR, lR, h1, er⟩ => by
      subst er
      have jl : j < n := by
        have := (List.getElem?_eq_some_iff.mp ej).1
        rw [nats_len, List.length_range] at this
        exact this
      obtain ⟨r, us, t5', hu, hr, r3, e3⟩ := dr_b Φ take some_ hz (n := n) (by omega) (by omega) R (by omega) (some (.shr d)) t5
      refine .next (ρ1 := [some (.lst zs), some (.shr d), none, some (.shr (.int n)), some (.lst (R.map rowD)), t5, none, none]) (by simp) e3 ⟨us, R ++ [r], _, t5', hu, fun x hx => ?_, by simp; omega, .inr ⟨d, rfl⟩, rfl⟩
      rcases List.mem_append.mp hx with q | q
      · exact hR x q
      · rw [List.mem_singleton.mp q]; exact ⟨hr, r3⟩)
    (fun ρ ⟨zs, R, t1, t5, hz, hR, lR, h1, er⟩ => ⟨rfl, zs, R, t1, t5, hz, hR, by rw [nats_len, List.length_range] at lR; omega, h1, er⟩)
  subst hfl
  obtain ⟨vs, us, hu, hvs, l2, e3⟩ := dr3 Φ take some_ hz (n := n) (by omega) (by omega) h1 none (some (.lst (R.map rowD))) t5
  have e4 := sset_nats (ns := vs) (by omega)
  have W : WJ R := ⟨fun r hr p hp => ((hR r hr).1 p hp).1, fun r hr p hp => by rw [lR]; exact ((hR r hr).1 p hp).2, by omega, fun r hr => (hR r hr).2⟩
  have st := st_srt W (ddN_nodup vs) fun s hs => by rw [lR]; exact hvs s (ddN_mem.mp hs)
  refine ⟨srt (ddN vs), R, us, hu, W, by omega, st, ?_⟩
  refine (runF_ret (ρ := [some (.lst us), t1, some (.shr (.tuple (natsD (srt (ddN vs))))), some (.shr (.int n)), some (.lst (R.map rowD)), t5, none, none]) (t := .shr (jD (srt (ddN vs)) R)) ?_).trans rfl
  show evSs G.exm Φ [true] i_law_drawn_joined [some (.lst xs), none, none, none, none, none, none, none] = _
  have l5 : R.length ≤ 4096 := by omega
  refine go_next (ρ1 := [some (.lst ys), none, none, some (.shr (.int n)), some (.lst []), none, none, none]) (by simp [evS, ev, e, en]) ?_
  refine go_next (go_for (ds := natsD (List.range n)) (by simp [ev, b2]) e2) ?_
  refine go_next (ρ1 := [some (.lst us), t1, some (.shr (.tuple (natsD (srt (ddN vs))))), some (.shr (.int n)), some (.lst (R.map rowD)), t5, none, none]) (by simp [evS, ev, o_dr3, e3, e4]) ?_
  refine go_ret ?_
  simp [evS, ev]
end VS.K22
set_option Elab.async false
set_option linter.all false
set_option maxRecDepth 1000000
set_option maxHeartbeats 0
/-! K22: rows of steps. -/
namespace VS.K22
open PySem PySem.Spec PyProof.Rows L2
theorem F11 (k : Nat) : F (k + 1) 11 = runF 3 fun lk => evSs G.exm (F k) lk i_bits_in := rfl
theorem F12 (k : Nat) : F (k + 1) 12 = runF 3 fun lk => evSs G.exm (F k) lk i_signs_in := rfl
theorem F13 (k : Nat) : F (k + 1) 13 = runF 5 fun lk => evSs G.exm (F k) lk i_is_way := rfl
theorem F14 (k : Nat) : F (k + 1) 14 = runF 2 fun lk => evSs G.exm (F k) lk i_end_of := rfl
theorem F15 (k : Nat) : F (k + 1) 15 = runF 3 fun lk => evSs G.exm (F k) lk i_is_run := rfl
theorem F16 (k : Nat) : F (k + 1) 16 = runF 3 fun lk => evSs G.exm (F k) lk i_begin_of := rfl
theorem F32 (k : Nat) : F (k + 1) 32 = runF 7 fun lk => evSs G.exm (F k) lk i_law_steps := rfl
theorem F33 (k : Nat) : F (k + 1) 33 = runF 4 fun lk => evSs G.exm (F k) lk i_law_goes := rfl
/-- steps as they may stand in a row -/
def Lb (Q : List (Str × Nat)) : Prop := ∀ p ∈ Q, p.1 ∈ labels ∧ p.2 < 64
theorem eqv_step (p q : Str × Nat) : PyData.eqv (stepD p) (stepD q) = decide (p = q) := by
  have e : PyData.eqv (stepD p) (stepD q) = (p.1 == q.1 && ((p.2 : Int) == (q.2 : Int) && true)) := by
    show PyData.eqv (.tuple [.str p.1, .int p.2]) (.tuple [.str q.1, .int q.2]) = _
    simp [PyData.eqv, PyData.eqvAll]
  rw [e]
  by_cases h : p = q
  · subst h; simp
  · rw [decide_eq_false h]
    by_cases h1 : p.1 = q.1
    · have h2 : ¬ p.2 = q.2 := fun z => h (Prod.ext h1 z)
      have : ((p.2 : Int) == (q.2 : Int)) = false := by rw [beq_eq_false_iff_ne]; omega
      rw [this]; simp
    · have : (p.1 == q.1) = false := beq_false_of_ne h1
      rw [this]; rfl
theorem in_row {r : List (Str × Nat)} (h : ∀ p ∈ r, p.1 ∈ labels) {p : Str × Nat} (hp : p.1 ∈ labels) : inT (stepD p) (rowD r) = some (decide (p ∈ r)) := by
  show (if _ then _ else _) = _
  rw [if_pos (by rw [ok_rowD h, show okD (stepD p) = true from ok_step (n := 58) hp]; rfl)]
  congr 1
  induction r with
  | nil => rfl
  | cons q r ih =>
    rw [List.map_cons, List.any_cons, ih fun x hx => h x (.tail _ hx), eqv_step]
    by_cases e : q = p
    · subst e; simp
    · have e2 : ¬ p = q := fun z => e z.symm
      simp [e, e2]
def goesB (J : List (List (Str × Nat))) : Nat → List (Str × Nat) → Bool
  | _, [] => true
  | h, p :: Q => decide (p ∈ J.getD h []) && goesB J p.2 Q
section
variable {J : List (List (Str × Nat))} (W : WJ J) (bs : List Nat)
include W
theorem wy_b (Φ : Nat → FS) (hc : ∀ n : Int, Φ 1 [.shr (.int n)] = .ok (.shr (.bool (decide (0 ≤ n)))) [none]) {h : Nat} (hh : h < J.length) {p : Str × Nat} (hp : p.1 ∈ labels) (t1 t2 : Option T) : evSs G.exm Φ [false, false, false] b_is_way_1 [some (.shr (jD bs J)), t1, t2, some (.shr (.int h)), some (.shr (stepD p))] =
    .ok (if p ∈ J[h] then .next else .ret (.shr (.bool false))) [some (.shr (jD bs J)), t1, t2, some (.shr (.int (if p ∈ J[h] then p.2 else h : Nat))), some (.shr (stepD p))] := by
  have e1 := hc p.2
  have e2 := in_row (fun p hp => W.lab _ (List.getElem_mem hh) p hp) hp
  have a1 : kitB (dTy (stepD p)) "tuple" = some true := rfl
  have a2 : kitB (dTy (.str p.1)) "str" = some true := rfl
  have ix := ix_row hh
  refine go_next (go_iteF (ρ1 := [some (.shr (jD bs J)), t1, t2, some (.shr (.int h)), some (.shr (stepD p))]) (by simp [ev, isCmp, a1, a2, e1]) go_nil) ?_
  by_cases c : p ∈ J[h]
  · rw [decide_eq_true c] at e2
    simp only [if_pos c]
    refine go_next (go_iteF (ρ1 := [some (.shr (jD bs J)), t1, t2, some (.shr (.int h)), some (.shr (stepD p))]) ?_ go_nil) ?_
    · generalize rowD J[h] = rr at *
      simp [ev, isCmp, ix, e2]
    · exact go_next (ρ1 := [some (.shr (jD bs J)), t1, t2, some (.shr (.int p.2)), some (.shr (stepD p))]) (by simp [evS, ev]) go_nil
  · rw [decide_eq_false c] at e2
    simp only [if_neg c]
    refine go_ret (go_iteT (ρ1 := [some (.shr (jD bs J)), t1, t2, some (.shr (.int h)), some (.shr (stepD p))]) ?_ (go_ret (by simp [evS, ev])))
    generalize rowD J[h] = rr at *
    simp [ev, isCmp, ix, e2]
theorem wy_l (Φ : Nat → FS) (hc : ∀ n : Int, Φ 1 [.shr (.int n)] = .ok (.shr (.bool (decide (0 ≤ n)))) [none]) (t1 t2 : Option T) : ∀ (Q : List (Str × Nat)) (h : Nat) (t4 : Option T), h < J.length → (∀ p ∈ Q, p.1 ∈ labels) → ∃ t3' t4', forL [false, false, false] (.name 4) (evSs G.exm Φ [false, false, false] b_is_way_1) (Q.map stepD) [some (.shr (jD bs J)), t1, t2, some (.shr (.int h)), t4] =
    .ok (if goesB J h Q then .next else .ret (.shr (.bool false))) [some (.shr (jD bs J)), t1, t2, t3', t4']
  | [], h, t4, _, _ => ⟨_, t4, rfl⟩
  | p :: Q, h, t4, hh, hl => by
    have e := wy_b W bs Φ hc hh (hl p (.head _)) t1 t2
    rw [List.map_cons]
    unfold goesB
    rw [getD_at hh]
    by_cases c : p ∈ J[h]
    · simp only [if_pos c] at e
      have lt := W.beh _ (List.getElem_mem hh) p c
      obtain ⟨t3', t4', e2⟩ := wy_l Φ hc t1 t2 Q p.2 (some (.shr (stepD p))) lt fun x hx => hl x (.tail _ hx)
      rw [for_next (ρ1 := [some (.shr (jD bs J)), t1, t2, some (.shr (.int h)), some (.shr (stepD p))]) (by simp) e, e2]
      exact ⟨t3', t4', by simp [c]⟩
    · simp only [if_neg c] at e
      rw [for_ret (ρ1 := [some (.shr (jD bs J)), t1, t2, some (.shr (.int h)), some (.shr (stepD p))]) (by simp) e]
      exact ⟨some (.shr (.int h)), some (.shr (stepD p)), by simp [c]⟩
/-- a thing that holds something odd -/
def oddE : D → Bool
  | .none => true
  | .tuple [_] => true
  | _ => false
theorem wy_odd (Φ : Nat → FS) (hc : ∀ n : Int, Φ 1 [.shr (.int n)] = .ok (.shr (.bool (decide (0 ≤ n)))) [none]) (t1 t2 : Option T) {x : D} (hx : oddE x = true) (rest : List D) : ∀ (Q : List (Str × Nat)) (h : Nat) (t4 : Option T), h < J.length → (∀ p ∈ Q, p.1 ∈ labels) → ∃ t3' t4', forL [false, false, false] (.name 4) (evSs G.exm Φ [false, false, false] b_is_way_1) (Q.map stepD ++ x :: rest) [some (.shr (jD bs J)), t1, t2, some (.shr (.int h)), t4] =
    .ok (.ret (.shr (.bool false))) [some (.shr (jD bs J)), t1, t2, t3', t4']
  | [], h, t4, hh, _ => by
    refine ⟨some (.shr (.int h)), some (.shr x), for_ret (ρ1 := [some (.shr (jD bs J)), t1, t2, some (.shr (.int h)), some (.shr x)]) (by simp) (go_ret (go_iteT (ρ1 := [some (.shr (jD bs J)), t1, t2, some (.shr (.int h)), some (.shr x)]) ?_ (go_ret (by simp [evS, ev]))))⟩
    cases x <;> simp [oddE] at hx
    · have a1 : kitB (dTy .none) "tuple" = some false := rfl
      simp [ev, isCmp, a1]
    · rename_i l
      match l, hx with
      | [y], _ =>
        have a1 : kitB (dTy (.tuple [y])) "tuple" = some true := rfl
        simp [ev, isCmp, a1]
  | p :: Q, h, t4, hh, hl => by
    have e := wy_b W bs Φ hc hh (hl p (.head _)) t1 t2
    rw [List.map_cons, List.cons_append]
    by_cases c : p ∈ J[h]
    · simp only [if_pos c] at e
      have lt := W.beh _ (List.getElem_mem hh) p c
      obtain ⟨t3', t4', e2⟩ := wy_odd Φ hc t1 t2 hx rest Q p.2 (some (.shr (stepD p))) lt fun x hx => hl x (.tail _ hx)
      rw [for_next (ρ1 := [some (.shr (jD bs J)), t1, t2, some (.shr (.int h)), some (.shr (stepD p))]) (by simp) e, e2]
      exact ⟨t3', t4', rfl⟩
    · simp only [if_neg c] at e
      rw [for_ret (ρ1 := [some (.shr (jD bs J)), t1, t2, some (.shr (.int h)), some (.shr (stepD p))]) (by simp) e]
      exact ⟨_, _, rfl⟩
theorem way_any (k : Nat) {h : Nat} (hh : h < J.length) {ds : List D} {g : Bool} (hl : ∃ t3' t4', forL [false, false, false] (.name 4) (evSs G.exm (F (k + 3)) [false, false, false] b_is_way_1) ds [some (.shr (jD bs J)), some (.shr (.int h)), some (.shr (.tuple ds)), some (.shr (.int h)), none] =
    .ok (if g then .next else .ret (.shr (.bool false))) [some (.shr (jD bs J)), some (.shr (.int h)), some (.shr (.tuple ds)), t3', t4']) : F (k + 4) 13 [.shr (jD bs J), .shr (.int h), .shr (.tuple ds)] = .ok (.shr (.bool g)) [none, none, none] := by
  obtain ⟨t3', t4', e⟩ := hl
  have e1 := is_stand_int k bs J h
  have hh' : (h : Int) < (J.length : Int) := by omega
  have a1 : kitB (dTy (.tuple ds)) "tuple" = some true := rfl
  rw [decide_eq_true hh', decide_eq_true (Int.natCast_nonneg h)] at e1
  rw [F13]
  generalize F (k + 3) = Φ at *
  refine (runF_ret (ρ := [some (.shr (jD bs J)), some (.shr (.int h)), some (.shr (.tuple ds)), t3', t4']) (t := .shr (.bool g)) ?_).trans rfl
  show evSs G.exm Φ [false, false, false] i_is_way [some (.shr (jD bs J)), some (.shr (.int h)), some (.shr (.tuple ds)), none, none] = _
  refine go_next (go_iteF (ρ1 := [some (.shr (jD bs J)), some (.shr (.int h)), some (.shr (.tuple ds)), none, none]) (by simp [ev, isCmp, a1, e1]) go_nil) ?_
  refine go_next (ρ1 := [some (.shr (jD bs J)), some (.shr (.int h)), some (.shr (.tuple ds)), some (.shr (.int h)), none]) (by simp [evS, ev]) ?_
  cases g with
  | true => exact go_next (go_for (ds := ds) (by simp [ev]) e) (go_ret (by simp [evS, ev]))
  | false => exact go_ret (go_for (ds := ds) (by simp [ev]) e)
theorem way_row (k : Nat) {h : Nat} (hh : h < J.length) {Q : List (Str × Nat)} (hl : ∀ p ∈ Q, p.1 ∈ labels) : F (k + 4) 13 [.shr (jD bs J), .shr (.int h), .shr (rowD Q)] = .ok (.shr (.bool (goesB J h Q))) [none, none, none] :=
  way_any W bs k hh (wy_l W bs _ (fun n => is_count_int (k + 1) n) _ _ Q h none hh hl)
theorem way_oddT (k : Nat) {h : Nat} (hh : h < J.length) {Q : List (Str × Nat)} (hl : ∀ p ∈ Q, p.1 ∈ labels) {x : D} (hx : oddE x = true) (rest : List D) : F (k + 4) 13 [.shr (jD bs J), .shr (.int h), .shr (.tuple (Q.map stepD ++ x :: rest))] = .ok (.shr (.bool false)) [none, none, none] :=
  way_any W bs k hh (wy_odd W bs _ (fun n => is_count_int (k + 1) n) _ _ hx rest Q h none hh hl)
theorem way_no (k : Nat) {h : Nat} {d : D} (hd : kitB (dTy d) "tuple" = some false) : F (k + 4) 13 [.shr (jD bs J), .shr (.int h), .shr d] = .ok (.shr (.bool false)) [none, none, none] := by
  rw [F13]
  generalize F (k + 3) = Φ at *
  refine (runF_ret (ρ := [some (.shr (jD bs J)), some (.shr (.int h)), some (.shr d), none, none]) (t := .shr (.bool false)) ?_).trans rfl
  show evSs G.exm Φ [false, false, false] i_is_way [some (.shr (jD bs J)), some (.shr (.int h)), some (.shr d), none, none] = _
  exact go_ret (go_iteT (ρ1 := [some (.shr (jD bs J)), some (.shr (.int h)), some (.shr d), none, none]) (by simp [ev, isCmp, hd]) (go_ret (by simp [evS, ev])))
end
end VS.K22
set_option Elab.async false
set_option linter.all false
set_option maxRecDepth 1000000
set_option maxHeartbeats 0
/-! K22: rows of steps, more. -/
namespace VS.K22
open PySem PySem.Spec PyProof.Rows L2
section
variable {J : List (List (Str × Nat))} (W : WJ J) (bs : List Nat)
include W
theorem go_l (Φ : Nat → FS) (t2 : Option T) : ∀ (Q : List (Str × Nat)) (h : Nat) (t3 : Option T), h < J.length → (∀ p ∈ Q, p.1 ∈ labels) → ∃ t1' t3', forL [false, false, false] (.name 3) (evSs G.exm Φ [false, false, false] b_law_goes_1) (Q.map stepD) [some (.shr (jD bs J)), some (.shr (.int h)), t2, t3] =
    .ok (if goesB J h Q then .next else .ret (.shr (.bool false))) [some (.shr (jD bs J)), t1', t2, t3']
  | [], h, t3, _, _ => ⟨_, t3, rfl⟩
  | p :: Q, h, t3, hh, hl => by
    have e2 := in_row (fun p hp => W.lab _ (List.getElem_mem hh) p hp) (hl p (.head _))
    have a1 : kitB (dTy (.int (h : Int))) "int" = some true := rfl
    have ix := ix_row hh
    rw [List.map_cons]
    unfold goesB
    rw [getD_at hh]
    by_cases c : p ∈ J[h]
    · rw [decide_eq_true c] at e2
      have lt := W.beh _ (List.getElem_mem hh) p c
      obtain ⟨t1', t3', e3⟩ := go_l Φ t2 Q p.2 (some (.shr (stepD p))) lt fun x hx => hl x (.tail _ hx)
      rw [for_next (ρ1 := [some (.shr (jD bs J)), some (.shr (.int h)), t2, some (.shr (stepD p))]) (ρ2 := [some (.shr (jD bs J)), some (.shr (.int p.2)), t2, some (.shr (stepD p))]) (by simp) ?_, e3]
      · exact ⟨t1', t3', by simp [c]⟩
      · refine go_next (go_iteF (ρ1 := [some (.shr (jD bs J)), some (.shr (.int h)), t2, some (.shr (stepD p))]) ?_ go_nil) (go_next (ρ1 := [some (.shr (jD bs J)), some (.shr (.int p.2)), t2, some (.shr (stepD p))]) (by simp [evS, ev]) go_nil)
        generalize rowD J[h] = rr at *
        simp [ev, isCmp, a1, ix, e2]
    · rw [decide_eq_false c] at e2
      rw [for_ret (ρ1 := [some (.shr (jD bs J)), some (.shr (.int h)), t2, some (.shr (stepD p))]) (ρ2 := [some (.shr (jD bs J)), some (.shr (.int h)), t2, some (.shr (stepD p))]) (t := .shr (.bool false)) (by simp) ?_]
      · exact ⟨some (.shr (.int h)), some (.shr (stepD p)), by simp [c]⟩
      · refine go_ret (go_iteT (ρ1 := [some (.shr (jD bs J)), some (.shr (.int h)), t2, some (.shr (stepD p))]) ?_ (go_ret (by simp [evS, ev])))
        generalize rowD J[h] = rr at *
        simp [ev, isCmp, a1, ix, e2]
theorem goes_spec (k : Nat) {h : Nat} (hh : h < J.length) {Q : List (Str × Nat)} (hl : ∀ p ∈ Q, p.1 ∈ labels) : F (k + 1) 33 [.shr (jD bs J), .shr (.int h), .shr (rowD Q)] = .ok (.shr (.bool (goesB J h Q))) [none, none, none] := by
  obtain ⟨t1', t3', e⟩ := go_l W bs (F k) (some (.shr (rowD Q))) Q h none hh hl
  rw [F33]
  generalize F k = Φ at *
  refine (runF_ret (ρ := [some (.shr (jD bs J)), t1', some (.shr (rowD Q)), t3']) (t := .shr (.bool (goesB J h Q))) ?_).trans rfl
  show evSs G.exm Φ [false, false, false] i_law_goes [some (.shr (jD bs J)), some (.shr (.int h)), some (.shr (rowD Q)), none] = _
  cases c : goesB J h Q <;> rw [c] at e
  · exact go_ret (go_for (ds := Q.map stepD) (by simp [ev]) e)
  · exact go_next (go_for (ds := Q.map stepD) (by simp [ev]) e) (go_ret (by simp [evS, ev]))
end
/-! ### what steps take and give -/
def bitN (p : Str × Nat) : Option Nat := if p.1 = "b0" then some 0 else if p.1 = "b1" then some 1 else none
def sigN (p : Str × Nat) : Option Nat := if p.1 = "s0" then some 0 else if p.1 = "s1" then some 1 else if p.1 = "s2" then some 2 else none
theorem filt_nats {g : D → Option D} {f : Str × Nat → Option Nat} : ∀ {P : List (Str × Nat)}, (∀ p ∈ P, g (stepD p) = (f p).map fun (n : Nat) => .int (n : Int)) → (P.map stepD).filterMap g = natsD (P.filterMap f)
  | [], _ => rfl
  | p :: P, h => by
    have ih := filt_nats (P := P) fun x hx => h x (.tail _ hx)
    have hp := h p (.head _)
    rw [List.map_cons]
    cases e : f p with
    | none => rw [e] at hp; rw [List.filterMap_cons_none hp, List.filterMap_cons_none e, ih]
    | some n => rw [e] at hp; rw [List.filterMap_cons_some hp, List.filterMap_cons_some e, ih]; rfl
/-- facts of a label: its table entries, its signs -/
structure LabF (s : Str) : Prop where
  bit : kd_BITS.lookup s = (bitN (s, 0)).map fun (n : Nat) => .int (n : Int)
  sig : kd_SIGNS_stands.lookup s = (sigN (s, 0)).map fun (n : Nat) => .int (n : Int)
  first : ∃ c, opT .idx [.str s, .int 0] = some (.shr (.str c)) ∧ okD (.str c) = true ∧ (c == "b") = (bitN (s, 0)).isSome ∧ (c == "s") = (sigN (s, 0)).isSome
  num : ∀ n, bitN (s, 0) = some n ∨ sigN (s, 0) = some n → ∃ c, opT .idx [.str s, .int 1] = some (.shr (.str c)) ∧ opT .int [.str c] = some (.shr (.int (n : Int)))
theorem labF {s : Str} (h : s ∈ labels) : LabF s := by
  simp only [labels, List.mem_cons, List.not_mem_nil, or_false] at h
  rcases h with rfl | rfl | rfl | rfl | rfl | rfl
  · refine ⟨by kernel_rfl, by kernel_rfl, ⟨"b", by kernel_rfl, by decide +kernel, by decide +kernel, by decide +kernel⟩, fun n hn => ?_⟩
    have a1 : bitN ((Str.ofString "b0" : Str), 0) = some 0 := by decide +kernel
    have a2 : sigN ((Str.ofString "b0" : Str), 0) = none := by decide +kernel
    rw [a1, a2] at hn
    rcases hn with hn | hn <;> cases hn
    exact ⟨"0", by kernel_rfl, by kernel_rfl⟩
  · refine ⟨by kernel_rfl, by kernel_rfl, ⟨"b", by kernel_rfl, by decide +kernel, by decide +kernel, by decide +kernel⟩, fun n hn => ?_⟩
    have a1 : bitN ((Str.ofString "b1" : Str), 0) = some 1 := by decide +kernel
    have a2 : sigN ((Str.ofString "b1" : Str), 0) = none := by decide +kernel
    rw [a1, a2] at hn
    rcases hn with hn | hn <;> cases hn
    exact ⟨"1", by kernel_rfl, by kernel_rfl⟩
  · refine ⟨by kernel_rfl, by kernel_rfl, ⟨"s", by kernel_rfl, by decide +kernel, by decide +kernel, by decide +kernel⟩, fun n hn => ?_⟩
    have a1 : bitN ((Str.ofString "s0" : Str), 0) = none := by decide +kernel
    have a2 : sigN ((Str.ofString "s0" : Str), 0) = some 0 := by decide +kernel
    rw [a1, a2] at hn
    rcases hn with hn | hn <;> cases hn
    exact ⟨"0", by kernel_rfl, by kernel_rfl⟩
  · refine ⟨by kernel_rfl, by kernel_rfl, ⟨"s", by kernel_rfl, by decide +kernel, by decide +kernel, by decide +kernel⟩, fun n hn => ?_⟩
    have a1 : bitN ((Str.ofString "s1" : Str), 0) = none := by decide +kernel
    have a2 : sigN ((Str.ofString "s1" : Str), 0) = some 1 := by decide +kernel
    rw [a1, a2] at hn
    rcases hn with hn | hn <;> cases hn
    exact ⟨"1", by kernel_rfl, by kernel_rfl⟩
  · refine ⟨by kernel_rfl, by kernel_rfl, ⟨"s", by kernel_rfl, by decide +kernel, by decide +kernel, by decide +kernel⟩, fun n hn => ?_⟩
    have a1 : bitN ((Str.ofString "s2" : Str), 0) = none := by decide +kernel
    have a2 : sigN ((Str.ofString "s2" : Str), 0) = some 2 := by decide +kernel
    rw [a1, a2] at hn
    rcases hn with hn | hn <;> cases hn
    exact ⟨"2", by kernel_rfl, by kernel_rfl⟩
  · refine ⟨by kernel_rfl, by kernel_rfl, ⟨"-", by kernel_rfl, by decide +kernel, by decide +kernel, by decide +kernel⟩, fun n hn => ?_⟩
    have a1 : bitN ((Str.ofString "-" : Str), 0) = none := by decide +kernel
    have a2 : sigN ((Str.ofString "-" : Str), 0) = none := by decide +kernel
    rw [a1, a2] at hn
    rcases hn with hn | hn <;> cases hn
def gN (f : Str × Nat → Option Nat) (d : D) : Option D := match d with
  | .tuple [.str s, .int i] => (f (s, i.toNat)).map fun (n : Nat) => .int (n : Int)
  | _ => none
theorem gN_step (f : Str × Nat → Option Nat) (p : Str × Nat) : gN f (stepD p) = (f p).map fun (n : Nat) => .int (n : Int) := by
  show (f (p.1, ((p.2 : Nat) : Int).toNat)).map _ = _
  rw [Int.toNat_natCast]
theorem bits_spec (k : Nat) {P : List (Str × Nat)} (hl : ∀ p ∈ P, p.1 ∈ labels) (l : P.length ≤ 100) : F (k + 1) 11 [.shr (rowD P)] = .ok (.shr (.tuple (natsD (P.filterMap bitN)))) [none] := by
  rw [F11]
  generalize F k = Φ at *
  have ec : (ev Φ c_bits_in_1).o [some (.shr (rowD P)), none, none] = .ok (.val (.list (natsD (P.filterMap bitN)))) [some (.shr (rowD P)), none, none] := by
    have e : (ev Φ c_bits_in_1).e [some (.shr (rowD P)), none, none] = .ok (.lst (natsD (P.filterMap bitN))) [some (.shr (rowD P)), none, none] := by
      unfold c_bits_in_1
      rw [ev, x_mke, ← filt_nats (g := gN bitN) fun p _ => gN_step bitN p]
      refine (mLc_pure (ds := P.map stepD) (ρ1 := [some (.shr (rowD P)), none, none]) (gN bitN) ?_ ?_ ?_ ?_).trans ?_
      · simp [ev]
      · rfl
      · intro d hd
        obtain ⟨p, hp, rfl⟩ := List.mem_map.mp hd
        have lf := (labF (hl p hp)).bit
        rw [gN_step]
        have e2 : bitN p = bitN (p.1, 0) := rfl
        rw [e2]
        cases c : bitN (p.1, 0) <;> rw [c] at lf <;> simp [turn, ev, lf]
      · rw [List.length_map]; exact Nat.le_trans (by omega : P.length ≤ 4096) (by decide)
      · rfl
    have o : (ev Φ c_bits_in_1).o = mOpd (ev Φ c_bits_in_1).e := by unfold c_bits_in_1; rw [ev]; rfl
    rw [o]; simp [e]
  refine (runF_ret (ρ := [some (.shr (rowD P)), none, none]) (t := .shr (.tuple (natsD (P.filterMap bitN)))) ?_).trans rfl
  show evSs G.exm Φ [false] i_bits_in [some (.shr (rowD P)), none, none] = _
  refine go_ret ?_
  simp [evS, ev, ec]
theorem signs_spec (k : Nat) {P : List (Str × Nat)} (hl : ∀ p ∈ P, p.1 ∈ labels) (l : P.length ≤ 100) : F (k + 1) 12 [.shr (rowD P)] = .ok (.shr (.tuple (natsD (P.filterMap sigN)))) [none] := by
  rw [F12]
  generalize F k = Φ at *
  have ec : (ev Φ c_signs_in_1).o [some (.shr (rowD P)), none, none] = .ok (.val (.list (natsD (P.filterMap sigN)))) [some (.shr (rowD P)), none, none] := by
    have e : (ev Φ c_signs_in_1).e [some (.shr (rowD P)), none, none] = .ok (.lst (natsD (P.filterMap sigN))) [some (.shr (rowD P)), none, none] := by
      unfold c_signs_in_1
      rw [ev, x_mke, ← filt_nats (g := gN sigN) fun p _ => gN_step sigN p]
      refine (mLc_pure (ds := P.map stepD) (ρ1 := [some (.shr (rowD P)), none, none]) (gN sigN) ?_ ?_ ?_ ?_).trans ?_
      · simp [ev]
      · rfl
      · intro d hd
        obtain ⟨p, hp, rfl⟩ := List.mem_map.mp hd
        have lf := (labF (hl p hp)).sig
        rw [gN_step]
        have e2 : sigN p = sigN (p.1, 0) := rfl
        rw [e2]
        cases c : sigN (p.1, 0) <;> rw [c] at lf <;> simp [turn, ev, lf]
      · rw [List.length_map]; exact Nat.le_trans (by omega : P.length ≤ 4096) (by decide)
      · rfl
    have o : (ev Φ c_signs_in_1).o = mOpd (ev Φ c_signs_in_1).e := by unfold c_signs_in_1; rw [ev]; rfl
    rw [o]; simp [e]
  refine (runF_ret (ρ := [some (.shr (rowD P)), none, none]) (t := .shr (.tuple (natsD (P.filterMap sigN)))) ?_).trans rfl
  show evSs G.exm Φ [false] i_signs_in [some (.shr (rowD P)), none, none] = _
  refine go_ret ?_
  simp [evS, ev, ec]
/-- the stand behind a row of steps -/
def endN (o : Nat) (P : List (Str × Nat)) : Nat := ((o :: P.map (·.2)).getLast?).getD 0
theorem at_last {xs : List D} {x : D} : atI (xs ++ [x]) (-1) = some x := by
  unfold atI ixN
  have h1 : ¬ (0 : Int) ≤ -1 := by decide
  have h2 : -((xs ++ [x]).length : Int) ≤ -1 := by simp; omega
  have h3 : ((-1 : Int) + ((xs ++ [x]).length : Int)).toNat = xs.length := by simp; omega
  have h4 : (0 : Int) ≤ -1 + ((xs ++ [x]).length : Int) := by simp; omega
  first
    | rw [if_neg h1, if_pos h2, h3]; simp
    | (rw [if_neg h1, if_pos h4, h3]; simp)
    | (simp only [if_neg h1]; simp)
theorem end_spec (k : Nat) (o : Nat) {P : List (Str × Nat)} (hl : ∀ p ∈ P, p.1 ∈ labels) : F (k + 1) 14 [.shr (.int o), .shr (rowD P)] = .ok (.shr (.int (endN o P))) [none, none] := by
  have ok := ok_rowD hl
  have ok0 : okD (.tuple []) = true := rfl
  rw [F14]
  generalize F k = Φ at *
  refine (runF_ret (ρ := [some (.shr (.int o)), some (.shr (rowD P))]) (t := .shr (.int (endN o P))) (go_ret ?_)).trans rfl
  show evS G.exm Φ [false, false] _ [some (.shr (.int o)), some (.shr (rowD P))] = _
  rcases List.eq_nil_or_concat P with rfl | ⟨P', p, rfl⟩
  · have ee : PyData.eqv (.tuple []) (.tuple []) = true := by simp [PyData.eqv, PyData.eqvAll]
    have e0 : rowD [] = .tuple [] := rfl
    rw [e0]
    simp [evS, ev, isCmp, ok0, ee, endN]
  · have ee : PyData.eqv (rowD (P'.concat p)) (.tuple []) = false := by
      cases P' <;> simp [PyData.eqv, PyData.eqvAll]
    have el : atI ((P'.concat p).map stepD) (-1) = some (stepD p) := by
      rw [List.concat_eq_append, List.map_append]
      exact at_last
    have en : endN o (P'.concat p) = p.2 := by
      unfold endN
      rw [List.concat_eq_append, List.map_append, ← List.cons_append, List.getLast?_append]
      rfl
    rw [en]
    have a1 : opT .idx [rowD (P'.concat p), .int (-1)] = some (.shr (stepD p)) := by
      show (atI _ _).map T.shr = _
      rw [el]; rfl
    have a2 : opT .idx [stepD p, .int 1] = some (.shr (.int p.2)) := rfl
    generalize rowD (P'.concat p) = rr at *
    simp [evS, ev, isCmp, ok, ok0, ee, a1, a2, -op_ixT]
end VS.K22
set_option Elab.async false
set_option linter.all false
set_option maxRecDepth 1000000
set_option maxHeartbeats 0
/-! K22: runs, begins; steps drawn. -/
namespace VS.K22
open PySem PySem.Spec PyProof.Rows L2
theorem any_bools (g : Nat → Bool) : ∀ bs : List Nat, mapO bit? (bs.map fun b => PyData.bool (g b)) = some (bs.map g)
  | [] => rfl
  | b :: bs => by rw [List.map_cons, x_mo1, any_bools g bs]; rfl
section
variable {J : List (List (Str × Nat))} (bs : List Nat) {d : D} {g : Nat → Bool}
theorem run_spec (k : Nat) (hg : ∀ b ∈ bs, F k 13 [.shr (jD bs J), .shr (.int (b : Int)), .shr d] = .ok (.shr (.bool (g b))) [none, none, none]) (l : bs.length ≤ 100) : F (k + 1) 15 [.shr (jD bs J), .shr d] = .ok (.shr (.bool (bs.any g))) [none, none] := by
  rw [F15]
  generalize F k = Φ at *
  have ec : (ev Φ c_is_run_1).o [some (.shr (jD bs J)), some (.shr d), none] = .ok (.val (.list (bs.map fun b => .bool (g b)))) [some (.shr (jD bs J)), some (.shr d), none] := by
    have e : (ev Φ c_is_run_1).e [some (.shr (jD bs J)), some (.shr d), none] = .ok (.lst (bs.map fun b => .bool (g b))) [some (.shr (jD bs J)), some (.shr d), none] := by
      unfold c_is_run_1
      rw [ev, x_mke]
      refine (mLc_pure (ds := natsD bs) (ρ1 := [some (.shr (jD bs J)), some (.shr d), none]) (fun x => match x with | .int i => some (.bool (g i.toNat)) | _ => none) ?_ ?_ ?_ ?_).trans ?_
      · simp [ev]
      · rfl
      · intro x hx
        obtain ⟨b, hb, rfl⟩ := nats_mem.mp hx
        have e1 := hg b hb
        generalize jD bs J = jj at *
        simp [turn, ev, e1]
      · rw [nats_len]; exact Nat.le_trans (by omega : bs.length ≤ 4096) (by decide)
      · rw [gif_nats (f := fun b => .bool (g b)) fun b _ => by simp]
        rfl
    have o : (ev Φ c_is_run_1).o = mOpd (ev Φ c_is_run_1).e := by unfold c_is_run_1; rw [ev]; rfl
    rw [o]; simp [e]
  refine (runF_ret (ρ := [some (.shr (jD bs J)), some (.shr d), none]) (t := .shr (.bool (bs.any g))) (go_ret ?_)).trans rfl
  show evS G.exm Φ [false, false] _ [some (.shr (jD bs J)), some (.shr d), none] = _
  have a1 : opT .any [.list (bs.map fun b => .bool (g b))] = some (.shr (.bool (bs.any g))) := by
    show (mapO bit? _).map _ = _
    rw [any_bools]
    simp
  simp [evS, ev, ec, a1]
theorem begin_l (Φ : Nat → FS) : ∀ (cs : List Nat) (t2 : Option T), (∀ b ∈ cs, Φ 13 [.shr (jD bs J), .shr (.int (b : Int)), .shr d] = .ok (.shr (.bool (g b))) [none, none, none]) → ∃ t2', forL [false, false] (.name 2) (evSs G.exm Φ [false, false] b_begin_of_1) (natsD cs) [some (.shr (jD bs J)), some (.shr d), t2] =
    .ok (match cs.filter g with | [] => .next | b :: _ => .ret (.shr (.int (b : Int)))) [some (.shr (jD bs J)), some (.shr d), t2']
  | [], t2, _ => ⟨t2, rfl⟩
  | b :: cs, t2, h => by
    have e1 := h b (.head _)
    rw [nats_cons]
    cases c : g b with
    | true =>
      rw [c] at e1
      rw [for_ret (ρ1 := [some (.shr (jD bs J)), some (.shr d), some (.shr (.int b))]) (ρ2 := [some (.shr (jD bs J)), some (.shr d), some (.shr (.int b))]) (t := .shr (.int (b : Int))) (by simp) ?_]
      · exact ⟨some (.shr (.int b)), by rw [List.filter_cons_of_pos c]⟩
      · generalize jD bs J = jj at *
        exact go_ret (go_iteT (ρ1 := [some (.shr jj), some (.shr d), some (.shr (.int b))]) (by simp [ev, e1]) (go_ret (by simp [evS, ev])))
    | false =>
      rw [c] at e1
      obtain ⟨t2', e2⟩ := begin_l Φ cs (some (.shr (.int b))) fun x hx => h x (.tail _ hx)
      rw [for_next (ρ1 := [some (.shr (jD bs J)), some (.shr d), some (.shr (.int b))]) (ρ2 := [some (.shr (jD bs J)), some (.shr d), some (.shr (.int b))]) (by simp) ?_, e2]
      · exact ⟨t2', by rw [List.filter_cons_of_neg (by rw [c]; decide)]⟩
      · generalize jD bs J = jj at *
        exact go_next (go_iteF (ρ1 := [some (.shr jj), some (.shr d), some (.shr (.int b))]) (by simp [ev, e1]) go_nil) go_nil
theorem begin_spec (k : Nat) (hg : ∀ b ∈ bs, F k 13 [.shr (jD bs J), .shr (.int (b : Int)), .shr d] = .ok (.shr (.bool (g b))) [none, none, none]) {b : Nat} {r : List Nat} (h : bs.filter g = b :: r) : F (k + 1) 16 [.shr (jD bs J), .shr d] = .ok (.shr (.int (b : Int))) [none, none] := by
  obtain ⟨t2', e⟩ := begin_l bs (F k) bs none hg
  rw [h] at e
  rw [F16]
  generalize F k = Φ at *
  refine (runF_ret (ρ := [some (.shr (jD bs J)), some (.shr d), t2']) (t := .shr (.int b)) ?_).trans rfl
  show evSs G.exm Φ [false, false] i_begin_of [some (.shr (jD bs J)), some (.shr d), none] = _
  exact go_ret (go_for (ds := natsD bs) (by simp [ev]) e)
theorem steps_at_out (k : Nat) {n : Nat} (h : ¬ n < J.length) : F (k + 4) 9 [.shr (jD bs J), .shr (.int n)] = .exn ⟨1, []⟩ [none, none] := by
  have e := is_stand_int k bs J n
  have h' : ¬ (n : Int) < (J.length : Int) := by omega
  rw [decide_eq_false h', Bool.and_false] at e
  rw [F9]
  generalize F (k + 3) = Φ at *
  refine (runF_exn (ρ := [some (.shr (jD bs J)), some (.shr (.int n))]) ?_).trans rfl
  show evSs G.exm Φ [false, false] i_steps_at [some (.shr (jD bs J)), some (.shr (.int n))] = _
  generalize jD bs J = jj at *
  exact go_exn (go_iteT (ρ1 := [some (.shr jj), some (.shr (.int n))]) (by simp [ev, e]) (go_exn (by simp [evS])))
end
/-! ### steps drawn -/
theorem endN_snoc (o : Nat) (P : List (Str × Nat)) (p : Str × Nat) : endN o (P ++ [p]) = p.2 := by
  unfold endN
  rw [List.map_append, ← List.cons_append, List.getLast?_append]
  rfl
theorem endN_cons (o : Nat) (p : Str × Nat) (P : List (Str × Nat)) : endN o (p :: P) = endN p.2 P := by
  unfold endN
  simp [List.getLast?_cons_cons]
theorem goes_snoc (J : List (List (Str × Nat))) : ∀ (P : List (Str × Nat)) (o : Nat) (p : Str × Nat), goesB J o (P ++ [p]) = (goesB J o P && decide (p ∈ J.getD (endN o P) []))
  | [], o, p => by simp [goesB, endN]
  | q :: P, o, p => by
    rw [List.cons_append]
    unfold goesB
    rw [goes_snoc J P q.2 p, endN_cons, Bool.and_assoc]
structure Dr (J : List (List (Str × Nat))) (o : Nat) (P : List (Str × Nat)) : Prop where
  lab : ∀ p ∈ P, p.1 ∈ labels
  lt : ∀ p ∈ P, p.2 < J.length
  go : goesB J o P = true
  at_ : endN o P < J.length
section
variable {J : List (List (Str × Nat))} (W : WJ J) (bs : List Nat)
include W
theorem steps_spec (k : Nat) {xs : List D} (hb : Bag xs) {o : Nat} (ho : o < J.length) : ∃ (P : List (Str × Nat)) (ys : List D), Bag ys ∧ Dr J o P ∧ P.length ≤ 6 ∧ F (k + 3) 32 [.lst xs, .shr (jD bs J), .shr (.int o), .shr (.int 6)] = .ok (.shr (rowD P)) [some (.lst ys), none, none, none] := by
  have some_ : ∀ {xs : List D}, Bag xs → ∀ (ts : List D), 0 < ts.length → ts.length < 1073741824 → ∃ (d : D) (ys : List D), d ∈ ts ∧ Bag ys ∧ F (k + 2) 25 [.lst xs, .lst ts] = .ok (.shr d) [some (.lst ys), some (.lst ts)] := fun hb ts h1 h2 => some_spec k hb ts h1 h2
  rw [F32]
  generalize F (k + 2) = Φ at *
  obtain ⟨fl, ρ2, e2, hfl, ys, P, t5, t6, hy, dr, l6, rfl⟩ := for_inv (lk := [true, false, false, false]) (tg := .name 5) (b := evSs G.exm Φ [true, false, false, false] b_law_steps_1)
    (fun i ρ => ∃ ys P t5 t6, Bag ys ∧ Dr J o P ∧ P.length ≤ i ∧ ρ = [some (.lst ys), some (.shr (jD bs J)), some (.shr (.int (endN o P : Nat))), some (.shr (.int 6)), some (.shr (rowD P)), t5, t6])
    (fun fl ρ => fl = .next ∧ ∃ ys P t5 t6, Bag ys ∧ Dr J o P ∧ P.length ≤ 6 ∧ ρ = [some (.lst ys), some (.shr (jD bs J)), some (.shr (.int (endN o P : Nat))), some (.shr (.int 6)), some (.shr (rowD P)), t5, t6])
    (natsD (List.range 6)) 0 [some (.lst xs), some (.shr (jD bs J)), some (.shr (.int o)), some (.shr (.int 6)), some (.shr (.tuple [])), none, none] ⟨xs, [], none, none, hb, ⟨fun _ h => (nomatch h), fun _ h => (nomatch h), rfl, ho⟩, Nat.le_refl _, rfl⟩
    (fun j d ρ ej ⟨ys, P, t5, t6, hy, dr, lj, er⟩ => by
      subst er
      have jl : j < 6 := by
        have := (List.getElem?_eq_some_iff.mp ej).1
        rw [nats_len, List.length_range] at this
        exact this
      have hh := dr.at_
      generalize eh : endN o P = h at *
      have ix := ix_row hh
      have ok := ok_rowD fun p hp => W.lab _ (List.getElem_mem hh) p hp
      have ok0 : okD (.tuple []) = true := rfl
      by_cases c : J[h] = []
      · have ee : PyData.eqv (rowD J[h]) (.tuple []) = true := by rw [c]; simp [PyData.eqv, PyData.eqvAll]
        refine .brk (ρ1 := [some (.lst ys), some (.shr (jD bs J)), some (.shr (.int h)), some (.shr (.int 6)), some (.shr (rowD P)), some (.shr d), t6]) (ρ2 := [some (.lst ys), some (.shr (jD bs J)), some (.shr (.int h)), some (.shr (.int 6)), some (.shr (rowD P)), some (.shr d), t6]) (by simp) ?_ ⟨rfl, ys, P, some (.shr d), t6, hy, dr, by omega, by rw [eh]⟩
        refine go_brk (go_iteT (ρ1 := [some (.lst ys), some (.shr (jD bs J)), some (.shr (.int h)), some (.shr (.int 6)), some (.shr (rowD P)), some (.shr d), t6]) ?_ (go_brk (by simp [evS])))
        generalize rowD J[h] = rr at *
        simp [ev, isCmp, ix, ok, ok0, ee]
      · have ee : PyData.eqv (rowD J[h]) (.tuple []) = false := by
          cases q : J[h] with
          | nil => exact absurd q c
          | cons x r => simp [PyData.eqv, PyData.eqvAll]
        obtain ⟨x, zs, hx, hz, e3⟩ := some_ hy (J[h].map stepD) (by rw [List.length_map]; exact List.length_pos_iff.mpr c) (by have := W.row _ (List.getElem_mem hh); rw [List.length_map]; omega)
        obtain ⟨p, hp, rfl⟩ := List.mem_map.mp hx
        have dr' : Dr J o (P ++ [p]) := ⟨fun q hq => by
            rcases List.mem_append.mp hq with z | z
            · exact dr.lab q z
            · rw [List.mem_singleton.mp z]; exact W.lab _ (List.getElem_mem hh) p hp, fun q hq => by
            rcases List.mem_append.mp hq with z | z
            · exact dr.lt q z
            · rw [List.mem_singleton.mp z]; exact W.beh _ (List.getElem_mem hh) p hp, by
            rw [goes_snoc, dr.go, eh, getD_at hh]; simpa using hp, by
            rw [endN_snoc]; exact W.beh _ (List.getElem_mem hh) p hp⟩
        refine .next (ρ1 := [some (.lst ys), some (.shr (jD bs J)), some (.shr (.int h)), some (.shr (.int 6)), some (.shr (rowD P)), some (.shr d), t6]) (ρ2 := [some (.lst zs), some (.shr (jD bs J)), some (.shr (.int p.2)), some (.shr (.int 6)), some (.shr (rowD (P ++ [p]))), some (.shr d), some (.shr (.str p.1))]) (by simp) ?_ ⟨zs, P ++ [p], _, _, hz, dr', by simp; omega, by rw [endN_snoc]⟩
        refine go_next (go_iteF (ρ1 := [some (.lst ys), some (.shr (jD bs J)), some (.shr (.int h)), some (.shr (.int 6)), some (.shr (rowD P)), some (.shr d), t6]) ?_ go_nil) ?_
        · generalize rowD J[h] = rr at *
          simp [ev, isCmp, ix, ok, ok0, ee]
        refine go_next (ρ1 := [some (.lst zs), some (.shr (jD bs J)), some (.shr (.int p.2)), some (.shr (.int 6)), some (.shr (rowD P)), some (.shr d), some (.shr (.str p.1))]) ?_ ?_
        · simp only [evS]
          simp [ev, ix, e3]
        · refine go_next (ρ1 := [some (.lst zs), some (.shr (jD bs J)), some (.shr (.int p.2)), some (.shr (.int 6)), some (.shr (rowD (P ++ [p]))), some (.shr d), some (.shr (.str p.1))]) ?_ go_nil
          have l2 : P.length + 1 ≤ 4096 := by omega
          show _ = R.ok Fl.next [some (.lst zs), some (.shr (jD bs J)), some (.shr (.int p.2)), some (.shr (.int 6)), some (.shr (.tuple ((P ++ [p]).map stepD))), some (.shr d), some (.shr (.str p.1))]
          rw [List.map_append]
          simp [evS, ev, l2])
    (fun ρ ⟨ys, P, t5, t6, hy, dr, l, er⟩ => ⟨rfl, ys, P, t5, t6, hy, dr, by rw [nats_len, List.length_range] at l; omega, er⟩)
  subst hfl
  refine ⟨P, ys, hy, dr, l6, ?_⟩
  refine (runF_ret (ρ := [some (.lst ys), some (.shr (jD bs J)), some (.shr (.int (endN o P : Nat))), some (.shr (.int 6)), some (.shr (rowD P)), t5, t6]) (t := .shr (rowD P)) ?_).trans rfl
  show evSs G.exm Φ [true, false, false, false] i_law_steps [some (.lst xs), some (.shr (jD bs J)), some (.shr (.int o)), some (.shr (.int 6)), none, none, none] = _
  have b2 : bnd62 6 = true := bnd62_nat (n := 6) (by omega)
  refine go_next (ρ1 := [some (.lst xs), some (.shr (jD bs J)), some (.shr (.int o)), some (.shr (.int 6)), some (.shr (.tuple [])), none, none]) (by simp [evS, ev]) ?_
  exact go_next (go_for (ds := natsD (List.range 6)) (by simp [ev, b2]) e2) (go_ret (by simp [evS, ev]))
end
end VS.K22
set_option Elab.async false
set_option linter.all false
set_option maxRecDepth 1000000
set_option maxHeartbeats 0
/-! K22: _law_are_ways, one bent thing. -/
namespace VS.K22
open PySem PySem.Spec PyProof.Rows L2
/-- the slots -/
abbrev wE (t0 : Option T) (jj : D) (o : Nat) (t3 t4 : Option T) (d : D) (t6 t7 t8 t9 : Option T) : Env := [t0, some (.shr jj), some (.shr (.int (o : Int))), t3, t4, some (.shr d), t6, t7, t8, t9, none, none, none]
theorem any_filter (g : Nat → Bool) : ∀ bs : List Nat, bs.any g = !(bs.filter g).isEmpty
  | [] => rfl
  | b :: bs => by
    rw [List.any_cons]
    cases c : g b with
    | true => rw [List.filter_cons_of_pos c]; rfl
    | false => rw [List.filter_cons_of_neg (by rw [c]; decide), any_filter g bs]; rfl
theorem filt_natsF (g : Nat → Bool) : ∀ bs : List Nat, (natsD bs).filterMap (fun x => match x with | .int i => if g i.toNat then some (.int i) else none | _ => none) = natsD (bs.filter g)
  | [] => rfl
  | b :: bs => by
    rw [nats_cons]
    cases c : g b with
    | true => rw [List.filterMap_cons_some (b := .int (b : Int)) (by simp [c]), filt_natsF g bs, List.filter_cons_of_pos c]; rfl
    | false => rw [List.filterMap_cons_none (by simp [c]), filt_natsF g bs, List.filter_cons_of_neg (by rw [c]; decide)]
section
variable {J : List (List (Str × Nat))} (bs : List Nat) (Φ : Nat → FS) {d : D} {due : Bool} {g : Nat → Bool}
theorem wc5 (hb : ∀ b ∈ bs, due = true → Φ 33 [.shr (jD bs J), .shr (.int (b : Int)), .shr d] = .ok (.shr (.bool (g b))) [none, none, none]) (l : bs.length ≤ 100) (t0 : Option T) (o : Nat) (t3 t4 t6 t7 t9 : Option T) :
    (ev Φ c_law_are_ways_5).e (wE t0 (jD bs J) o t3 t4 d t6 t7 (some (.shr (.bool due))) t9) = .ok (.lst (natsD (bs.filter fun b => due && g b))) (wE t0 (jD bs J) o t3 t4 d t6 t7 (some (.shr (.bool due))) t9) := by
  unfold c_law_are_ways_5
  rw [ev, x_mke, ← filt_natsF]
  refine (mLc_pure (ds := natsD bs) (ρ1 := wE t0 (jD bs J) o t3 t4 d t6 t7 (some (.shr (.bool due))) t9) (fun x => match x with | .int i => if due && g i.toNat then some (.int i) else none | _ => none) ?_ ?_ ?_ ?_).trans ?_
  · simp [ev]
  · rfl
  · intro x hx
    obtain ⟨b, hb', rfl⟩ := nats_mem.mp hx
    cases due with
    | false => 
      generalize jD bs J = jj at *
      simp [turn, ev]
    | true =>
      have e1 := hb b hb' rfl
      generalize jD bs J = jj at *
      cases c : g b <;> rw [c] at e1 <;> simp [turn, ev, e1, c]
  · rw [nats_len]; exact Nat.le_trans (by omega : bs.length ≤ 4096) (by decide)
  · rfl
theorem ways_b (h8 : ∀ t8 t9, (ev Φ (.and (.op (.isi "tuple") (.cons (.slot 5) .nil)) (.one (.op .eq (.cons c_law_are_ways_4 (.cons (.lst .nil) .nil)))))).e (wE t0 (jD bs J) o t3 t4 d t6 t7 t8 t9) = .ok (.shr (.bool due)) (wE t0 (jD bs J) o t3 t4 d t6 t7 t8 t9))
    (h13 : Φ 13 [.shr (jD bs J), .shr (.int (o : Int)), .shr d] = .ok (.shr (.bool (g o))) [none, none, none]) (h33 : due = true → Φ 33 [.shr (jD bs J), .shr (.int (o : Int)), .shr d] = .ok (.shr (.bool (g o))) [none, none, none]) (hno : due = false → ∀ b, g b = false)
    (hb : ∀ b ∈ bs, due = true → Φ 33 [.shr (jD bs J), .shr (.int (b : Int)), .shr d] = .ok (.shr (.bool (g b))) [none, none, none]) (l : bs.length ≤ 100)
    (h15 : Φ 15 [.shr (jD bs J), .shr d] = .ok (.shr (.bool (bs.any g))) [none, none]) (h16 : ∀ b r, bs.filter g = b :: r → Φ 16 [.shr (jD bs J), .shr d] = .ok (.shr (.int (b : Int))) [none, none]) (t8 t9 : Option T) :
    ∃ t8' t9', evSs G.exm Φ [true, false] b_law_are_ways_1 (wE t0 (jD bs J) o t3 t4 d t6 t7 t8 t9) = .ok .next (wE t0 (jD bs J) o t3 t4 d t6 t7 t8' t9') := by
  have e5 := fun t9 => wc5 bs Φ hb l t0 o t3 t4 t6 t7 t9
  have ef : (bs.filter fun b => due && g b) = bs.filter g := by
    cases due with
    | true => simp
    | false =>
      have : bs.filter g = [] := List.filter_eq_nil_iff.mpr fun b _ => by rw [hno rfl b]; decide
      rw [this]; simp
  rw [ef] at e5
  have ok : okD (.list (natsD (bs.filter g))) = true := ok_nlist _
  have ok0 : okD (.list []) = true := rfl
  have ee : PyData.eqv (.list (natsD (bs.filter g))) (.list []) = (bs.filter g).isEmpty := by
    cases bs.filter g <;> simp [PyData.eqv, PyData.eqvAll, nats_cons]
  rw [any_filter] at h15
  refine ⟨some (.shr (.bool due)), some (.lst (natsD (bs.filter g))), ?_⟩
  refine go_next (ρ1 := wE t0 (jD bs J) o t3 t4 d t6 t7 (some (.shr (.bool due))) t9) ?_ ?_
  · rw [evS, x_set, x_bnd, h8]
    simp
  refine go_next (ρ1 := wE t0 (jD bs J) o t3 t4 d t6 t7 (some (.shr (.bool due))) (some (.lst (natsD (bs.filter g))))) ?_ ?_
  · rw [evS, x_set, x_bnd, e5]
    simp
  generalize hL : bs.filter g = L at *
  generalize jD bs J = jj at *
  refine go_next (go_iteF (ρ1 := wE t0 jj o t3 t4 d t6 t7 (some (.shr (.bool due))) (some (.lst (natsD L)))) ?_ go_nil) ?_
  · cases due with
    | true =>
      have h33' := h33 rfl
      simp [ev, isCmp, h13, h33', h15, ok, ok0, ee]
    | false =>
      have n := hno rfl o
      rw [n] at h13
      simp [ev, isCmp, h13, h15, ok, ok0, ee]
  refine go_next (go_iteF (ρ1 := wE t0 jj o t3 t4 d t6 t7 (some (.shr (.bool due))) (some (.lst (natsD L)))) ?_ go_nil) go_nil
  cases L with
  | nil =>
    have ee0 : PyData.eqv (.list []) (.list []) = true := by simp [PyData.eqv, PyData.eqvAll]
    simp [ev, isCmp, ok0, ee0]
  | cons b r =>
    have e16 := h16 b r rfl
    have ix : atI (natsD (b :: r)) 0 = some (.int (b : Int)) := by rw [nats_cons]; exact x_ix0 _ _
    have ee' : PyData.eqv (.list (natsD (b :: r))) (.list []) = false := ee
    simp [ev, isCmp, e16, ok, ok0, ee', ix]
end
/-! ### what is due of a thing -/
theorem o_wc4 (Φ : Nat → FS) : (ev Φ c_law_are_ways_4).o = mOpd (ev Φ c_law_are_ways_4).e := by unfold c_law_are_ways_4; rw [ev]; rfl
def gO (d : D) : Option D := match d with
  | .tuple [_, _] => none
  | d => some d
theorem turn4 (Φ : Nat → FS) (t0 t1 t2 t3 t4 t5 t6 t7 t8 t9 : Option T) {x : D} (h : oddE x = true ∨ ∃ p : Str × Nat, x = stepD p) : turn [10] (.name 10) (evIf (evs Φ (.cons (.or (.not (.op (.isi "tuple") (.cons (.slot 10) .nil))) (.one (.op .ne (.cons (.op .len (.cons (.slot 10) .nil)) (.cons (.lit (.int 2)) .nil))))) .nil))) (ev Φ (.slot 10)).e x [t0, t1, t2, t3, t4, t5, t6, t7, t8, t9, none, none, none] =
    .ok (gO x) [t0, t1, t2, t3, t4, t5, t6, t7, t8, t9, none, none, none] := by
  rcases h with h | ⟨p, rfl⟩
  · cases x <;> simp [oddE] at h
    · have a1 : kitB (dTy .none) "tuple" = some false := rfl
      simp [turn, ev, isCmp, a1, gO]
    · rename_i l
      match l, h with
      | [y], _ =>
        have a1 : kitB (dTy (.tuple [y])) "tuple" = some true := rfl
        simp [turn, ev, isCmp, a1, gO]
  · have a1 : kitB (dTy (stepD p)) "tuple" = some true := rfl
    simp [turn, ev, isCmp, a1, gO]
theorem wc4 (Φ : Nat → FS) (t0 t1 t2 t3 t4 t6 t7 t8 t9 : Option T) {ds : List D} (h : ∀ x ∈ ds, oddE x = true ∨ ∃ p : Str × Nat, x = stepD p) (l : ds.length ≤ 100) : (ev Φ c_law_are_ways_4).e [t0, t1, t2, t3, t4, some (.shr (.tuple ds)), t6, t7, t8, t9, none, none, none] = .ok (.lst (ds.filterMap gO)) [t0, t1, t2, t3, t4, some (.shr (.tuple ds)), t6, t7, t8, t9, none, none, none] := by
  unfold c_law_are_ways_4
  rw [ev, x_mke]
  refine (mLc_pure (ds := ds) (ρ1 := [t0, t1, t2, t3, t4, some (.shr (.tuple ds)), t6, t7, t8, t9, none, none, none]) gO ?_ ?_ ?_ ?_).trans ?_
  · simp [ev]
  · rfl
  · intro x hx
    exact turn4 Φ t0 t1 t2 t3 t4 _ t6 t7 t8 t9 (h x hx)
  · exact Nat.le_trans (by omega : ds.length ≤ 4096) (by decide)
  · rfl
theorem gO_steps (Q : List (Str × Nat)) : (Q.map stepD).filterMap gO = [] := by
  induction Q with
  | nil => rfl
  | cons q Q ih => rw [List.map_cons, List.filterMap_cons_none (show gO (stepD q) = none from rfl), ih]
theorem due_row (Φ : Nat → FS) (t0 t1 t2 t3 t4 t6 t7 t8 t9 : Option T) {Q : List (Str × Nat)} (l : Q.length ≤ 100) : (ev Φ (.and (.op (.isi "tuple") (.cons (.slot 5) .nil)) (.one (.op .eq (.cons c_law_are_ways_4 (.cons (.lst .nil) .nil)))))).e [t0, t1, t2, t3, t4, some (.shr (rowD Q)), t6, t7, t8, t9, none, none, none] =
    .ok (.shr (.bool true)) [t0, t1, t2, t3, t4, some (.shr (rowD Q)), t6, t7, t8, t9, none, none, none] := by
  have e := wc4 Φ t0 t1 t2 t3 t4 t6 t7 t8 t9 (ds := Q.map stepD) (fun x hx => by obtain ⟨p, _, rfl⟩ := List.mem_map.mp hx; exact .inr ⟨p, rfl⟩) (by rw [List.length_map]; exact l)
  rw [gO_steps] at e
  have a1 : kitB (dTy (rowD Q)) "tuple" = some true := rfl
  have ok0 : okD (.list []) = true := rfl
  have ee : PyData.eqv (.list []) (.list []) = true := by simp [PyData.eqv, PyData.eqvAll]
  have e' : (ev Φ c_law_are_ways_4).e [t0, t1, t2, t3, t4, some (.shr (rowD Q)), t6, t7, t8, t9, none, none, none] = .ok (.lst []) [t0, t1, t2, t3, t4, some (.shr (rowD Q)), t6, t7, t8, t9, none, none, none] := e
  generalize rowD Q = rr at *
  simp [ev, isCmp, o_wc4, a1, e', ok0, ee]
theorem due_odd (Φ : Nat → FS) (t0 t1 t2 t3 t4 t6 t7 t8 t9 : Option T) {Q Q2 : List (Str × Nat)} {x : D} (hx : oddE x = true) (ok : okD (.list [x]) = true) (l : Q.length + Q2.length ≤ 90) : (ev Φ (.and (.op (.isi "tuple") (.cons (.slot 5) .nil)) (.one (.op .eq (.cons c_law_are_ways_4 (.cons (.lst .nil) .nil)))))).e [t0, t1, t2, t3, t4, some (.shr (.tuple (Q.map stepD ++ x :: Q2.map stepD))), t6, t7, t8, t9, none, none, none] =
    .ok (.shr (.bool false)) [t0, t1, t2, t3, t4, some (.shr (.tuple (Q.map stepD ++ x :: Q2.map stepD))), t6, t7, t8, t9, none, none, none] := by
  have e := wc4 Φ t0 t1 t2 t3 t4 t6 t7 t8 t9 (ds := Q.map stepD ++ x :: Q2.map stepD) (fun y hy => by
    rcases List.mem_append.mp hy with z | z
    · obtain ⟨p, _, rfl⟩ := List.mem_map.mp z; exact .inr ⟨p, rfl⟩
    · rcases List.mem_cons.mp z with q | q
      · rw [q]; exact .inl hx
      · obtain ⟨p, _, rfl⟩ := List.mem_map.mp q; exact .inr ⟨p, rfl⟩) (by simp; omega)
  have eg : gO x = some x := by
    cases x <;> simp [oddE] at hx
    · rfl
    · rename_i l
      match l, hx with
      | [y], _ => rfl
  rw [List.filterMap_append, gO_steps, List.filterMap_cons_some eg, gO_steps] at e
  have a1 : kitB (dTy (.tuple (Q.map stepD ++ x :: Q2.map stepD))) "tuple" = some true := rfl
  have ok0 : okD (.list []) = true := rfl
  have ee : PyData.eqv (.list [x]) (.list []) = false := by simp [PyData.eqv, PyData.eqvAll]
  generalize PyData.tuple (Q.map stepD ++ x :: Q2.map stepD) = rr at *
  simp [ev, isCmp, o_wc4, a1, e, ok, ok0, ee]
theorem due_no (Φ : Nat → FS) (t0 t1 t2 t3 t4 t6 t7 t8 t9 : Option T) {d : D} (a1 : kitB (dTy d) "tuple" = some false) : (ev Φ (.and (.op (.isi "tuple") (.cons (.slot 5) .nil)) (.one (.op .eq (.cons c_law_are_ways_4 (.cons (.lst .nil) .nil)))))).e [t0, t1, t2, t3, t4, some (.shr d), t6, t7, t8, t9, none, none, none] =
    .ok (.shr (.bool false)) [t0, t1, t2, t3, t4, some (.shr d), t6, t7, t8, t9, none, none, none] := by
  simp [ev, isCmp, a1]
end VS.K22
set_option Elab.async false
set_option linter.all false
set_option maxRecDepth 1000000
set_option maxHeartbeats 0
/-! K22: _law_are_ways. -/
namespace VS.K22
open PySem PySem.Spec PyProof.Rows L2
theorem F36 (k : Nat) : F (k + 1) 36 = runF 13 fun lk => evSs G.exm (F k) lk i_law_are_ways := rfl
/-- the bent things -/
inductive Bent : D → Prop where
  | row (Q : List (Str × Nat)) : (∀ p ∈ Q, p.1 ∈ labels) → Q.length ≤ 60 → Bent (rowD Q)
  | odd (Q Q2 : List (Str × Nat)) (x : D) : (∀ p ∈ Q, p.1 ∈ labels) → oddE x = true → okD (.list [x]) = true → Q.length + Q2.length ≤ 60 → Bent (.tuple (Q.map stepD ++ x :: Q2.map stepD))
  | no (d : D) : kitB (dTy d) "tuple" = some false → Bent d
theorem any_no (bs : List Nat) : bs.any (fun _ => false) = false := by induction bs <;> simp_all
theorem bent_b {J : List (List (Str × Nat))} (W : WJ J) (bs : List Nat) (hbs : St J bs) (k : Nat) {o : Nat} (ho : o < J.length) {d : D} (h : Bent d) (t0 t3 t4 t6 t7 t8 t9 : Option T) :
    ∃ t8' t9', evSs G.exm (F (k + 5)) [true, false] b_law_are_ways_1 (wE t0 (jD bs J) o t3 t4 d t6 t7 t8 t9) = .ok .next (wE t0 (jD bs J) o t3 t4 d t6 t7 t8' t9') := by
  have l5 := hbs.len
  cases h with
  | row Q hl l =>
    refine ways_b bs (F (k + 5)) (due := true) (g := fun b => goesB J b Q) (fun t8 t9 => due_row _ _ _ _ _ _ _ _ _ _ (by omega)) (way_row W bs (k + 1) ho hl) (fun _ => goes_spec W bs (k + 4) ho hl) (fun h => by cases h) (fun b hb _ => goes_spec W bs (k + 4) (hbs.lt b hb) hl) (by omega)
      (run_spec bs (k + 4) (fun b hb => way_row W bs k (hbs.lt b hb) hl) (by omega)) (fun b r e => begin_spec bs (k + 4) (fun b hb => way_row W bs k (hbs.lt b hb) hl) e) t8 t9
  | odd Q Q2 x hl hx ok l =>
    refine ways_b bs (F (k + 5)) (due := false) (g := fun b => false) (fun t8 t9 => due_odd _ _ _ _ _ _ _ _ _ _ hx ok (by omega)) (way_oddT W bs (k + 1) ho hl hx _) (fun h => by cases h) (fun _ _ => rfl) (fun b hb h => by cases h) (by omega)
      (run_spec bs (k + 4) (fun b hb => way_oddT W bs k (hbs.lt b hb) hl hx _) (by omega)) (fun b r e => by
        have z : bs.filter (fun _ => false) = [] := List.filter_eq_nil_iff.mpr fun _ _ => by decide
        rw [z] at e; cases e) t8 t9
  | no d a1 =>
    refine ways_b bs (F (k + 5)) (due := false) (g := fun b => false) (fun t8 t9 => due_no _ _ _ _ _ _ _ _ _ _ a1) (way_no W bs (k + 1) a1) (fun h => by cases h) (fun _ _ => rfl) (fun b hb h => by cases h) (by omega)
      (run_spec bs (k + 4) (fun b hb => way_no W bs k a1) (by omega)) (fun b r e => by
        have z : bs.filter (fun _ => false) = [] := List.filter_eq_nil_iff.mpr fun _ _ => by decide
        rw [z] at e; cases e) t8 t9
theorem cut_steps (P : List (Str × Nat)) (lo hi : Option Int) : ∃ Q : List (Str × Nat), cutL (P.map stepD) lo hi = Q.map stepD ∧ (∀ p ∈ Q, p ∈ P) ∧ Q.length ≤ P.length := by
  unfold cutL
  rw [List.length_map]
  refine ⟨_, by rw [← List.map_drop, ← List.map_take], fun p hp => List.mem_of_mem_drop (List.mem_of_mem_take hp), ?_⟩
  rw [List.length_take, List.length_drop]
  omega
theorem bent_put {P Q1 Q2 : List (Str × Nat)} (hP : ∀ p ∈ P, p.1 ∈ labels) (h1 : ∀ p ∈ Q1, p ∈ P) (h2 : ∀ p ∈ Q2, p ∈ P) (l1 : Q1.length ≤ 20) (l2 : Q2.length ≤ 20) {x : D} (hx : x ∈ [.tuple [.str "b0", .int 0], .tuple [.str "s1", .int 1], .tuple [.str "-", .int 9], .none, .tuple [.str "b0"]]) : Bent (.tuple (Q1.map stepD ++ [x] ++ Q2.map stepD)) := by
  have row : ∀ q : Str × Nat, q.1 ∈ labels → Bent (.tuple (Q1.map stepD ++ [stepD q] ++ Q2.map stepD)) := fun q hq => by
    have e : (.tuple (Q1.map stepD ++ [stepD q] ++ Q2.map stepD) : D) = rowD (Q1 ++ [q] ++ Q2) := by simp
    rw [e]
    refine .row _ (fun p hp => ?_) (by simp; omega)
    rcases List.mem_append.mp hp with z | z
    · rcases List.mem_append.mp z with z | z
      · exact hP p (h1 p z)
      · rw [List.mem_singleton.mp z]; exact hq
    · exact hP p (h2 p z)
  have od : ∀ x : D, oddE x = true → okD (.list [x]) = true → Bent (.tuple (Q1.map stepD ++ [x] ++ Q2.map stepD)) := fun x a b => by
    rw [List.append_assoc]
    exact .odd Q1 Q2 x (fun p hp => hP p (h1 p hp)) a b (by omega)
  simp only [List.mem_cons, List.not_mem_nil, or_false] at hx
  rcases hx with rfl | rfl | rfl | rfl | rfl
  · exact row ("b0", 0) (by decide +kernel)
  · exact row ("s1", 1) (by decide +kernel)
  · exact row ("-", 9) (by decide +kernel)
  · exact od _ rfl rfl
  · exact od _ rfl (by decide +kernel)
@[simp] theorem op_rngL (n : Nat) (h : n ≤ 1000) : opT .rngL [.int (n : Int)] = some (.lst (natsD (List.range n))) := by
  show (if _ then _ else _) = _
  rw [if_pos (by rw [decide_eq_true (Int.natCast_nonneg n), decide_eq_true (by omega)]; rfl), Int.toNat_natCast]
  rfl
/-! comprehensions over the steps -/
section
variable (Φ : Nat → FS) {P : List (Str × Nat)} (hl : ∀ p ∈ P, p.1 ∈ labels) (l : P.length ≤ 100) (t0 t1 t2 t4 t5 t6 t7 t8 t9 t10 : Option T)
include l
theorem o_w1 : (ev Φ c_law_are_ways_1).o = mOpd (ev Φ c_law_are_ways_1).e := by unfold c_law_are_ways_1; rw [ev]; rfl
theorem a_w2 : (ev Φ c_law_are_ways_2).a = mAval (ev Φ c_law_are_ways_2).e := by unfold c_law_are_ways_2; rw [ev]; rfl
theorem a_w3 : (ev Φ c_law_are_ways_3).a = mAval (ev Φ c_law_are_ways_3).e := by unfold c_law_are_ways_3; rw [ev]; rfl
theorem w1 : (ev Φ c_law_are_ways_1).e [t0, t1, t2, some (.shr (rowD P)), t4, t5, t6, t7, t8, t9, t10, none, none] = .ok (.lst (natsD (P.map (·.2)))) [t0, t1, t2, some (.shr (rowD P)), t4, t5, t6, t7, t8, t9, t10, none, none] := by
  unfold c_law_are_ways_1
  have ef := filt_nats (g := gN fun p => some p.2) (f := fun p => some p.2) (P := P) fun p _ => gN_step _ p
  rw [List.filterMap_eq_map'] at ef
  rw [ev, x_mke, ← ef]
  refine (mLc_pure (ds := P.map stepD) (ρ1 := [t0, t1, t2, some (.shr (rowD P)), t4, t5, t6, t7, t8, t9, t10, none, none]) (gN fun p => some p.2) ?_ ?_ ?_ ?_).trans ?_
  · simp [ev]
  · rfl
  · intro d hd
    obtain ⟨p, hp, rfl⟩ := List.mem_map.mp hd
    rw [gN_step]
    generalize rowD P = rr at *
    simp [turn, ev]
  · rw [List.length_map]; exact Nat.le_trans (by omega : P.length ≤ 4096) (by decide)
  · rfl
include hl
theorem w2 : (ev Φ c_law_are_ways_2).e [t0, t1, t2, some (.shr (rowD P)), t4, t5, t6, t7, t8, t9, t10, none, none] = .ok (.lst (natsD (P.filterMap bitN))) [t0, t1, t2, some (.shr (rowD P)), t4, t5, t6, t7, t8, t9, t10, none, none] := by
  unfold c_law_are_ways_2
  rw [ev, x_mke, ← filt_nats (g := gN bitN) fun p _ => gN_step bitN p]
  refine (mLc_pure (ds := P.map stepD) (ρ1 := [t0, t1, t2, some (.shr (rowD P)), t4, t5, t6, t7, t8, t9, t10, none, none]) (gN bitN) ?_ ?_ ?_ ?_).trans ?_
  · simp [ev]
  · rfl
  · intro d hd
    obtain ⟨p, hp, rfl⟩ := List.mem_map.mp hd
    have lf := labF (hl p hp)
    obtain ⟨c0, f1, f2, f3, f4⟩ := lf.first
    have okb : okD (.str "b") = true := by decide +kernel
    rw [gN_step]
    have e2 : bitN p = bitN (p.1, 0) := rfl
    rw [e2]
    generalize rowD P = rr at *
    cases c : bitN (p.1, 0) with
    | none =>
      rw [c] at f3
      have f3' : (c0 == "b") = false := f3
      simp [turn, ev, isCmp, f1, f2, f3', okb]
    | some n =>
      rw [c] at f3
      have f3' : (c0 == "b") = true := f3
      obtain ⟨c1, g1, g2⟩ := lf.num n (.inl c)
      simp [turn, ev, isCmp, f1, f2, f3', okb, g1, g2]
  · rw [List.length_map]; exact Nat.le_trans (by omega : P.length ≤ 4096) (by decide)
  · rfl
theorem w3 : (ev Φ c_law_are_ways_3).e [t0, t1, t2, some (.shr (rowD P)), t4, t5, t6, t7, t8, t9, t10, none, none] = .ok (.lst (natsD (P.filterMap sigN))) [t0, t1, t2, some (.shr (rowD P)), t4, t5, t6, t7, t8, t9, t10, none, none] := by
  unfold c_law_are_ways_3
  rw [ev, x_mke, ← filt_nats (g := gN sigN) fun p _ => gN_step sigN p]
  refine (mLc_pure (ds := P.map stepD) (ρ1 := [t0, t1, t2, some (.shr (rowD P)), t4, t5, t6, t7, t8, t9, t10, none, none]) (gN sigN) ?_ ?_ ?_ ?_).trans ?_
  · simp [ev]
  · rfl
  · intro d hd
    obtain ⟨p, hp, rfl⟩ := List.mem_map.mp hd
    have lf := labF (hl p hp)
    obtain ⟨c0, f1, f2, f3, f4⟩ := lf.first
    have okb : okD (.str "s") = true := by decide +kernel
    rw [gN_step]
    have e2 : sigN p = sigN (p.1, 0) := rfl
    rw [e2]
    generalize rowD P = rr at *
    cases c : sigN (p.1, 0) with
    | none =>
      rw [c] at f4
      have f4' : (c0 == "s") = false := f4
      simp [turn, ev, isCmp, f1, f2, f4', okb]
    | some n =>
      rw [c] at f4
      have f4' : (c0 == "s") = true := f4
      obtain ⟨c1, g1, g2⟩ := lf.num n (.inr c)
      simp [turn, ev, isCmp, f1, f2, f4', okb, g1, g2]
  · rw [List.length_map]; exact Nat.le_trans (by omega : P.length ≤ 4096) (by decide)
  · rfl
end
end VS.K22
set_option Elab.async false
set_option linter.all false
set_option maxRecDepth 1000000
set_option maxHeartbeats 0
/-! K22: _law_are_ways, put together. -/
namespace VS.K22
open PySem PySem.Spec PyProof.Rows L2
theorem op_rev (xs : List D) : opT .rev [.tuple xs] = some (.shr (.tuple xs.reverse)) := rfl
theorem at_lastN (o : Nat) (P : List (Str × Nat)) : atI (natsD (o :: P.map (·.2))) (-1) = some (.int (endN o P : Nat)) := by
  have h : ∀ (l : List Nat) (x : Nat), atI (natsD (l ++ [x])) (-1) = some (.int (x : Int)) := fun l x => by
    rw [nats_app]
    exact at_last
  rcases List.eq_nil_or_concat P with rfl | ⟨P', p, rfl⟩
  · exact h [] o
  · rw [List.concat_eq_append, endN_snoc, List.map_append, ← List.cons_append]
    exact h _ p.2
theorem filt_small {f : Str × Nat → Option Nat} (hf : ∀ p n, f p = some n → n < 64) (P : List (Str × Nat)) : (∀ n ∈ P.filterMap f, n < 64) ∧ (P.filterMap f).length ≤ P.length :=
  ⟨fun n hn => by obtain ⟨p, _, e⟩ := List.mem_filterMap.mp hn; exact hf p n e, List.length_filterMap_le _ _⟩
theorem bit_small (p : Str × Nat) (n : Nat) (h : bitN p = some n) : n < 64 := by
  unfold bitN at h
  split at h
  · cases h; decide
  · split at h
    · cases h; decide
    · cases h
theorem sig_small (p : Str × Nat) (n : Nat) (h : sigN p = some n) : n < 64 := by
  unfold sigN at h
  split at h
  · cases h; decide
  · split at h
    · cases h; decide
    · split at h
      · cases h; decide
      · cases h
section
variable {J : List (List (Str × Nat))} (W : WJ J) (bs : List Nat)
include W
theorem ways_spec (k : Nat) (hbs : St J bs) (hn : 0 < J.length) {xs : List D} (hb : Bag xs) : ∃ ys, Bag ys ∧ F (k + 6) 36 [.lst xs, .shr (jD bs J)] = .ok (.shr (.bool true)) [some (.lst ys), none] := by
  have fw := W.few
  -- the draws
  obtain ⟨d0, xs1, hd0, hb1, e1⟩ := some_spec (k + 3) hb (natsD (List.range J.length)) (by simpa using hn) (by simp; omega)
  change F (k + 5) 25 _ = _ at e1
  obtain ⟨o, ho', rfl⟩ := nats_mem.mp hd0
  have ho : o < J.length := List.mem_range.mp ho'
  obtain ⟨P, xs2, hb2, dr, l6, e2⟩ := steps_spec W bs (k + 2) hb1 ho
  change F (k + 5) 32 _ = _ at e2
  have e13 := way_row W bs (k + 1) ho dr.lab
  change F (k + 5) 13 _ = _ at e13
  rw [dr.go] at e13
  have e14 := end_spec (k + 4) o dr.lab
  change F (k + 5) 14 _ = _ at e14
  have e11 := bits_spec (k + 4) dr.lab (by omega)
  have e12 := signs_spec (k + 4) dr.lab (by omega)
  change F (k + 5) 11 _ = _ at e11
  change F (k + 5) 12 _ = _ at e12
  have sb := filt_small bit_small P
  have ss := filt_small sig_small P
  obtain ⟨o1, o2, e26⟩ := alike_L (k + 4) _ (shw_l2 sb.1 ss.1 (by omega) (by omega))
  change F (k + 5) 26 _ = _ at e26
  obtain ⟨kk, xs3, hkk, hb3, e24⟩ : ∃ (kk : Nat) (xs3 : List D), kk ≤ 6 ∧ Bag xs3 ∧ (P = [] ∧ kk = 0 ∧ xs3 = xs2 ∨ P ≠ [] ∧ F (k + 5) 24 [.lst xs2, .shr (.int P.length)] = .ok (.shr (.int kk)) [some (.lst xs3), none]) := by
    by_cases c : P = []
    · exact ⟨0, xs2, by omega, hb2, .inl ⟨c, rfl, rfl⟩⟩
    · obtain ⟨v, ys, hv, hy, e⟩ := take_spec (k + 4) hb2 P.length (List.length_pos_iff.mpr c) (by omega)
      exact ⟨v, ys, by omega, hy, .inr ⟨c, e⟩⟩
  obtain ⟨x, xs4, hx, hb4, e25⟩ := some_spec (k + 3) hb3 [.tuple [.str "b0", .int 0], .tuple [.str "s1", .int 1], .tuple [.str "-", .int 9], .none, .tuple [.str "b0"]] (by simp) (by simp)
  change F (k + 5) 25 _ = _ at e25
  obtain ⟨Q1, c1, m1, l1⟩ := cut_steps P none (some (kk : Int))
  obtain ⟨Q2, c2, m2, l2⟩ := cut_steps P (some ((kk : Int) + 1)) none
  have e9 := steps_at_out (J := J) bs (k + 1) (n := J.length) (by omega)
  change F (k + 5) 9 _ = _ at e9
  have bent := fun {d : D} (h : Bent d) => bent_b W bs hbs k ho h
  have hxm : G.exm 1 1 = some true := rfl
  refine ⟨xs4, hb4, ?_⟩
  rw [F36]
  generalize F (k + 5) = Φ at *
  -- the loop
  have rb : Bent (.tuple ((P.map stepD).reverse)) := by
    rw [← List.map_reverse]
    exact .row P.reverse (fun p hp => dr.lab p (List.mem_reverse.mp hp)) (by rw [List.length_reverse]; omega)
  obtain ⟨ρ7, e7, t5, t8, t9, h5, rfl⟩ := for_all (lk := [true, false]) (tg := .name 5) (b := evSs G.exm Φ [true, false] b_law_are_ways_1)
    (I := fun ρ => ∃ t5 t8 t9, (t5 = none ∨ ∃ d, t5 = some (.shr d)) ∧ ρ = [some (.lst xs4), some (.shr (jD bs J)), some (.shr (.int (o : Int))), some (.shr (rowD P)), some (.shr (.int kk)), t5, some (.lst (natsD (P.filterMap bitN))), some (.lst (natsD (P.filterMap sigN))), t8, t9, none, none, none])
    [.tuple (Q1.map stepD ++ [x] ++ Q2.map stepD), .list (P.map stepD), .none, .tuple ((P.map stepD).reverse), rowD P]
    [some (.lst xs4), some (.shr (jD bs J)), some (.shr (.int (o : Int))), some (.shr (rowD P)), some (.shr (.int kk)), none, some (.lst (natsD (P.filterMap bitN))), some (.lst (natsD (P.filterMap sigN))), none, none, none, none, none] ⟨none, none, none, .inl rfl, rfl⟩ fun d hd ρ ⟨a5, a8, a9, h5, er⟩ => by
    subst er
    have hB : Bent d := by
      simp only [List.mem_cons, List.not_mem_nil, or_false] at hd
      rcases hd with rfl | rfl | rfl | rfl | rfl
      · exact bent_put dr.lab m1 m2 (by omega) (by omega) hx
      · exact .no _ rfl
      · exact .no _ rfl
      · exact rb
      · exact .row P dr.lab (by omega)
    obtain ⟨t8', t9', e⟩ := bent hB (some (.lst xs4)) (some (.shr (rowD P))) (some (.shr (.int kk))) (some (.lst (natsD (P.filterMap bitN)))) (some (.lst (natsD (P.filterMap sigN)))) a8 a9
    exact ⟨wE (some (.lst xs4)) (jD bs J) o (some (.shr (rowD P))) (some (.shr (.int kk))) d (some (.lst (natsD (P.filterMap bitN)))) (some (.lst (natsD (P.filterMap sigN)))) a8 a9, by simp, _, e, _, _, _, .inr ⟨d, rfl⟩, rfl⟩
  have w1' := w1 Φ (P := P) (by omega)
  have w2' := w2 Φ dr.lab (by omega)
  have w3' := w3 Φ dr.lab (by omega)
  have oP := ok_rowD dr.lab
  refine (runF_ret (ρ := [some (.lst xs4), some (.shr (jD bs J)), some (.shr (.int (o : Int))), some (.shr (rowD P)), some (.shr (.int kk)), t5, some (.lst (natsD (P.filterMap bitN))), some (.lst (natsD (P.filterMap sigN))), t8, t9, none, none, none]) (t := .shr (.bool true)) ?_).trans rfl
  show evSs G.exm Φ [true, false] i_law_are_ways [some (.lst xs), some (.shr (jD bs J)), none, none, none, none, none, none, none, none, none, none, none] = _
  have rl := op_rngL J.length (by omega)
  refine go_next (ρ1 := [some (.lst xs1), some (.shr (jD bs J)), some (.shr (.int (o : Int))), none, none, none, none, none, none, none, none, none, none]) (by simp [evS, ev, rl, e1]) ?_
  refine go_next (ρ1 := [some (.lst xs2), some (.shr (jD bs J)), some (.shr (.int (o : Int))), some (.shr (rowD P)), none, none, none, none, none, none, none, none, none]) ?_ ?_
  · generalize jD bs J = jj at *
    simp [evS, ev, e2]
  refine go_next (go_iteF (ρ1 := [some (.lst xs2), some (.shr (jD bs J)), some (.shr (.int (o : Int))), some (.shr (rowD P)), none, none, none, none, none, none, none, none, none]) ?_ go_nil) ?_
  · have ow := o_w1 Φ (P := P) (by omega)
    have al := at_lastN o P
    have ea : ∀ l : List D, l = natsD (P.map (·.2)) → ([PyData.int (o : Int)] ++ l) = natsD (o :: P.map (·.2)) := fun l e => by rw [e, nats_cons]; rfl
    have ad : opT .add [.list [.int (o : Int)], .list (natsD (P.map (·.2)))] = some (.lst (natsD (o :: P.map (·.2)))) := by
      rw [op_addL, if_pos (by simp; exact Nat.le_trans (by omega : 1 + P.length ≤ 4096) (by decide : 4096 ≤ sizeLine)), ea _ rfl]
    have ad2 : opT .idx [.list (natsD (o :: P.map (·.2))), .int (-1)] = some (.shr (.int (endN o P : Nat))) := by
      rw [op_ixL, al]; rfl
    generalize jD bs J = jj at *
    generalize rowD P = rr at *
    generalize natsD (P.map (·.2)) = l1 at *
    generalize natsD (o :: P.map (·.2)) = l2 at *
    simp [ev, isCmp, e13, e14, ow, w1', ad, ad2, -op_addL, -op_ixL]
  refine go_next (ρ1 := [some (.lst xs2), some (.shr (jD bs J)), some (.shr (.int (o : Int))), some (.shr (rowD P)), none, none, some (.lst (natsD (P.filterMap bitN))), some (.lst (natsD (P.filterMap sigN))), none, none, none, none, none]) ?_ ?_
  · have a2 := a_w2 Φ (P := P) (by omega)
    have a3 := a_w3 Φ (P := P) (by omega)
    generalize jD bs J = jj at *
    generalize rowD P = rr at *
    simp [evS, a2, a3, w2', w3']
  refine go_next (go_iteF (ρ1 := [some (.lst xs2), some (.shr (jD bs J)), some (.shr (.int (o : Int))), some (.shr (rowD P)), none, none, some (.lst (natsD (P.filterMap bitN))), some (.lst (natsD (P.filterMap sigN))), none, none, none, none, none]) ?_ go_nil) ?_
  · generalize jD bs J = jj at *
    generalize rowD P = rr at *
    simp [ev, e11, e12, e26]
  refine go_next (ρ1 := [some (.lst xs3), some (.shr (jD bs J)), some (.shr (.int (o : Int))), some (.shr (rowD P)), some (.shr (.int kk)), none, some (.lst (natsD (P.filterMap bitN))), some (.lst (natsD (P.filterMap sigN))), none, none, none, none, none]) ?_ ?_
  · have ok0 : okD (.tuple []) = true := rfl
    rcases e24 with ⟨rfl, rfl, rfl⟩ | ⟨c, e24⟩
    · have ee : PyData.eqv (rowD []) (.tuple []) = true := by simp [PyData.eqv, PyData.eqvAll]
      generalize rowD [] = rr at *
      simp [evS, ev, isCmp, oP, ok0, ee]
    · have ee : PyData.eqv (rowD P) (.tuple []) = false := by
        cases P with
        | nil => exact absurd rfl c
        | cons p P => simp [PyData.eqv, PyData.eqvAll]
      have ln : lenT (rowD P) = some P.length := by rw [x_lenT, List.length_map]
      generalize rowD P = rr at *
      simp [evS, ev, isCmp, oP, ok0, ee, ln, e24]
  refine go_next (go_for (ds := [.tuple (Q1.map stepD ++ [x] ++ Q2.map stepD), .list (P.map stepD), .none, .tuple ((P.map stepD).reverse), rowD P]) ?_ e7) ?_
  · have q1 : Q1.length + 1 ≤ 4096 := by omega
    have q2 : Q1.length + 1 + Q2.length ≤ 4096 := by omega
    simp [ev, e25, c1, c2, q1, q2, op_rev]
  refine go_ret ?_
  rw [evS]
  generalize rowD P = rr at *
  simp [evS, ev, e9, hxm]
end
end VS.K22
set_option Elab.async false
set_option linter.all false
set_option maxRecDepth 1000000
set_option maxHeartbeats 0
/-! K22: machines of parts. -/
namespace VS.K22
open PySem PySem.Spec PyProof.Rows L2
inductive MR where
  | tk (ws : List (List Nat))
  | gv (g : Nat) (w : List Nat)
def waysD (ws : List (List Nat)) : List D := ws.map fun w => .tuple (natsD w)
def rowM : MR → D
  | .tk ws => .tuple [.str "take", .tuple (waysD ws)]
  | .gv g w => .tuple [.str "give", .int (g : Int), .tuple (natsD w)]
def isTk : MR → Bool
  | .tk _ => true
  | .gv _ _ => false
abbrev mD (kind : Str) (rows : List MR) : D := .tuple [.str "m", .str kind, .tuple [.int 0], .tuple (rows.map rowM)]
def kinds : List Str := ["sender", "line", "receiver"]
def tn (kind : Str) : Nat := if kind = "sender" then 2 else 3
structure MW (kind : Str) (rows : List MR) : Prop where
  kd : kind ∈ kinds
  tk : ∀ ws, .tk ws ∈ rows → ws.length = tn kind ∧ ∀ w ∈ ws, (∀ x ∈ w, x < rows.length) ∧ w.length ≤ 4
  gv : ∀ g w, .gv g w ∈ rows → g < 3 ∧ (∀ x ∈ w, x < rows.length) ∧ w.length ≤ 4
  few : rows.length ≤ 5
theorem F2 (k : Nat) : F (k + 1) 2 = runF 1 fun lk => evSs G.exm (F k) lk i_is_sign := rfl
theorem F3 (k : Nat) : F (k + 1) 3 = runF 1 fun lk => evSs G.exm (F k) lk i_many_stands := rfl
theorem F4 (k : Nat) : F (k + 1) 4 = runF 2 fun lk => evSs G.exm (F k) lk i_is_taking := rfl
theorem F5 (k : Nat) : F (k + 1) 5 = runF 2 fun lk => evSs G.exm (F k) lk i_sign_at := rfl
theorem F6 (k : Nat) : F (k + 1) 6 = runF 4 fun lk => evSs G.exm (F k) lk i_nexts_behind := rfl
theorem F7 (k : Nat) : F (k + 1) 7 = runF 6 fun lk => evSs G.exm (F k) lk i_stands_after := rfl
theorem ix_rowM {rows : List MR} {n : Nat} (h : n < rows.length) : atI (rows.map rowM) (n : Int) = some (rowM rows[n]) := by
  rw [atI_nat _ _ (by simpa using h)]
  simp [h]
theorem is_sign_int (k : Nat) (n : Nat) (h : n < 3) : F (k + 2) 2 [.shr (.int (n : Int))] = .ok (.shr (.bool true)) [none] := by
  have e := is_integer_int k (n : Int)
  have e2 : inT (.int (n : Int)) (.tuple [.int 0, .int 1, .int 2]) = some true := by
    have := in_ntup [0, 1, 2] n
    rw [nats_cons, nats_cons, nats_cons, nats_nil] at this
    rw [show (PyData.tuple [.int 0, .int 1, .int 2]) = .tuple [.int ((0 : Nat) : Int), .int ((1 : Nat) : Int), .int ((2 : Nat) : Int)] from rfl, this]
    congr 1
    have : n = 0 ∨ n = 1 ∨ n = 2 := by omega
    rcases this with rfl | rfl | rfl <;> decide
  rw [F2]
  generalize F (k + 1) = Φ at *
  exact (runF_ret (ρ := [some (.shr (.int (n : Int)))]) (t := .shr (.bool true)) (go_ret (by simp [evS, ev, e, e2]))).trans rfl
theorem many_spec (k : Nat) (kind rows) : F (k + 1) 3 [.shr (mD kind rows)] = .ok (.shr (.int rows.length)) [none] := by
  rw [F3]
  generalize F k = Φ at *
  exact (runF_ret (ρ := [some (.shr (mD kind rows))]) (t := .shr (.int rows.length)) (go_ret (by simp [evS, ev]))).trans rfl
theorem okT : okD (.str "take") = true := by decide +kernel
theorem okG : okD (.str "give") = true := by decide +kernel
theorem taking_spec (k : Nat) (kind : Str) {rows : List MR} {n : Nat} (h : n < rows.length) : F (k + 1) 4 [.shr (mD kind rows), .shr (.int n)] = .ok (.shr (.bool (isTk rows[n]))) [none, none] := by
  have ix := ix_rowM h
  have n1 : (("take" : Str) == ("take" : Str)) = true := by decide +kernel
  have n2 : (("give" : Str) == ("take" : Str)) = false := by decide +kernel
  rw [F4]
  generalize F k = Φ at *
  refine (runF_ret (ρ := [some (.shr (mD kind rows)), some (.shr (.int n))]) (t := .shr (.bool (isTk rows[n]))) (go_ret ?_)).trans rfl
  show evS G.exm Φ [false, false] _ [some (.shr (mD kind rows)), some (.shr (.int n))] = _
  cases c : rows[n] with
  | tk ws => rw [c] at ix; simp [evS, ev, isCmp, ix, rowM, isTk, okT, n1]
  | gv g w => rw [c] at ix; simp [evS, ev, isCmp, ix, rowM, isTk, okT, okG, n2]
theorem sign_gv (k : Nat) (kind : Str) {rows : List MR} {n : Nat} (h : n < rows.length) {g : Nat} {w : List Nat} (c : rows[n] = .gv g w) : F (k + 2) 5 [.shr (mD kind rows), .shr (.int n)] = .ok (.shr (.int g)) [none, none] := by
  have e := taking_spec k kind h
  have ix := ix_rowM h
  rw [c] at e ix
  rw [F5]
  generalize F (k + 1) = Φ at *
  refine (runF_ret (ρ := [some (.shr (mD kind rows)), some (.shr (.int n))]) (t := .shr (.int g)) ?_).trans rfl
  show evSs G.exm Φ [false, false] i_sign_at [some (.shr (mD kind rows)), some (.shr (.int n))] = _
  exact go_next (go_iteF (ρ1 := [some (.shr (mD kind rows)), some (.shr (.int n))]) (by simp [ev, e, isTk]) go_nil) (go_ret (by simp [evS, ev, ix, rowM]))
theorem sign_tk (k : Nat) (kind : Str) {rows : List MR} {n : Nat} (h : n < rows.length) {ws} (c : rows[n] = .tk ws) : F (k + 2) 5 [.shr (mD kind rows), .shr (.int n)] = .exn ⟨1, []⟩ [none, none] := by
  have e := taking_spec k kind h
  rw [c] at e
  rw [F5]
  generalize F (k + 1) = Φ at *
  refine (runF_exn (ρ := [some (.shr (mD kind rows)), some (.shr (.int n))]) ?_).trans rfl
  show evSs G.exm Φ [false, false] i_sign_at [some (.shr (mD kind rows)), some (.shr (.int n))] = _
  exact go_exn (go_iteT (ρ1 := [some (.shr (mD kind rows)), some (.shr (.int n))]) (by simp [ev, e, isTk]) (go_exn (by simp [evS])))
theorem next_gv (k : Nat) (kind : Str) {rows : List MR} {n : Nat} (h : n < rows.length) {g : Nat} {w : List Nat} (c : rows[n] = .gv g w) : F (k + 3) 6 [.shr (mD kind rows), .shr (.int n), .shr .none] = .ok (.shr (.tuple (natsD w))) [none, none, none] := by
  have e := is_count_int k (n : Int)
  rw [decide_eq_true (Int.natCast_nonneg n)] at e
  have ix := ix_rowM h
  rw [c] at ix
  have n1 : (("give" : Str) == ("give" : Str)) = true := by decide +kernel
  have hn : ¬ (rows.length : Int) ≤ (n : Int) := by omega
  rw [F6]
  generalize F (k + 2) = Φ at *
  refine (runF_ret (ρ := [some (.shr (mD kind rows)), some (.shr (.int n)), some (.shr .none), some (.shr (rowM (.gv g w)))]) (t := .shr (.tuple (natsD w))) ?_).trans rfl
  show evSs G.exm Φ [false, false, false] i_nexts_behind [some (.shr (mD kind rows)), some (.shr (.int n)), some (.shr .none), none] = _
  refine go_next (go_iteF (ρ1 := [some (.shr (mD kind rows)), some (.shr (.int n)), some (.shr .none), none]) (by simp [ev, isCmp, e, h]) go_nil) ?_
  refine go_next (ρ1 := [some (.shr (mD kind rows)), some (.shr (.int n)), some (.shr .none), some (.shr (rowM (.gv g w)))]) (by simp [evS, ev, ix]) ?_
  refine go_ret (go_iteT (ρ1 := [some (.shr (mD kind rows)), some (.shr (.int n)), some (.shr .none), some (.shr (rowM (.gv g w)))]) (by simp [ev, isCmp, rowM, okG, n1]) ?_)
  exact go_next (go_iteF (ρ1 := [some (.shr (mD kind rows)), some (.shr (.int n)), some (.shr .none), some (.shr (rowM (.gv g w)))]) (by simp [ev, isCmp, isNone]) go_nil) (go_ret (by simp [evS, ev, rowM]))
theorem next_gv0 (k : Nat) (kind : Str) {rows : List MR} {n : Nat} (h : n < rows.length) {g : Nat} {w : List Nat} (c : rows[n] = .gv g w) : F (k + 3) 6 [.shr (mD kind rows), .shr (.int n), .shr (.int 0)] = .exn ⟨1, []⟩ [none, none, none] := by
  have e := is_count_int k (n : Int)
  rw [decide_eq_true (Int.natCast_nonneg n)] at e
  have ix := ix_rowM h
  rw [c] at ix
  have n1 : (("give" : Str) == ("give" : Str)) = true := by decide +kernel
  rw [F6]
  generalize F (k + 2) = Φ at *
  refine (runF_exn (ρ := [some (.shr (mD kind rows)), some (.shr (.int n)), some (.shr (.int 0)), some (.shr (rowM (.gv g w)))]) ?_).trans rfl
  show evSs G.exm Φ [false, false, false] i_nexts_behind [some (.shr (mD kind rows)), some (.shr (.int n)), some (.shr (.int 0)), none] = _
  refine go_next (go_iteF (ρ1 := [some (.shr (mD kind rows)), some (.shr (.int n)), some (.shr (.int 0)), none]) (by simp [ev, isCmp, e, h]) go_nil) ?_
  refine go_next (ρ1 := [some (.shr (mD kind rows)), some (.shr (.int n)), some (.shr (.int 0)), some (.shr (rowM (.gv g w)))]) (by simp [evS, ev, ix]) ?_
  refine go_exn (go_iteT (ρ1 := [some (.shr (mD kind rows)), some (.shr (.int n)), some (.shr (.int 0)), some (.shr (rowM (.gv g w)))]) (by simp [ev, isCmp, rowM, okG, n1]) ?_)
  exact go_exn (go_iteT (ρ1 := [some (.shr (mD kind rows)), some (.shr (.int n)), some (.shr (.int 0)), some (.shr (rowM (.gv g w)))]) (by simp [ev, isCmp, isNone]) (go_exn (by simp [evS])))
theorem taken_of {kind : Str} (h : kind ∈ kinds) : kd_TAKEN.lookup kind = some (.tuple (natsD (List.range (tn kind)))) := by
  simp only [kinds, List.mem_cons, List.not_mem_nil, or_false] at h
  rcases h with rfl | rfl | rfl <;> kernel_rfl
theorem tn_le (kind : Str) : tn kind ≤ 3 ∧ 2 ≤ tn kind := by unfold tn; split <;> omega
theorem next_tk (k : Nat) {kind : Str} (hk : kind ∈ kinds) {rows : List MR} {n : Nat} (h : n < rows.length) {ws : List (List Nat)} (c : rows[n] = .tk ws) {s : Nat} (hs : s < tn kind) (hw : ws.length = tn kind) : F (k + 3) 6 [.shr (mD kind rows), .shr (.int n), .shr (.int s)] = .ok (.shr (.tuple (natsD (ws.getD s [])))) [none, none, none] := by
  have e := is_count_int k (n : Int)
  rw [decide_eq_true (Int.natCast_nonneg n)] at e
  have t3 := tn_le kind
  have e2 := is_sign_int k s (by omega)
  have e3 := taken_of hk
  have e4 := in_ntup (List.range (tn kind)) s
  rw [decide_eq_true (List.mem_range.mpr hs)] at e4
  have ix := ix_rowM h
  rw [c] at ix
  have n2 : (("take" : Str) == ("give" : Str)) = false := by decide +kernel
  have iw : atI (waysD ws) (s : Int) = some (.tuple (natsD (ws.getD s []))) := by
    unfold waysD
    rw [atI_nat _ _ (by rw [List.length_map]; omega)]
    have : s < ws.length := by omega
    simp [this]
  rw [F6]
  generalize F (k + 2) = Φ at *
  refine (runF_ret (ρ := [some (.shr (mD kind rows)), some (.shr (.int n)), some (.shr (.int s)), some (.shr (rowM (.tk ws)))]) (t := .shr (.tuple (natsD (ws.getD s [])))) ?_).trans rfl
  show evSs G.exm Φ [false, false, false] i_nexts_behind [some (.shr (mD kind rows)), some (.shr (.int n)), some (.shr (.int s)), none] = _
  refine go_next (go_iteF (ρ1 := [some (.shr (mD kind rows)), some (.shr (.int n)), some (.shr (.int s)), none]) (by simp [ev, isCmp, e, h]) go_nil) ?_
  refine go_next (ρ1 := [some (.shr (mD kind rows)), some (.shr (.int n)), some (.shr (.int s)), some (.shr (rowM (.tk ws)))]) (by simp [evS, ev, ix]) ?_
  refine go_next (go_iteF (ρ1 := [some (.shr (mD kind rows)), some (.shr (.int n)), some (.shr (.int s)), some (.shr (rowM (.tk ws)))]) (by simp [ev, isCmp, rowM, okT, okG, n2]) go_nil) ?_
  refine go_next (go_iteF (ρ1 := [some (.shr (mD kind rows)), some (.shr (.int n)), some (.shr (.int s)), some (.shr (rowM (.tk ws)))]) (by simp [ev, isCmp, e2, e3, e4]) go_nil) (go_ret ?_)
  simp only [rowM]
  generalize natsD (ws.getD s []) = nn at *
  simp [evS, ev, iw]
end VS.K22
set_option Elab.async false
set_option linter.all false
set_option maxRecDepth 1000000
set_option maxHeartbeats 0
/-! K22: stands behind takes. -/
namespace VS.K22
open PySem PySem.Spec PyProof.Rows L2
/-- behind a take of the sign 1 -/
def nx1 : MR → List Nat
  | .tk ws => ws.getD 1 []
  | .gv _ _ => []
def rowAt (rows : List MR) (n : Nat) : MR := rows.getD n (.gv 0 [])
theorem rowAt_eq {rows : List MR} {n : Nat} (h : n < rows.length) : rowAt rows n = rows[n] := by unfold rowAt; simp [h]
theorem nx1_lt {kind : Str} {rows : List MR} (W : MW kind rows) {n : Nat} (h : n < rows.length) : (∀ x ∈ nx1 (rowAt rows n), x < rows.length) ∧ (nx1 (rowAt rows n)).length ≤ 4 := by
  rw [rowAt_eq h]
  cases c : rows[n] with
  | gv g w => exact ⟨fun x hx => (nomatch hx), Nat.zero_le _⟩
  | tk ws =>
    have hm : MR.tk ws ∈ rows := by rw [← c]; exact List.getElem_mem h
    obtain ⟨l, hw⟩ := W.tk ws hm
    have t := tn_le kind
    have h1 : 1 < ws.length := by omega
    have e : nx1 (.tk ws) = ws[1] := by show ws.getD 1 [] = _; simp [h1]
    rw [e]
    exact hw _ (List.getElem_mem h1)
/-- what is gathered, stand by stand -/
def gath (rows : List MR) (S acc : List Nat) : List Nat := S.foldl (fun acc n => ((nx1 (rowAt rows n)).foldl addN []).foldl addN acc) acc
theorem gath_nd (rows : List MR) : ∀ (S acc : List Nat), acc.Nodup → (gath rows S acc).Nodup
  | [], acc, h => h
  | s :: S, acc, h => gath_nd rows S _ (addN_nodup _ _ h)
theorem gath_mem (rows : List MR) : ∀ (S acc : List Nat) (m : Nat), m ∈ gath rows S acc ↔ m ∈ acc ∨ ∃ s ∈ S, m ∈ nx1 (rowAt rows s)
  | [], acc, m => by simp [gath]
  | s :: S, acc, m => by
    show m ∈ gath rows S _ ↔ _
    rw [gath_mem, addN_mem, addN_mem]
    simp [or_assoc]
theorem v_aft (Φ : Nat → FS) : (ev Φ c_stands_after_1).v = mOpd (ev Φ c_stands_after_1).e := by unfold c_stands_after_1; rw [ev]; rfl
@[simp] theorem x_upd (i : Nat) (ms : List (M O)) (ρ : Env) : mUpd i ms ρ = if ownDic i ρ then bnd (mOs ms) (finUpd i) ρ else .stk := (rfl)
@[simp] theorem x_ownD (i : Nat) (ρ : Env) : ownDic i ρ = (match ρ[i]? with | some (some (.dic _)) => true | _ => false) := (rfl)
theorem fin_upd (m1 m2 : List Nat) (ρ : Env) (i : Nat) (h : ρ[i]? = some (some (.dic (kd m1)))) (l : m1.length + m2.length ≤ 4096) : finUpd i [.val (T.dic (kd m2)).toD] ρ = .ok (.shr .none) (ρ.set i (some (.dic (kd (m2.foldl addN m1))))) := by
  unfold finUpd
  rw [h]
  show (match undic _ with | some more => _ | none => _) = _
  rw [dic_undic]
  show (if _ then _ else _) = _
  rw [if_pos (by rw [kd_len, kd_len]; exact Nat.le_trans l (by decide))]
  have := puts_kd m2 m1
  unfold puts at this
  rw [this]
section
variable {kind : Str} {rows : List MR} (W : MW kind rows)
include W
theorem aft_c (Φ : Nat → FS) {n : Nat} (h : n < rows.length) {ws : List (List Nat)} (c : rows[n] = .tk ws) (e : Φ 6 [.shr (mD kind rows), .shr (.int n), .shr (.int 1)] = .ok (.shr (.tuple (natsD (ws.getD 1 [])))) [none, none, none]) (t1 t3 : Option T) :
    (ev Φ c_stands_after_1).e [some (.shr (mD kind rows)), t1, some (.shr (.int 1)), t3, some (.shr (.int n)), none] = .ok (.dic (kd ((nx1 (rowAt rows n)).foldl addN []))) [some (.shr (mD kind rows)), t1, some (.shr (.int 1)), t3, some (.shr (.int n)), none] := by
  have l := (nx1_lt W h).2
  have en : nx1 (rowAt rows n) = ws.getD 1 [] := by rw [rowAt_eq h, c]; rfl
  rw [en] at l ⊢
  unfold c_stands_after_1
  rw [ev, x_mke]
  generalize ws.getD 1 [] = w at *
  generalize mD kind rows = mm at *
  refine (mDc_pure (ds := natsD w) (ρ1 := [some (.shr mm), t1, some (.shr (.int 1)), t3, some (.shr (.int n)), none]) (fun x => match x with | .int i => some (.inl i, .bool true) | _ => none) ?_ ?_ ?_ ?_).trans ?_
  · simp [ev, e]
  · rfl
  · intro x hx
    obtain ⟨b, hb, rfl⟩ := nats_mem.mp hx
    simp [dturn, ev, unD]
  · rw [nats_len]; exact Nat.le_trans (by omega : w.length ≤ 4096) (by decide)
  · have ek : (natsD w).filterMap (fun x => match x with | .int i => some (Sum.inl i, PyData.bool true) | _ => none) = kd w := by
      clear l e en
      induction w with
      | nil => rfl
      | cons b w ih =>
        rw [nats_cons, List.filterMap_cons]
        dsimp only
        rw [ih]
        rfl
    have ep := puts_kd w []
    rw [kd_nil] at ep
    rw [ek, ep]
    rfl
theorem aft_b (Φ : Nat → FS) {n : Nat} (h : n < rows.length) (e4 : Φ 4 [.shr (mD kind rows), .shr (.int n)] = .ok (.shr (.bool (isTk rows[n]))) [none, none]) (e6 : ∀ ws, rows[n] = .tk ws → Φ 6 [.shr (mD kind rows), .shr (.int n), .shr (.int 1)] = .ok (.shr (.tuple (natsD (ws.getD 1 [])))) [none, none, none]) (t1 : Option T) (found : List Nat) (lf : found.length ≤ 100) :
    evSs G.exm Φ [false, false, false] b_stands_after_1 [some (.shr (mD kind rows)), t1, some (.shr (.int 1)), some (.dic (kd found)), some (.shr (.int n)), none] = .ok .next [some (.shr (mD kind rows)), t1, some (.shr (.int 1)), some (.dic (kd (((nx1 (rowAt rows n)).foldl addN []).foldl addN found))), some (.shr (.int n)), none] := by
  cases c : rows[n] with
  | gv g w =>
    rw [c] at e4
    have en : nx1 (rowAt rows n) = [] := by rw [rowAt_eq h, c]; rfl
    rw [en]
    generalize mD kind rows = mm at *
    exact go_next (go_iteF (ρ1 := [some (.shr mm), t1, some (.shr (.int 1)), some (.dic (kd found)), some (.shr (.int n)), none]) (by simp [ev, e4, isTk]) go_nil) go_nil
  | tk ws =>
    rw [c] at e4
    have ec := aft_c W Φ h c (e6 ws c) t1 (some (.dic (kd found)))
    have l := (nx1_lt W h).2
    have nd := addN_nodup (nx1 (rowAt rows n)) [] List.nodup_nil
    have l2 : ((nx1 (rowAt rows n)).foldl addN []).length ≤ 5 := Nat.le_trans (few_of nd (n := rows.length) fun x hx => by
      rcases (addN_mem _ _ _).mp hx with q | q
      · cases q
      · exact (nx1_lt W h).1 x q) W.few
    generalize (nx1 (rowAt rows n)).foldl addN [] = m2 at *
    have fu := fin_upd found m2 [some (.shr (mD kind rows)), t1, some (.shr (.int 1)), some (.dic (kd found)), some (.shr (.int n)), none] 3 rfl (by omega)
    have vv := v_aft Φ
    generalize mD kind rows = mm at *
    refine go_next (go_iteT (ρ1 := [some (.shr mm), t1, some (.shr (.int 1)), some (.dic (kd found)), some (.shr (.int n)), none]) (by simp [ev, e4, isTk]) (go_next (ρ1 := [some (.shr mm), t1, some (.shr (.int 1)), some (.dic (kd (m2.foldl addN found))), some (.shr (.int n)), none]) ?_ go_nil)) go_nil
    rw [evS, x_drop]
    simp [ev, vv, ec, fu]
theorem after_spec (k : Nat) {S : List Nat} (h : ∀ s ∈ S, s < rows.length) : F (k + 4) 7 [.shr (mD kind rows), .shr (.tuple (natsD S)), .shr (.int 1)] = .ok (.shr (.tuple (natsD (srt (gath rows S []))))) [none, none, none] := by
  have e2 := is_sign_int (k + 1) 1 (by omega)
  change F (k + 3) 2 [.shr (.int 1)] = _ at e2
  have t := tn_le kind
  have e4 : ∀ n (hn : n < rows.length), F (k + 3) 4 [.shr (mD kind rows), .shr (.int n)] = .ok (.shr (.bool (isTk rows[n]))) [none, none] := fun n hn => taking_spec (k + 2) kind hn
  have e6 : ∀ n (hn : n < rows.length) ws, rows[n] = .tk ws → F (k + 3) 6 [.shr (mD kind rows), .shr (.int n), .shr (.int 1)] = .ok (.shr (.tuple (natsD (ws.getD 1 [])))) [none, none, none] := fun n hn ws c => by
    have hm : MR.tk ws ∈ rows := by rw [← c]; exact List.getElem_mem hn
    exact next_tk k W.kd hn c (s := 1) (by omega) (W.tk ws hm).1
  have e3 := taken_of W.kd
  have ei := in_ntup (List.range (tn kind)) 1
  rw [decide_eq_true (List.mem_range.mpr (by omega))] at ei
  change inT (.int 1) _ = _ at ei
  rw [F7]
  generalize F (k + 3) = Φ at *
  have loop : ∀ (S acc : List Nat) (t4 : Option T), (∀ s ∈ S, s < rows.length) → acc.Nodup → (∀ x ∈ acc, x < rows.length) → ∃ t4', forL [false, false, false] (.name 4) (evSs G.exm Φ [false, false, false] b_stands_after_1) (natsD S) [some (.shr (mD kind rows)), some (.shr (.tuple (natsD S))), some (.shr (.int 1)), some (.dic (kd acc)), t4, none] = .ok .next [some (.shr (mD kind rows)), some (.shr (.tuple (natsD S))), some (.shr (.int 1)), some (.dic (kd (gath rows S acc))), t4', none] := by
    intro S0
    generalize some (T.shr (.tuple (natsD S0))) = t1
    induction S0 with
    | nil => exact fun acc t4 _ _ _ => ⟨t4, rfl⟩
    | cons s S0 ih =>
      intro acc t4 hs nd lt
      have hs0 := hs s (.head _)
      have fw := few_of nd lt
      have := W.few
      have eb := aft_b W Φ hs0 (e4 s hs0) (e6 s hs0) t1 acc (by omega)
      obtain ⟨t4', e⟩ := ih (((nx1 (rowAt rows s)).foldl addN []).foldl addN acc) (some (.shr (.int s))) (fun x hx => hs x (.tail _ hx)) (addN_nodup _ _ nd) (fun x hx => by
        rcases (addN_mem _ _ _).mp hx with q | q
        · exact lt x q
        · rcases (addN_mem _ _ _).mp q with q | q
          · cases q
          · exact (nx1_lt W hs0).1 x q)
      rw [nats_cons, for_next (ρ1 := [some (.shr (mD kind rows)), t1, some (.shr (.int 1)), some (.dic (kd acc)), some (.shr (.int s)), none]) (by simp) eb, e]
      exact ⟨t4', rfl⟩
  obtain ⟨t4', el⟩ := loop S [] none h List.nodup_nil (fun x hx => (nomatch hx))
  have nd := gath_nd rows S [] List.nodup_nil
  have lt : ∀ x ∈ gath rows S [], x < rows.length := fun x hx => by
    rcases (gath_mem rows S [] x).mp hx with q | ⟨s, hs, q⟩
    · cases q
    · exact (nx1_lt W (h s hs)).1 x q
  have fw := few_of nd lt
  have := W.few
  have es := sort_dic (ns := gath rows S []) (by omega)
  rw [kd_nil] at el
  refine (runF_ret (ρ := [some (.shr (mD kind rows)), some (.shr (.tuple (natsD S))), some (.shr (.int 1)), some (.dic (kd (gath rows S []))), t4', none]) (t := .shr (.tuple (natsD (srt (gath rows S []))))) ?_).trans rfl
  show evSs G.exm Φ [false, false, false] i_stands_after [some (.shr (mD kind rows)), some (.shr (.tuple (natsD S))), some (.shr (.int 1)), none, none, none] = _
  refine go_next (go_iteF (ρ1 := [some (.shr (mD kind rows)), some (.shr (.tuple (natsD S))), some (.shr (.int 1)), none, none, none]) (by simp [ev, isCmp, e2, e3, ei]) go_nil) ?_
  refine go_next (ρ1 := [some (.shr (mD kind rows)), some (.shr (.tuple (natsD S))), some (.shr (.int 1)), some (.dic []), none, none]) (by simp [evS, ev]) ?_
  refine go_next (go_for (ds := natsD S) (by simp [ev]) el) (go_ret ?_)
  generalize mD kind rows = mm at *
  simp [evS, ev, es]
end
end VS.K22
set_option Elab.async false
set_option linter.all false
set_option maxRecDepth 1000000
set_option maxHeartbeats 0
/-! K22: a part's machine drawn. -/
namespace VS.K22
open PySem PySem.Spec PyProof.Rows L2
theorem F37 (k : Nat) : F (k + 1) 37 = runF 13 fun lk => evSs G.exm (F k) lk i_law_is_machine := rfl
theorem o_m1 (Φ : Nat → FS) : (ev Φ c_law_is_machine_1).o = mOpd (ev Φ c_law_is_machine_1).e := by unfold c_law_is_machine_1; rw [ev]; rfl
theorem o_m2 (Φ : Nat → FS) : (ev Φ c_law_is_machine_2).o = mOpd (ev Φ c_law_is_machine_2).e := by unfold c_law_is_machine_2; rw [ev]; rfl
theorem eq_sender {kind : Str} (h : kind ∈ kinds) : okD (.str kind) = true ∧ (kind == "sender") = decide (tn kind = 2) := by
  simp only [kinds, List.mem_cons, List.not_mem_nil, or_false] at h
  rcases h with rfl | rfl | rfl <;> exact ⟨by decide +kernel, by decide +kernel⟩
theorem ways_of {n : Nat} : ∀ {xs : List D}, (∀ x ∈ xs, ∃ w : List Nat, (∀ v ∈ w, v < n) ∧ w.length ≤ 4 ∧ x = .tuple (natsD w)) → ∃ ws : List (List Nat), xs = waysD ws ∧ ∀ w ∈ ws, (∀ v ∈ w, v < n) ∧ w.length ≤ 4
  | [], _ => ⟨[], rfl, fun _ h => (nomatch h)⟩
  | x :: xs, h => by
    obtain ⟨w, h1, h2, rfl⟩ := h x (.head _)
    obtain ⟨ws, rfl, hs⟩ := ways_of fun y hy => h y (.tail _ hy)
    exact ⟨w :: ws, rfl, fun y hy => by
      rcases List.mem_cons.mp hy with e | e
      · rw [e]; exact ⟨h1, h2⟩
      · exact hs y e⟩
section
variable (Φ : Nat → FS) (take : ∀ {xs : List D}, Bag xs → ∀ (m : Nat), 0 < m → m < 1073741824 → ∃ (v : Nat) (ys : List D), v < m ∧ Bag ys ∧ Φ 24 [.lst xs, .shr (.int m)] = .ok (.shr (.int v)) [some (.lst ys), none])
  (some_ : ∀ {xs : List D}, Bag xs → ∀ (ts : List D), 0 < ts.length → ts.length < 1073741824 → ∃ (d : D) (ys : List D), d ∈ ts ∧ Bag ys ∧ Φ 25 [.lst xs, .lst ts] = .ok (.shr d) [some (.lst ys), some (.lst ts)])
include take
theorem dm1 {xs : List D} (hb : Bag xs) {n : Nat} (hn : 0 < n) (hn2 : n < 1000) (t1 t2 t3 t4 t6 t7 t8 t9 : Option T) : ∃ (vs : List Nat) (ys : List D), Bag ys ∧ (∀ v ∈ vs, v < n) ∧ vs.length ≤ 2 ∧
    (ev Φ c_law_is_machine_1).e [some (.lst xs), t1, t2, t3, t4, some (.shr (.int n)), t6, t7, t8, t9, none, none, none] = .ok (.lst (natsD vs)) [some (.lst ys), t1, t2, t3, t4, some (.shr (.int n)), t6, t7, t8, t9, none, none, none] := by
  obtain ⟨v, ys, hv, hy, e⟩ := take hb 2 (by omega) (by omega)
  change Φ 24 [.lst xs, .shr (.int 2)] = _ at e
  have b2 := bnd62_nat (n := 1 + v) (by omega)
  obtain ⟨zs, ρ', e2, n2, p2, us, hu, rfl⟩ := mLc_inv (own := [12]) (tg := .name 12) (mt := VS.ret true) (me := (ev Φ (.call 24 (.cons (.slot 0) (.cons (.slot 5) .nil)))).e) (it := evIt .rng1 (evs Φ (.cons (.op .add (.cons (.lit (.int 1)) (.cons (.call 24 (.cons (.slot 0) (.cons (.lit (.int 2)) .nil))) .nil))) .nil)))
    (ρ := [some (.lst xs), t1, t2, t3, t4, some (.shr (.int n)), t6, t7, t8, t9, none, none, none]) (ds := natsD (List.range (1 + v))) (ρ1 := [some (.lst ys), t1, t2, t3, t4, some (.shr (.int n)), t6, t7, t8, t9, none, none, none])
    (fun ρ => ∃ ys, Bag ys ∧ ρ = [some (.lst ys), t1, t2, t3, t4, some (.shr (.int n)), t6, t7, t8, t9, none, none, none]) (fun x => ∃ v : Nat, v < n ∧ x = .int (v : Int))
    (by
      have b3 : bnd62 ((1 : Int) + (v : Int)) = true := by rw [show (1 : Int) + (v : Int) = ((1 + v : Nat) : Int) by omega]; exact b2
      have tn : ((1 : Int) + (v : Int)).toNat = 1 + v := by omega
      simp [ev, e, b3, tn]) rfl ⟨ys, hy, rfl⟩ (fun d hd ρ ⟨us, hu, er⟩ => by
      subst er
      obtain ⟨w, zs, hw, hz, e3⟩ := take hu n hn (by omega)
      refine ⟨.int w, [some (.lst zs), t1, t2, t3, t4, some (.shr (.int n)), t6, t7, t8, t9, none, none, none], ?_, ⟨w, hw, rfl⟩, zs, hz, rfl⟩
      simp [turn, ev, e3]) (by rw [nats_len, List.length_range]; exact Nat.le_trans (by omega : 1 + v ≤ 4096) (by decide))
  obtain ⟨vs, rfl, hvs⟩ := nats_of p2
  rw [nats_len, nats_len, List.length_range] at n2
  refine ⟨vs, us, hu, hvs, by omega, ?_⟩
  unfold c_law_is_machine_1
  rw [ev, x_mke]
  exact e2
theorem dm2 {xs : List D} (hb : Bag xs) {n : Nat} (hn : 0 < n) (hn2 : n < 1000) {kind : Str} (hk : kind ∈ kinds) (t1 t2 t3 t4 t7 t8 : Option T) : ∃ (ws : List (List Nat)) (ys : List D), Bag ys ∧ ws.length = tn kind ∧ (∀ w ∈ ws, (∀ v ∈ w, v < n) ∧ w.length ≤ 4) ∧
    (ev Φ c_law_is_machine_2).e [some (.lst xs), t1, t2, t3, t4, some (.shr (.int n)), some (.shr (.str kind)), t7, t8, none, none, none, none] = .ok (.lst (waysD ws)) [some (.lst ys), t1, t2, t3, t4, some (.shr (.int n)), some (.shr (.str kind)), t7, t8, none, none, none, none] := by
  obtain ⟨okk, ek⟩ := eq_sender hk
  have oks : okD (.str "sender") = true := by decide +kernel
  have t := tn_le kind
  have b2 : bnd62 2 = true := bnd62_nat (n := 2) (by omega)
  have b3 : bnd62 3 = true := bnd62_nat (n := 3) (by omega)
  obtain ⟨zs, ρ', e2, n2, p2, us, hu, rfl⟩ := mLc_inv (own := [9]) (tg := .name 9) (mt := VS.ret true) (me := (ev Φ (.op .tuple (.cons (.op .sset (.cons c_law_is_machine_1 .nil)) .nil))).e) (it := evIt .rng1 (evs Φ (.cons (.ite (.op .eq (.cons (.slot 6) (.cons (.lit (.str "sender")) .nil))) (.lit (.int 2)) (.lit (.int 3))) .nil)))
    (ρ := [some (.lst xs), t1, t2, t3, t4, some (.shr (.int n)), some (.shr (.str kind)), t7, t8, none, none, none, none]) (ds := natsD (List.range (tn kind))) (ρ1 := [some (.lst xs), t1, t2, t3, t4, some (.shr (.int n)), some (.shr (.str kind)), t7, t8, none, none, none, none])
    (fun ρ => ∃ ys, Bag ys ∧ ρ = [some (.lst ys), t1, t2, t3, t4, some (.shr (.int n)), some (.shr (.str kind)), t7, t8, none, none, none, none]) (fun x => ∃ w : List Nat, (∀ v ∈ w, v < n) ∧ w.length ≤ 4 ∧ x = .tuple (natsD w))
    (by
      by_cases c : tn kind = 2
      · rw [c] at ek ⊢
        simp [ev, isCmp, okk, oks, ek, b2]
      · have c3 : tn kind = 3 := by omega
        rw [decide_eq_false c] at ek
        rw [c3]
        simp [ev, isCmp, okk, oks, ek, b3]) rfl ⟨xs, hb, rfl⟩ (fun d hd ρ ⟨us, hu, er⟩ => by
      subst er
      obtain ⟨j, _, rfl⟩ := nats_mem.mp hd
      obtain ⟨vs, zs, hz, hv, l2, e3⟩ := dm1 Φ take hu hn hn2 t1 t2 t3 t4 (some (.shr (.str kind))) t7 t8 (some (.shr (.int j)))
      have es := sset_nats (ns := vs) (by omega)
      have om := o_m1 Φ
      refine ⟨.tuple (natsD (srt (ddN vs))), [some (.lst zs), t1, t2, t3, t4, some (.shr (.int n)), some (.shr (.str kind)), t7, t8, none, none, none, none], ?_, ⟨_, fun v h => hv v (ddN_mem.mp (srt_mem.mp h)), ?_, rfl⟩, zs, hz, rfl⟩
      · simp [turn, ev, om, e3, es]
      · rw [(srt_perm _).length_eq]; exact Nat.le_trans (ddN_len vs) (by omega)) (by rw [nats_len, List.length_range]; exact Nat.le_trans (by omega : tn kind ≤ 4096) (by decide))
  obtain ⟨ws, rfl, hws⟩ := ways_of p2
  unfold waysD at n2
  rw [List.length_map, nats_len, List.length_range] at n2
  refine ⟨ws, us, hu, n2, hws, ?_⟩
  unfold c_law_is_machine_2
  rw [ev, x_mke]
  exact e2
include some_
theorem dm_b {xs : List D} (hb : Bag xs) {n : Nat} (hn : 0 < n) (hn2 : n < 1000) {kind : Str} (hk : kind ∈ kinds) (R : List MR) (hR : R.length < 100) (t1 t8 : Option T) : ∃ (r : MR) (ys : List D) (t8' : Option T), Bag ys ∧ (∀ ws, r = .tk ws → ws.length = tn kind ∧ ∀ w ∈ ws, (∀ x ∈ w, x < n) ∧ w.length ≤ 4) ∧ (∀ g w, r = .gv g w → g < 3 ∧ (∀ x ∈ w, x < n) ∧ w.length ≤ 4) ∧
    evSs G.exm Φ [true] b_law_is_machine_1 [some (.lst xs), t1, none, none, none, some (.shr (.int n)), some (.shr (.str kind)), some (.lst (R.map rowM)), t8, none, none, none, none] = .ok .next [some (.lst ys), t1, none, none, none, some (.shr (.int n)), some (.shr (.str kind)), some (.lst ((R ++ [r]).map rowM)), t8', none, none, none, none] := by
  obtain ⟨ws, ys, hy, lw, hw, e1⟩ := dm2 Φ take hb hn hn2 hk t1 none none none (some (.lst (R.map rowM))) t8
  obtain ⟨g, zs, hg, hz, e2⟩ := take hy 3 (by omega) (by omega)
  change Φ 24 [.lst ys, .shr (.int 3)] = _ at e2
  have t := tn_le kind
  have h0 : 0 < ws.length := by omega
  have iw : atI (waysD ws) 0 = some (.tuple (natsD ws[0])) := by
    have : atI (waysD ws) ((0 : Nat) : Int) = _ := atI_nat (waysD ws) 0 (by unfold waysD; rw [List.length_map]; omega)
    rw [show ((0 : Nat) : Int) = 0 from rfl] at this
    rw [this]
    unfold waysD
    simp [h0]
  obtain ⟨d, us, hd, hu, e3⟩ := some_ hz [rowM (.tk ws), rowM (.gv g ws[0])] (by simp) (by simp)
  have om := o_m2 Φ
  have l4 : R.length ≤ 4095 := by omega
  have l4' : (R.map rowM).length < sizeLine := by rw [List.length_map]; exact Nat.lt_of_lt_of_le hR (by decide)
  have fin : ∀ r : MR, d = rowM r → evSs G.exm Φ [true] b_law_is_machine_1 [some (.lst xs), t1, none, none, none, some (.shr (.int n)), some (.shr (.str kind)), some (.lst (R.map rowM)), t8, none, none, none, none] = .ok .next [some (.lst us), t1, none, none, none, some (.shr (.int n)), some (.shr (.str kind)), some (.lst ((R ++ [r]).map rowM)), some (.shr (.tuple (waysD ws))), none, none, none, none] := fun r er => by
    refine go_next (ρ1 := [some (.lst ys), t1, none, none, none, some (.shr (.int n)), some (.shr (.str kind)), some (.lst (R.map rowM)), some (.shr (.tuple (waysD ws))), none, none, none, none]) (by simp [evS, ev, om, e1]) ?_
    refine go_next ?_ go_nil
    rw [List.map_append, show [r].map rowM = [d] by rw [er]; rfl]
    rw [show rowM (.tk ws) = .tuple [.str "take", .tuple (waysD ws)] from rfl, show rowM (.gv g ws[0]) = .tuple [.str "give", .int (g : Int), .tuple (natsD ws[0])] from rfl] at e3
    generalize R.map rowM = RR at *
    generalize waysD ws = wD at *
    simp [evS, ev, e2, iw, e3, l4']
  simp only [List.mem_cons, List.not_mem_nil, or_false] at hd
  rcases hd with hd | hd
  · exact ⟨.tk ws, us, _, hu, fun ws' e => by cases e; exact ⟨lw, hw⟩, fun g w e => (nomatch e), fin _ hd⟩
  · exact ⟨.gv g ws[0], us, _, hu, fun ws' e => (nomatch e), fun g' w e => by cases e; exact ⟨hg, hw _ (List.getElem_mem h0)⟩, fin _ hd⟩
end
end VS.K22
set_option Elab.async false
set_option linter.all false
set_option maxRecDepth 1000000
set_option maxHeartbeats 0
/-! K22: a part's machine looked at. -/
namespace VS.K22
open PySem PySem.Spec PyProof.Rows L2
def btk (rows : List MR) : List D := rows.map fun r => .bool (isTk r)
theorem range_rowAt (rows : List MR) : (List.range rows.length).map (rowAt rows) = rows := by
  apply List.ext_getElem
  · simp
  · intro i h1 h2
    simp [rowAt, h2]
theorem o_m3 (Φ : Nat → FS) : (ev Φ c_law_is_machine_3).o = mOpd (ev Φ c_law_is_machine_3).e := by unfold c_law_is_machine_3; rw [ev]; rfl
theorem o_m4 (Φ : Nat → FS) : (ev Φ c_law_is_machine_4).o = mOpd (ev Φ c_law_is_machine_4).e := by unfold c_law_is_machine_4; rw [ev]; rfl
theorem o_m5 (Φ : Nat → FS) : (ev Φ c_law_is_machine_5).o = mOpd (ev Φ c_law_is_machine_5).e := by unfold c_law_is_machine_5; rw [ev]; rfl
theorem o_m6 (Φ : Nat → FS) : (ev Φ c_law_is_machine_6).o = mOpd (ev Φ c_law_is_machine_6).e := by unfold c_law_is_machine_6; rw [ev]; rfl
theorem o_m7 (Φ : Nat → FS) : (ev Φ c_law_is_machine_7).o = mOpd (ev Φ c_law_is_machine_7).e := by unfold c_law_is_machine_7; rw [ev]; rfl
theorem ok_ways (ws : List (List Nat)) : okD (.list (waysD ws)) = true := List.all_eq_true.mpr fun d hd => by
  obtain ⟨w, _, rfl⟩ := List.mem_map.mp hd
  refine List.all_eq_true.mpr fun x hx => ?_
  obtain ⟨a, _, rfl⟩ := nats_mem.mp hx
  rfl
theorem ok_btk (rows : List MR) : okD (.list (btk rows)) = true := List.all_eq_true.mpr fun d hd => by
  obtain ⟨w, _, rfl⟩ := List.mem_map.mp hd
  rfl
theorem refl_of {d : D} (h : okD d = true) : PyData.eqv d d = true := PySem.SeqAt.eqv_refl _ (okD_lay h)
section
variable {kind : Str} {rows : List MR} (W : MW kind rows) (Φ : Nat → FS)
include W
theorem m3 (e4 : ∀ n (hn : n < rows.length), Φ 4 [.shr (mD kind rows), .shr (.int (n : Int))] = .ok (.shr (.bool (isTk rows[n]))) [none, none]) {t1 : Option T} (h1 : t1 = none ∨ ∃ d, t1 = some (.shr d)) (t0 t3 t4 t6 t7 t8 : Option T) :
    (ev Φ c_law_is_machine_3).e [t0, t1, some (.shr (mD kind rows)), t3, t4, some (.shr (.int rows.length)), t6, t7, t8, none, none, none, none] = .ok (.lst (btk rows)) [t0, t1, some (.shr (mD kind rows)), t3, t4, some (.shr (.int rows.length)), t6, t7, t8, none, none, none, none] := by
  have b2 := bnd62_nat (n := rows.length) (by have := W.few; omega)
  have ef : (natsD (List.range rows.length)).filterMap (fun x => match x with | .int i => some (.bool (isTk (rowAt rows i.toNat))) | _ => none) = btk rows := by
    rw [gif_nats (f := fun s => .bool (isTk (rowAt rows s))) fun s _ => by simp]
    unfold btk
    have : (fun s => PyData.bool (isTk (rowAt rows s))) = (fun r => PyData.bool (isTk r)) ∘ rowAt rows := rfl
    rw [this, ← List.map_map, range_rowAt]
  unfold c_law_is_machine_3
  rw [ev, x_mke, ← ef]
  refine (mLc_pure (ds := natsD (List.range rows.length)) (ρ1 := [t0, t1, some (.shr (mD kind rows)), t3, t4, some (.shr (.int rows.length)), t6, t7, t8, none, none, none, none]) (fun x => match x with | .int i => some (.bool (isTk (rowAt rows i.toNat))) | _ => none) ?_ ?_ ?_ ?_).trans ?_
  · simp [ev, b2]
  · rcases h1 with rfl | ⟨d, rfl⟩ <;> rfl
  · intro x hx
    obtain ⟨n, hn, rfl⟩ := nats_mem.mp hx
    have hn' := List.mem_range.mp hn
    have e := e4 n hn'
    rw [← rowAt_eq hn'] at e
    generalize mD kind rows = mm at *
    simp [turn, ev, e]
  · rw [nats_len, List.length_range]; exact Nat.le_trans (by have := W.few; omega : rows.length ≤ 4096) (by decide)
  · rfl
theorem m4 (t0 t1 t2 t3 t4 t5 t6 t8 : Option T) : (ev Φ c_law_is_machine_4).e [t0, t1, t2, t3, t4, t5, t6, some (.lst (rows.map rowM)), t8, none, none, none, none] = .ok (.lst (btk rows)) [t0, t1, t2, t3, t4, t5, t6, some (.shr (.list (rows.map rowM))), t8, none, none, none, none] := by
  have n1 : (("take" : Str) == ("take" : Str)) = true := by decide +kernel
  have n2 : (("give" : Str) == ("take" : Str)) = false := by decide +kernel
  have ef : (rows.map rowM).filterMap (fun x => match x with | .tuple [_, _] => some (.bool true) | _ => some (.bool false)) = btk rows := by
    clear W
    unfold btk
    induction rows with
    | nil => rfl
    | cons r rows ih =>
      rw [List.map_cons, List.map_cons, ← ih]
      cases r <;> rfl
  unfold c_law_is_machine_4
  rw [ev, x_mke, ← ef]
  refine (mLc_pure (ds := rows.map rowM) (ρ1 := [t0, t1, t2, t3, t4, t5, t6, some (.shr (.list (rows.map rowM))), t8, none, none, none, none]) (fun x => match x with | .tuple [_, _] => some (.bool true) | _ => some (.bool false)) ?_ ?_ ?_ ?_).trans ?_
  · simp [ev]
  · rfl
  · intro x hx
    obtain ⟨r, hr, rfl⟩ := List.mem_map.mp hx
    generalize rows.map rowM = rr at *
    cases r <;> simp [turn, ev, isCmp, rowM, okT, okG, n1, n2]
  · rw [List.length_map]; exact Nat.le_trans (by have := W.few; omega : rows.length ≤ 4096) (by decide)
  · rfl
theorem m5 {n : Nat} (hn : n < rows.length) {ws : List (List Nat)} (c : rows[n] = .tk ws) (e6 : ∀ s : Nat, s < tn kind → Φ 6 [.shr (mD kind rows), .shr (.int (n : Int)), .shr (.int (s : Int))] = .ok (.shr (.tuple (natsD (ws.getD s [])))) [none, none, none]) (t0 t3 t4 t5 t6 t8 : Option T) :
    (ev Φ c_law_is_machine_5).e [t0, some (.shr (.int n)), some (.shr (mD kind rows)), t3, t4, t5, t6, some (.shr (.list (rows.map rowM))), t8, none, none, none, none] = .ok (.lst (waysD ws)) [t0, some (.shr (.int n)), some (.shr (mD kind rows)), t3, t4, t5, t6, some (.shr (.list (rows.map rowM))), t8, none, none, none, none] := by
  have hm : MR.tk ws ∈ rows := by rw [← c]; exact List.getElem_mem hn
  have lw := (W.tk ws hm).1
  have t := tn_le kind
  have b2 := bnd62_nat (n := ws.length) (by omega)
  have ix := ix_rowM hn
  rw [c] at ix
  have lwd : (waysD ws).length = ws.length := by unfold waysD; rw [List.length_map]
  have ef : (natsD (List.range ws.length)).filterMap (fun x => match x with | .int i => some (.tuple (natsD (ws.getD i.toNat []))) | _ => none) = waysD ws := by
    rw [gif_nats (f := fun s => .tuple (natsD (ws.getD s []))) fun s _ => by simp]
    unfold waysD
    apply List.ext_getElem
    · simp
    · intro i h1 h2
      rw [List.length_map] at h2
      simp [h2]
  unfold c_law_is_machine_5
  rw [ev, x_mke, ← ef]
  refine (mLc_pure (ds := natsD (List.range ws.length)) (ρ1 := [t0, some (.shr (.int n)), some (.shr (mD kind rows)), t3, t4, t5, t6, some (.shr (.list (rows.map rowM))), t8, none, none, none, none]) (fun x => match x with | .int i => some (.tuple (natsD (ws.getD i.toNat []))) | _ => none) ?_ ?_ ?_ ?_).trans ?_
  · simp [ev, ix, rowM, lwd, b2]
  · rfl
  · intro x hx
    obtain ⟨s, hs, rfl⟩ := nats_mem.mp hx
    have hs' := List.mem_range.mp hs
    have e := e6 s (by omega)
    generalize mD kind rows = mm at *
    generalize rows.map rowM = rr at *
    simp [turn, ev, e]
  · rw [nats_len, List.length_range]; exact Nat.le_trans (by omega : ws.length ≤ 4096) (by decide)
  · rfl
theorem m_b2 {n : Nat} (hn : n < rows.length) (e5 : ∀ g w, rows[n] = .gv g w → Φ 5 [.shr (mD kind rows), .shr (.int (n : Int))] = .ok (.shr (.int (g : Int))) [none, none]) (e6n : ∀ g w, rows[n] = .gv g w → Φ 6 [.shr (mD kind rows), .shr (.int (n : Int)), .shr .none] = .ok (.shr (.tuple (natsD w))) [none, none, none])
    (e6 : ∀ ws, rows[n] = .tk ws → ∀ s : Nat, s < tn kind → Φ 6 [.shr (mD kind rows), .shr (.int (n : Int)), .shr (.int (s : Int))] = .ok (.shr (.tuple (natsD (ws.getD s [])))) [none, none, none]) (t0 t3 t4 t5 t6 t8 : Option T) :
    evSs G.exm Φ [true] b_law_is_machine_2 [t0, some (.shr (.int n)), some (.shr (mD kind rows)), t3, t4, t5, t6, some (.shr (.list (rows.map rowM))), t8, none, none, none, none] = .ok .next [t0, some (.shr (.int n)), some (.shr (mD kind rows)), t3, t4, t5, t6, some (.shr (.list (rows.map rowM))), t8, none, none, none, none] := by
  have ix := ix_rowM hn
  have n1 : (("take" : Str) == ("take" : Str)) = true := by decide +kernel
  have n2 : (("give" : Str) == ("take" : Str)) = false := by decide +kernel
  have n3 : (("take" : Str) == ("give" : Str)) = false := by decide +kernel
  have n4 : (("give" : Str) == ("give" : Str)) = true := by decide +kernel
  cases c : rows[n] with
  | gv g w =>
    rw [c] at ix
    have a5 := e5 g w c
    have a6 := e6n g w c
    have ok := ok_ntup w
    have rf := refl_of ok
    generalize mD kind rows = mm at *
    generalize rows.map rowM = rr at *
    refine go_next (go_iteF (ρ1 := [t0, some (.shr (.int n)), some (.shr mm), t3, t4, t5, t6, some (.shr (.list rr)), t8, none, none, none, none]) (by simp [ev, isCmp, ix, rowM, okG, n4, a5, a6, ok, rf]) go_nil) ?_
    exact go_next (go_iteF (ρ1 := [t0, some (.shr (.int n)), some (.shr mm), t3, t4, t5, t6, some (.shr (.list rr)), t8, none, none, none, none]) (by simp [ev, isCmp, ix, rowM, okG, okT, n2]) go_nil) go_nil
  | tk ws =>
    rw [c] at ix
    have a5 := m5 W Φ hn c (e6 ws c) t0 t3 t4 t5 t6 t8
    have om := o_m5 Φ
    have ok := ok_ways ws
    have rf := refl_of ok
    generalize mD kind rows = mm at *
    generalize rows.map rowM = rr at *
    refine go_next (go_iteF (ρ1 := [t0, some (.shr (.int n)), some (.shr mm), t3, t4, t5, t6, some (.shr (.list rr)), t8, none, none, none, none]) (by simp [ev, isCmp, ix, rowM, okG, okT, n3]) go_nil) ?_
    refine go_next (go_iteF (ρ1 := [t0, some (.shr (.int n)), some (.shr mm), t3, t4, t5, t6, some (.shr (.list rr)), t8, none, none, none, none]) ?_ go_nil) go_nil
    simp only [rowM] at ix
    generalize hw : waysD ws = wD at *
    simp [ev, isCmp, ix, okT, n1, om, a5, ok, rf]
/-- what the takes among S lead to by the sign 1 -/
def tkN : MR → Option (List Nat)
  | .tk ws => some (ws.getD 1 [])
  | .gv _ _ => none
theorem m7 {S : List Nat} (hS : ∀ s ∈ S, s < rows.length) (l : S.length ≤ 10) {t1 : Option T} (h1 : t1 = none ∨ ∃ d, t1 = some (.shr d)) (t0 t2 t4 t5 t6 t8 : Option T) :
    (ev Φ c_law_is_machine_7).e [t0, t1, t2, some (.lst (natsD S)), t4, t5, t6, some (.shr (.list (rows.map rowM))), t8, none, none, none, none] = .ok (.lst ((S.filterMap fun s => tkN (rowAt rows s)).map fun x => .list (natsD x))) [t0, t1, t2, some (.shr (.list (natsD S))), t4, t5, t6, some (.shr (.list (rows.map rowM))), t8, none, none, none, none] := by
  have n1 : (("take" : Str) == ("take" : Str)) = true := by decide +kernel
  have n2 : (("give" : Str) == ("take" : Str)) = false := by decide +kernel
  have ef : (natsD S).filterMap (fun x => match x with | .int i => (tkN (rowAt rows i.toNat)).map fun w => PyData.list (natsD w) | _ => none) = (S.filterMap fun s => tkN (rowAt rows s)).map fun x => PyData.list (natsD x) := by
    clear hS l
    induction S with
    | nil => rfl
    | cons s S ih =>
      rw [nats_cons, List.filterMap_cons, List.filterMap_cons]
      simp only [Int.toNat_natCast]
      cases tkN (rowAt rows s) with
      | none => exact ih
      | some w => simp only [Option.map_some, List.map_cons, ih]
  unfold c_law_is_machine_7
  rw [ev, x_mke, ← ef]
  refine (mLc_pure (ds := natsD S) (ρ1 := [t0, t1, t2, some (.shr (.list (natsD S))), t4, t5, t6, some (.shr (.list (rows.map rowM))), t8, none, none, none, none]) (fun x => match x with | .int i => (tkN (rowAt rows i.toNat)).map fun w => .list (natsD w) | _ => none) ?_ ?_ ?_ ?_).trans ?_
  · simp [ev]
  · rcases h1 with rfl | ⟨d, rfl⟩ <;> rfl
  · intro x hx
    obtain ⟨s, hs, rfl⟩ := nats_mem.mp hx
    have hs' := hS s hs
    have ix := ix_rowM hs'
    have er := rowAt_eq hs'
    cases c : rows[s] with
    | gv g w =>
      rw [c] at ix er
      generalize rows.map rowM = rr at *
      simp [turn, ev, isCmp, ix, rowM, okT, okG, n2, er, tkN]
    | tk ws =>
      rw [c] at ix er
      have hm : MR.tk ws ∈ rows := by rw [← c]; exact List.getElem_mem hs'
      have lw := (W.tk ws hm).1
      have t := tn_le kind
      have iw : atI (waysD ws) 1 = some (.tuple (natsD (ws.getD 1 []))) := by
        have : atI (waysD ws) ((1 : Nat) : Int) = _ := atI_nat (waysD ws) 1 (by unfold waysD; rw [List.length_map]; omega)
        rw [show ((1 : Nat) : Int) = 1 from rfl] at this
        rw [this]
        unfold waysD
        have h1 : 1 < ws.length := by omega
        simp [h1]
      have ek : tkN (rowAt rows s) = some (ws.getD 1 []) := by rw [er]; rfl
      generalize rows.map rowM = rr at *
      simp only [rowM] at ix
      generalize waysD ws = wD at *
      generalize ws.getD 1 [] = w1 at *
      simp [turn, ev, isCmp, ix, okT, n1, ek, iw]
  · rw [nats_len]; exact Nat.le_trans (by omega : S.length ≤ 4096) (by decide)
  · rcases h1 with rfl | ⟨d, rfl⟩ <;> rfl
end
end VS.K22
set_option Elab.async false
set_option linter.all false
set_option maxRecDepth 1000000
set_option maxHeartbeats 0
/-! K22: _law_is_machine, put together. -/
namespace VS.K22
open PySem PySem.Spec PyProof.Rows L2
theorem dm6 (Φ : Nat → FS) (take : ∀ {xs : List D}, Bag xs → ∀ (m : Nat), 0 < m → m < 1073741824 → ∃ (v : Nat) (ys : List D), v < m ∧ Bag ys ∧ Φ 24 [.lst xs, .shr (.int m)] = .ok (.shr (.int v)) [some (.lst ys), none]) {xs : List D} (hb : Bag xs) {n : Nat} (hn : 0 < n) (hn2 : n < 1000) {t1 : Option T} (h1 : t1 = none ∨ ∃ d, t1 = some (.shr d)) (t2 t3 t4 t6 t7 t8 : Option T) : ∃ (vs : List Nat) (ys : List D), Bag ys ∧ (∀ v ∈ vs, v < n) ∧ vs.length = 3 ∧
    (ev Φ c_law_is_machine_6).e [some (.lst xs), t1, t2, t3, t4, some (.shr (.int n)), t6, t7, t8, none, none, none, none] = .ok (.lst (natsD vs)) [some (.lst ys), t1, t2, t3, t4, some (.shr (.int n)), t6, t7, t8, none, none, none, none] := by
  have b3 : bnd62 3 = true := bnd62_nat (n := 3) (by omega)
  obtain ⟨zs, ρ', e2, n2, p2, us, hu, rfl⟩ := mLc_inv (own := [1]) (tg := .name 1) (mt := VS.ret true) (me := (ev Φ (.call 24 (.cons (.slot 0) (.cons (.slot 5) .nil)))).e) (it := evIt .rng1 (evs Φ (.cons (.lit (.int 3)) .nil)))
    (ρ := [some (.lst xs), t1, t2, t3, t4, some (.shr (.int n)), t6, t7, t8, none, none, none, none]) (ds := natsD (List.range 3)) (ρ1 := [some (.lst xs), t1, t2, t3, t4, some (.shr (.int n)), t6, t7, t8, none, none, none, none])
    (fun ρ => ∃ ys, Bag ys ∧ ρ = [some (.lst ys), none, t2, t3, t4, some (.shr (.int n)), t6, t7, t8, none, none, none, none]) (fun x => ∃ v : Nat, v < n ∧ x = .int (v : Int))
    (by simp [ev, b3]) (by rcases h1 with rfl | ⟨d, rfl⟩ <;> rfl) ⟨xs, hb, rfl⟩ (fun d hd ρ ⟨us, hu, er⟩ => by
      subst er
      obtain ⟨w, zs, hw, hz, e3⟩ := take hu n hn (by omega)
      refine ⟨.int w, [some (.lst zs), none, t2, t3, t4, some (.shr (.int n)), t6, t7, t8, none, none, none, none], ?_, ⟨w, hw, rfl⟩, zs, hz, rfl⟩
      simp [turn, ev, e3]) (by rw [nats_len, List.length_range]; decide)
  obtain ⟨vs, rfl, hvs⟩ := nats_of p2
  rw [nats_len, nats_len, List.length_range] at n2
  refine ⟨vs, us, hu, hvs, n2, ?_⟩
  unfold c_law_is_machine_6
  rw [ev, x_mke]
  exact e2
theorem flat_len {l : List (List Nat)} {n : Nat} (h : ∀ x ∈ l, x.length ≤ n) : l.flatten.length ≤ n * l.length := by
  induction l with
  | nil => simp
  | cons x l ih =>
    have := h x (.head _)
    have := ih fun y hy => h y (.tail _ hy)
    rw [List.flatten_cons, List.length_append, List.length_cons, Nat.mul_succ]
    omega
theorem due_mem (rows : List MR) (S : List Nat) (m : Nat) : m ∈ (S.filterMap fun s => tkN (rowAt rows s)).flatten ↔ ∃ s ∈ S, m ∈ nx1 (rowAt rows s) := by
  rw [List.mem_flatten]
  constructor
  · rintro ⟨l, hl, hm⟩
    obtain ⟨s, hs, e⟩ := List.mem_filterMap.mp hl
    refine ⟨s, hs, ?_⟩
    cases c : rowAt rows s with
    | gv g w => rw [c] at e; cases e
    | tk ws => rw [c] at e; cases e; exact hm
  · rintro ⟨s, hs, hm⟩
    cases c : rowAt rows s with
    | gv g w => rw [c] at hm; cases hm
    | tk ws =>
      refine ⟨ws.getD 1 [], List.mem_filterMap.mpr ⟨s, hs, by rw [c]; rfl⟩, ?_⟩
      rw [c] at hm
      exact hm
theorem rg5 (Φ : Nat → FS) (t0 t1 t2 t3 t4 t6 t7 t8 t9 t10 t11 t12 : Option T) {n : Nat} (b2 : bnd62 (n : Int) = true) : evIt .rng1 (evs Φ (.cons (.slot 5) .nil)) [t0, t1, t2, t3, t4, some (.shr (.int n)), t6, t7, t8, t9, t10, t11, t12] = .ok (natsD (List.range n)) [t0, t1, t2, t3, t4, some (.shr (.int n)), t6, t7, t8, t9, t10, t11, t12] := by simp [ev, b2]
def isAt : ISs → Nat → IS
  | .nil, _ => .nop
  | .cons s _, 0 => s
  | .cons _ ss, n + 1 => isAt ss n
section
variable (Φ : Nat → FS)
theorem q0 {xs xs1 xs2 : List D} {v n : Nat} {kind : Str} (e1 : Φ 24 [.lst xs, .shr (.int 4)] = .ok (.shr (.int (v : Int))) [some (.lst xs1), none]) (e2 : Φ 25 [.lst xs1, .lst [.str "sender", .str "line", .str "receiver"]] = .ok (.shr (.str kind)) [some (.lst xs2), some (.lst [.str "sender", .str "line", .str "receiver"])]) (en : (1 : Int) + (v : Int) = (n : Int)) :
    evS G.exm Φ [true] (isAt i_law_is_machine 0) [some (.lst xs), none, none, none, none, none, none, none, none, none, none, none, none] = .ok .next [some (.lst xs2), none, none, none, none, some (.shr (.int n)), some (.shr (.str kind)), some (.lst []), none, none, none, none, none] := by
  simp only [i_law_is_machine, isAt]
  simp [evS, ev, e1, e2, en]
theorem q2 (t0 t1 t8 : Option T) (n : Nat) (kind : Str) (rr : List D) : evS G.exm Φ [true] (isAt i_law_is_machine 2) [t0, t1, none, none, none, some (.shr (.int n)), some (.shr (.str kind)), some (.lst rr), t8, none, none, none, none] = .ok .next [t0, t1, some (.shr (.tuple [.str "m", .str kind, .tuple [.int 0], .tuple rr])), none, none, some (.shr (.int n)), some (.shr (.str kind)), some (.lst rr), t8, none, none, none, none] := by
  simp only [i_law_is_machine, isAt]
  simp [evS, ev]
theorem q3 (t0 t1 t6 t8 : Option T) (n : Nat) (mm : D) (rr bl : List D) (f3 : Φ 3 [.shr mm] = .ok (.shr (.int n)) [none]) (m3 : (ev Φ c_law_is_machine_3).e [t0, t1, some (.shr mm), none, none, some (.shr (.int n)), t6, some (.lst rr), t8, none, none, none, none] = .ok (.lst bl) [t0, t1, some (.shr mm), none, none, some (.shr (.int n)), t6, some (.lst rr), t8, none, none, none, none])
    (m4 : (ev Φ c_law_is_machine_4).e [t0, t1, some (.shr mm), none, none, some (.shr (.int n)), t6, some (.lst rr), t8, none, none, none, none] = .ok (.lst bl) [t0, t1, some (.shr mm), none, none, some (.shr (.int n)), t6, some (.shr (.list rr)), t8, none, none, none, none]) (okb : okD (.list bl) = true) :
    evS G.exm Φ [true] (isAt i_law_is_machine 3) [t0, t1, some (.shr mm), none, none, some (.shr (.int n)), t6, some (.lst rr), t8, none, none, none, none] = .ok .next [t0, t1, some (.shr mm), none, none, some (.shr (.int n)), t6, some (.shr (.list rr)), t8, none, none, none, none] := by
  have rfb := refl_of okb
  have a3 := opdx (o_m3 Φ) m3
  have a4 := opdx (o_m4 Φ) m4
  have on : opT .ne [.list bl, .list bl] = some (.shr (.bool false)) := by rw [op_ne, okb, rfb]; rfl
  have c := cmpx (Φ := Φ) (o := .ne) rfl a3 a4 rfl rfl on
  simp only [i_law_is_machine, isAt]
  exact go_iteF (orx (ρ1 := [t0, t1, some (.shr mm), none, none, some (.shr (.int n)), t6, some (.lst rr), t8, none, none, none, none]) (by simp [ev, isCmp, f3]) c) go_nil
theorem q5 (t1 t2 t4 t6 t7 t8 : Option T) (n : Nat) {xs ys l6 l7 : List D} (e6 : (ev Φ c_law_is_machine_6).e [some (.lst xs), t1, t2, none, t4, some (.shr (.int n)), t6, t7, t8, none, none, none, none] = .ok (.lst l6) [some (.lst ys), t1, t2, none, t4, some (.shr (.int n)), t6, t7, t8, none, none, none, none]) (s6 : opT .sset [.list l6] = some (.lst l7)) :
    evS G.exm Φ [true] (isAt i_law_is_machine 5) [some (.lst xs), t1, t2, none, t4, some (.shr (.int n)), t6, t7, t8, none, none, none, none] = .ok .next [some (.lst ys), t1, t2, some (.lst l7), t4, some (.shr (.int n)), t6, t7, t8, none, none, none, none] := by
  have om6 := o_m6 Φ
  simp only [i_law_is_machine, isAt]
  simp [evS, ev, om6, e6, s6]
theorem q6 (t0 t1 t2 t5 t6 t7 t8 : Option T) {S l7 l8 l9 : List D} (m7 : (ev Φ c_law_is_machine_7).e [t0, t1, t2, some (.lst S), none, t5, t6, t7, t8, none, none, none, none] = .ok (.lst l7) [t0, t1, t2, some (.shr (.list S)), none, t5, t6, t7, t8, none, none, none, none]) (s7 : opT .sumL [.list l7] = some (.lst l8)) (s8 : opT .sset [.list l8] = some (.lst l9)) :
    evS G.exm Φ [true] (isAt i_law_is_machine 6) [t0, t1, t2, some (.lst S), none, t5, t6, t7, t8, none, none, none, none] = .ok .next [t0, t1, t2, some (.shr (.list S)), some (.lst l9), t5, t6, t7, t8, none, none, none, none] := by
  have om7 := o_m7 Φ
  simp only [i_law_is_machine, isAt]
  simp [evS, ev, om7, m7, s7, s8]
theorem q7 (t0 t1 t5 t6 t7 t8 : Option T) {mm : D} {S l9 : List D} {x1 x2 x3 x4 x5 : Option T} (f7 : Φ 7 [.shr mm, .shr (.tuple S), .shr (.int 1)] = .ok (.shr (.tuple l9)) [x1, x2, x3]) (f26 : Φ 26 [.shr (.tuple l9), .shr (.tuple l9)] = .ok (.shr (.bool true)) [x4, x5]) :
    evS G.exm Φ [true] (isAt i_law_is_machine 7) [t0, t1, some (.shr mm), some (.shr (.list S)), some (.lst l9), t5, t6, t7, t8, none, none, none, none] = .ok .next [t0, t1, some (.shr mm), some (.shr (.list S)), some (.lst l9), t5, t6, t7, t8, none, none, none, none] := by
  simp only [i_law_is_machine, isAt]
  refine go_iteF (ρ1 := [t0, t1, some (.shr mm), some (.shr (.list S)), some (.lst l9), t5, t6, t7, t8, none, none, none, none]) ?_ go_nil
  simp [ev, f7, f26]
theorem q8 (t1 t2 t3 t4 t6 t7 t8 : Option T) (n kk : Nat) {xs ys : List D} (e : Φ 24 [.lst xs, .shr (.int n)] = .ok (.shr (.int (kk : Int))) [some (.lst ys), none]) :
    evS G.exm Φ [true] (isAt i_law_is_machine 8) [some (.lst xs), t1, t2, t3, t4, some (.shr (.int n)), t6, t7, t8, none, none, none, none] = .ok .next [some (.lst ys), some (.shr (.int kk)), t2, t3, t4, some (.shr (.int n)), t6, t7, t8, none, none, none, none] := by
  simp only [i_law_is_machine, isAt]
  simp [evS, ev, e]
theorem q9 (t0 t3 t4 t5 t6 t8 : Option T) (kk : Nat) {mm : D} {rr : List D} (r : MR) (ix : atI rr (kk : Int) = some (rowM r)) (x5 : isTk r = true → Φ 5 [.shr mm, .shr (.int (kk : Int))] = .exn ⟨1, []⟩ [none, none]) (x6 : isTk r = false → Φ 6 [.shr mm, .shr (.int (kk : Int)), .shr (.int 0)] = .exn ⟨1, []⟩ [none, none, none]) :
    evS G.exm Φ [true] (isAt i_law_is_machine 9) [t0, some (.shr (.int kk)), some (.shr mm), t3, t4, t5, t6, some (.shr (.list rr)), t8, none, none, none, none] = .ok (.ret (.shr (.bool true))) [t0, some (.shr (.int kk)), some (.shr mm), t3, t4, t5, t6, some (.shr (.list rr)), t8, none, none, none, none] := by
  have hxm : G.exm 1 1 = some true := rfl
  have n1 : (("take" : Str) == ("take" : Str)) = true := by decide +kernel
  have n2 : (("give" : Str) == ("take" : Str)) = false := by decide +kernel
  simp only [i_law_is_machine, isAt]
  rw [evS]
  cases r with
  | tk ws =>
    have x := x5 rfl
    simp only [rowM] at ix
    simp [evS, ev, isCmp, ix, okT, n1, x, hxm]
  | gv g w =>
    have x := x6 rfl
    simp only [rowM] at ix
    simp [evS, ev, isCmp, ix, okT, okG, n2, x, hxm]
end
theorem machine_spec (k : Nat) {xs : List D} (hb : Bag xs) : ∃ ys, Bag ys ∧ F (k + 5) 37 [.lst xs] = .ok (.shr (.bool true)) [some (.lst ys)] := by
  have take : ∀ {xs : List D}, Bag xs → ∀ (m : Nat), 0 < m → m < 1073741824 → ∃ (v : Nat) (ys : List D), v < m ∧ Bag ys ∧ F (k + 4) 24 [.lst xs, .shr (.int m)] = .ok (.shr (.int v)) [some (.lst ys), none] := fun hb m h1 h2 => take_spec (k + 3) hb m h1 h2
  have some_ : ∀ {xs : List D}, Bag xs → ∀ (ts : List D), 0 < ts.length → ts.length < 1073741824 → ∃ (d : D) (ys : List D), d ∈ ts ∧ Bag ys ∧ F (k + 4) 25 [.lst xs, .lst ts] = .ok (.shr d) [some (.lst ys), some (.lst ts)] := fun hb ts h1 h2 => some_spec (k + 2) hb ts h1 h2
  have f3 := fun kind rows => many_spec (k + 3) kind rows
  have f4 := fun kind {rows : List MR} {n : Nat} (h : n < rows.length) => taking_spec (k + 3) kind h
  have f5 := fun kind {rows : List MR} {n : Nat} (h : n < rows.length) {g : Nat} {w : List Nat} (c : rows[n] = .gv g w) => sign_gv (k + 2) kind h c
  have f5x := fun kind {rows : List MR} {n : Nat} (h : n < rows.length) {ws} (c : rows[n] = .tk ws) => sign_tk (k + 2) kind h c
  have f6n := fun kind {rows : List MR} {n : Nat} (h : n < rows.length) {g : Nat} {w : List Nat} (c : rows[n] = .gv g w) => next_gv (k + 1) kind h c
  have f6x := fun kind {rows : List MR} {n : Nat} (h : n < rows.length) {g : Nat} {w : List Nat} (c : rows[n] = .gv g w) => next_gv0 (k + 1) kind h c
  have f6 := fun {kind} (hk : kind ∈ kinds) {rows : List MR} {n : Nat} (h : n < rows.length) {ws : List (List Nat)} (c : rows[n] = .tk ws) {s : Nat} (hs : s < tn kind) (hw : ws.length = tn kind) => next_tk (k + 1) hk h c hs hw
  have f7 := fun {kind} {rows : List MR} (W : MW kind rows) {S : List Nat} (h : ∀ s ∈ S, s < rows.length) => after_spec W k h
  have f26 := fun {xs : List D} (h : Shw (.tuple xs)) => alike_T (k + 3) xs h
  have hxm : G.exm 1 1 = some true := rfl
  change ∀ kind rows, F (k + 4) 3 _ = _ at f3
  rw [F37]
  generalize F (k + 4) = Φ at *
  -- the draws
  obtain ⟨v, xs1, hv, hb1, e1⟩ := take hb 4 (by omega) (by omega)
  change Φ 24 [.lst xs, .shr (.int 4)] = _ at e1
  obtain ⟨dk, xs2, hdk, hb2, e2⟩ := some_ hb1 (kinds.map PyData.str) (by simp [kinds]) (by simp [kinds])
  obtain ⟨kind, hkind, rfl⟩ := List.mem_map.mp hdk
  change Φ 25 [.lst xs1, .lst [.str "sender", .str "line", .str "receiver"]] = .ok (.shr (.str kind)) [some (.lst xs2), some (.lst [.str "sender", .str "line", .str "receiver"])] at e2
  have en : (1 : Int) + (v : Int) = ((1 + v : Nat) : Int) := by omega
  generalize hn : 1 + v = n at en
  have b2 := bnd62_nat (n := n) (by omega)
  obtain ⟨fl, ρ2, eL, hfl, zs, R, t1, t8, hz, hRt, hRg, lR, h1, rfl⟩ := for_inv (lk := [true]) (tg := .name 1) (b := evSs G.exm Φ [true] b_law_is_machine_1)
    (fun i ρ => ∃ (zs : List D) (R : List MR) (t1 t8 : Option T), Bag zs ∧ (∀ ws, MR.tk ws ∈ R → ws.length = tn kind ∧ ∀ w ∈ ws, (∀ x ∈ w, x < n) ∧ w.length ≤ 4) ∧ (∀ g w, MR.gv g w ∈ R → g < 3 ∧ (∀ x ∈ w, x < n) ∧ w.length ≤ 4) ∧ R.length = i ∧ (t1 = none ∨ ∃ d, t1 = some (.shr d)) ∧ ρ = [some (.lst zs), t1, none, none, none, some (.shr (.int n)), some (.shr (.str kind)), some (.lst (R.map rowM)), t8, none, none, none, none])
    (fun fl ρ => fl = .next ∧ ∃ (zs : List D) (R : List MR) (t1 t8 : Option T), Bag zs ∧ (∀ ws, MR.tk ws ∈ R → ws.length = tn kind ∧ ∀ w ∈ ws, (∀ x ∈ w, x < n) ∧ w.length ≤ 4) ∧ (∀ g w, MR.gv g w ∈ R → g < 3 ∧ (∀ x ∈ w, x < n) ∧ w.length ≤ 4) ∧ R.length = n ∧ (t1 = none ∨ ∃ d, t1 = some (.shr d)) ∧ ρ = [some (.lst zs), t1, none, none, none, some (.shr (.int n)), some (.shr (.str kind)), some (.lst (R.map rowM)), t8, none, none, none, none])
    (natsD (List.range n)) 0 [some (.lst xs2), none, none, none, none, some (.shr (.int n)), some (.shr (.str kind)), some (.lst []), none, none, none, none, none] ⟨xs2, [], none, none, hb2, fun _ h => (nomatch h), fun _ _ h => (nomatch h), rfl, .inl rfl, rfl⟩
    (fun j d ρ ej ⟨zs, R, t1, t8, hz, hRt, hRg, lR, h1, er⟩ => by
      subst er
      have jl : j < n := by
        have := (List.getElem?_eq_some_iff.mp ej).1
        rw [nats_len, List.length_range] at this
        exact this
      obtain ⟨r, us, t8', hu, hrt, hrg, e3⟩ := dm_b Φ take some_ hz (n := n) (by omega) (by omega) hkind R (by omega) (some (.shr d)) t8
      refine .next (ρ1 := [some (.lst zs), some (.shr d), none, none, none, some (.shr (.int n)), some (.shr (.str kind)), some (.lst (R.map rowM)), t8, none, none, none, none]) (by simp) e3 ⟨us, R ++ [r], _, t8', hu, fun ws hm => ?_, fun g w hm => ?_, by simp; omega, .inr ⟨d, rfl⟩, rfl⟩
      · rcases List.mem_append.mp hm with q | q
        · exact hRt ws q
        · exact hrt ws (List.mem_singleton.mp q).symm
      · rcases List.mem_append.mp hm with q | q
        · exact hRg g w q
        · exact hrg g w (List.mem_singleton.mp q).symm)
    (fun ρ ⟨zs, R, t1, t8, hz, hRt, hRg, lR, h1, er⟩ => ⟨rfl, zs, R, t1, t8, hz, hRt, hRg, by rw [nats_len, List.length_range] at lR; omega, h1, er⟩)
  subst hfl
  subst lR
  have W : MW kind R := ⟨hkind, hRt, hRg, by omega⟩
  have m3' := m3 W Φ (fun n hn => f4 kind hn) h1 (some (.lst zs)) none none (some (.shr (.str kind))) (some (.lst (R.map rowM))) t8
  have m4' := m4 W Φ (some (.lst zs)) t1 (some (.shr (mD kind R))) none none (some (.shr (.int R.length))) (some (.shr (.str kind))) t8
  obtain ⟨ρ5, e5, t1', h1', rfl⟩ := for_all (lk := [true]) (tg := .name 1) (b := evSs G.exm Φ [true] b_law_is_machine_2)
    (I := fun ρ => ∃ t1, (t1 = none ∨ ∃ d, t1 = some (T.shr d)) ∧ ρ = [some (.lst zs), t1, some (.shr (mD kind R)), none, none, some (.shr (.int R.length)), some (.shr (.str kind)), some (.shr (.list (R.map rowM))), t8, none, none, none, none])
    (natsD (List.range R.length)) _ ⟨t1, h1, rfl⟩ fun d hd ρ ⟨a1, _, er⟩ => by
    subst er
    obtain ⟨j, hj, rfl⟩ := nats_mem.mp hd
    have hj' := List.mem_range.mp hj
    have e := m_b2 W Φ hj' (fun g w c => f5 kind hj' c) (fun g w c => f6n kind hj' c) (fun ws c s hs => f6 hkind hj' c hs (hRt ws (by rw [← c]; exact List.getElem_mem hj')).1) (some (.lst zs)) none none (some (.shr (.int R.length))) (some (.shr (.str kind))) t8
    exact ⟨[some (.lst zs), some (.shr (.int j)), some (.shr (mD kind R)), none, none, some (.shr (.int R.length)), some (.shr (.str kind)), some (.shr (.list (R.map rowM))), t8, none, none, none, none], by simp, _, e, _, .inr ⟨_, rfl⟩, rfl⟩
  obtain ⟨vs, zs6, hz6, hvs, l3, e6⟩ := dm6 Φ take hz (n := R.length) (by omega) (by omega) h1' (some (.shr (mD kind R))) none none (some (.shr (.str kind))) (some (.shr (.list (R.map rowM)))) t8
  have s6 := sset_nats (ns := vs) (by omega)
  generalize hS : srt (ddN vs) = S at s6
  have hSl : ∀ s ∈ S, s < R.length := fun s hs => hvs s (by rw [← hS] at hs; exact ddN_mem.mp (srt_mem.mp hs))
  have lS : S.length ≤ 3 := by rw [← hS, (srt_perm _).length_eq]; exact Nat.le_trans (ddN_len vs) (by omega)
  have m7' := m7 W Φ hSl (by omega) h1' (some (.lst zs6)) (some (.shr (mD kind R))) none (some (.shr (.int R.length))) (some (.shr (.str kind))) t8
  have lD : (S.filterMap fun s => tkN (rowAt R s)).flatten.length ≤ 12 := by
    have a := flat_len (l := S.filterMap fun s => tkN (rowAt R s)) (n := 4) fun x hx => by
      obtain ⟨s, hs, e⟩ := List.mem_filterMap.mp hx
      have := (nx1_lt W (hSl s hs)).2
      cases c : rowAt R s with
      | gv g w => rw [c] at e; cases e
      | tk ws => rw [c] at e this; cases e; exact this
    have b : (S.filterMap fun s => tkN (rowAt R s)).length ≤ S.length := List.length_filterMap_le _ _
    omega
  have s7 := sumL_nats (l := S.filterMap fun s => tkN (rowAt R s)) (by omega)
  have s7' := sset_nats (ns := (S.filterMap fun s => tkN (rowAt R s)).flatten) (by omega)
  have eq7 : srt (ddN (S.filterMap fun s => tkN (rowAt R s)).flatten) = srt (gath R S []) := srt_eq (ddN_nodup _) (gath_nd R S [] List.nodup_nil) fun m => by
    rw [ddN_mem, due_mem, gath_mem]
    simp
  rw [eq7] at s7'
  have f7' := f7 W hSl
  have gl : ∀ x ∈ gath R S [], x < R.length := fun x hx => by
    rcases (gath_mem R S [] x).mp hx with q | ⟨s, hs, q⟩
    · cases q
    · exact (nx1_lt W (hSl s hs)).1 x q
  have gn := few_of (gath_nd R S [] List.nodup_nil) gl
  have sh : Shw (.tuple (natsD (srt (gath R S [])))) := shw_ntup (fun n hn => by have := gl n (srt_mem.mp hn); omega) (by rw [(srt_perm _).length_eq]; omega)
  obtain ⟨o1, o2, a26⟩ := f26 sh
  obtain ⟨kk, zs9, hkk, hz9, e9⟩ := take hz6 R.length (by omega) (by omega)
  refine ⟨zs9, hz9, ?_⟩
  have okb := ok_btk R
  have f3' := f3 kind R
  have ixk := ix_rowM hkk
  refine (runF_ret (ρ := [some (.lst zs9), some (.shr (.int kk)), some (.shr (mD kind R)), some (.shr (.list (natsD S))), some (.lst (natsD (srt (gath R S [])))), some (.shr (.int R.length)), some (.shr (.str kind)), some (.shr (.list (R.map rowM))), t8, none, none, none, none]) (t := .shr (.bool true)) ?_).trans rfl
  show evSs G.exm Φ [true] i_law_is_machine [some (.lst xs), none, none, none, none, none, none, none, none, none, none, none, none] = _
  refine go_next (q0 Φ e1 e2 en) ?_
  refine go_next (go_for (ds := natsD (List.range R.length)) (rg5 Φ _ _ _ _ _ _ _ _ _ _ _ _ b2) eL) ?_
  refine go_next (q2 Φ _ _ _ _ _ _) ?_
  refine go_next (q3 Φ _ _ _ _ _ _ _ _ f3' m3' m4' okb) ?_
  refine go_next (go_for (ds := natsD (List.range R.length)) (rg5 Φ _ _ _ _ _ _ _ _ _ _ _ _ b2) e5) ?_
  refine go_next (q5 Φ _ _ _ _ _ _ _ e6 s6) ?_
  refine go_next (q6 Φ _ _ _ _ _ _ _ m7' s7 s7') ?_
  refine go_next (q7 Φ _ _ _ _ _ _ f7' a26) ?_
  refine go_next (q8 Φ _ _ _ _ _ _ _ _ _ e9) ?_
  refine go_ret (q9 Φ _ _ _ _ _ _ _ R[kk] ixk (fun h => ?_) fun h => ?_)
  · cases c : R[kk] with
    | tk ws => exact f5x kind hkk c
    | gv g w => rw [c] at h; cases h
  · cases c : R[kk] with
    | tk ws => rw [c] at h; cases h
    | gv g w => exact f6x kind hkk c
end VS.K22
set_option Elab.async false
set_option linter.all false
set_option maxRecDepth 1000000
set_option maxHeartbeats 0
/-! K22: the law. -/
namespace VS.K22
open PySem PySem.Spec PyProof.Rows L2
theorem F23 (k : Nat) : F (k + 1) 23 = runF 2 fun lk => evSs G.exm (F k) lk i_law_bag := rfl
theorem F38 (k : Nat) : F (k + 1) 38 = runF 4 fun lk => evSs G.exm (F k) lk i_law := rfl
theorem cut_ints2 (ns : List Int) (lo hi : Option Int) : ∃ ms : List Int, cutL (ns.map PyData.int) lo hi = ms.map PyData.int ∧ ms.length ≤ ns.length := cut_ints ns lo hi
theorem filt_abs : ∀ ms : List Int, (ms.map PyData.int).filterMap (fun d => match d with | .int i => some (PyData.int (if i < 0 then -i else i)) | _ => none) = (ms.map fun i => if i < 0 then -i else i).map PyData.int
  | [] => rfl
  | m :: ms => by
    rw [List.map_cons, List.filterMap_cons]
    simp only [filt_abs ms, List.map_cons]
theorem bag_spec (k : Nat) (ns : List Int) (h : ns.length ≤ 63) : ∃ xs, Bag xs ∧ F (k + 1) 23 [.shr (scrD ns)] = .ok (.lst xs) [none] := by
  obtain ⟨ms, e1, l1⟩ := cut_ints2 ns none (some 63)
  rw [F23]
  generalize F k = Φ at *
  have ec : (ev Φ c_law_bag_1).e [some (.shr (scrD ns)), none] = .ok (.lst ((ms.map fun i => if i < 0 then -i else i).map PyData.int)) [some (.shr (scrD ns)), none] := by
    unfold c_law_bag_1
    rw [ev, x_mke, ← filt_abs]
    refine (mLc_pure (ds := ms.map PyData.int) (ρ1 := [some (.shr (scrD ns)), none]) (fun d => match d with | .int i => some (PyData.int (if i < 0 then -i else i)) | _ => none) ?_ ?_ ?_ ?_).trans ?_
    · have es : slT (scrD ns) none (some 63) = some (.lst (ms.map PyData.int)) := by rw [← e1]; rfl
      generalize scrD ns = ss at *
      simp [ev, es]
    · rfl
    · intro d hd
      obtain ⟨i, _, rfl⟩ := List.mem_map.mp hd
      generalize scrD ns = ss at *
      simp [turn, ev]
    · rw [List.length_map]; exact Nat.le_trans (by omega : ms.length ≤ 4096) (by decide)
    · rfl
  have ov : (ev Φ c_law_bag_1).v = mOpd (ev Φ c_law_bag_1).e := by unfold c_law_bag_1; rw [ev]; rfl
  refine ⟨[.int 0, .int 1234567891, .int 0, .list ((ms.map fun i => if i < 0 then -i else i).map PyData.int)], ⟨0, 1234567891, 0, _, rfl, by rw [List.length_map]; omega⟩, ?_⟩
  refine (runF_ret (ρ := [some (.shr (scrD ns)), none]) (t := .lst [.int 0, .int 1234567891, .int 0, .list ((ms.map fun i => if i < 0 then -i else i).map PyData.int)]) (go_ret ?_)).trans rfl
  show evS G.exm Φ [false] _ [some (.shr (scrD ns)), none] = _
  generalize scrD ns = ss at *
  generalize (ms.map fun i => if i < 0 then -i else i).map PyData.int = l4 at *
  simp [evS, ev, ov, ec]
theorem law_b (Φ : Nat → FS) {xs xs1 xs2 xs3 xs4 : List D} {jj : D} (t0 t2 t3 : Option T) (e28 : Φ 28 [.lst xs] = .ok (.shr jj) [some (.lst xs1)]) (e34 : Φ 34 [.lst xs1, .shr jj] = .ok (.shr (.bool true)) [some (.lst xs2), none]) (e35 : Φ 35 [.lst xs2, .shr jj] = .ok (.shr (.bool true)) [some (.lst xs2), none])
    (e36 : Φ 36 [.lst xs2, .shr jj] = .ok (.shr (.bool true)) [some (.lst xs3), none]) (e37 : Φ 37 [.lst xs3] = .ok (.shr (.bool true)) [some (.lst xs4)]) :
    evSs G.exm Φ [false] b_law_1 [t0, some (.lst xs), t2, t3] = .ok .next [t0, some (.lst xs4), t2, some (.shr jj)] := by
  refine go_next (ρ1 := [t0, some (.lst xs1), t2, some (.shr jj)]) (by simp [evS, ev, e28]) ?_
  exact go_next (go_iteF (ρ1 := [t0, some (.lst xs4), t2, some (.shr jj)]) (by simp [ev, e34, e35, e36, e37]) go_nil) go_nil
theorem law_all (ns : List Int) (h : ns.length ≤ 63) : ∃ t outs, F 12 38 [.shr (scrD ns)] = .ok t outs ∧ t.toD = .bool true := by
  obtain ⟨xs, hb, e23⟩ := bag_spec 10 ns h
  have turn : ∀ {xs : List D}, Bag xs → ∀ t0 t2 t3 : Option T, ∃ (ys : List D) (t3' : Option T), Bag ys ∧ evSs G.exm (F 11) [false] b_law_1 [t0, some (.lst xs), t2, t3] = .ok .next [t0, some (.lst ys), t2, t3'] := fun {xs} hb t0 t2 t3 => by
    obtain ⟨bs, J, xs1, hb1, W, hn, hbs, e28⟩ := drawn_spec 8 hb
    obtain ⟨xs2, hb2, e34⟩ := stands_spec W bs 5 hn hb1
    have e35 := rows_spec W bs 7 hbs (xs := xs2)
    obtain ⟨xs3, hb3, e36⟩ := ways_spec W bs 5 hbs hn hb2
    obtain ⟨xs4, hb4, e37⟩ := machine_spec 6 hb3
    exact ⟨xs4, _, hb4, law_b (F 11) t0 t2 t3 e28 e34 e35 e36 e37⟩
  change F 11 23 _ = _ at e23
  rw [F38]
  generalize F 11 = Φ at *
  obtain ⟨ρ2, e2, xs', t2', t3', hb', rfl⟩ := for_all (lk := [false]) (tg := .name 2) (b := evSs G.exm Φ [false] b_law_1) (I := fun ρ => ∃ xs t2 t3, Bag xs ∧ ρ = [some (.shr (scrD ns)), some (.lst xs), t2, t3]) (natsD (List.range 3)) [some (.shr (scrD ns)), some (.lst xs), none, none] ⟨xs, none, none, hb, rfl⟩ fun d hd ρ ⟨us, a2, a3, hu, er⟩ => by
    subst er
    obtain ⟨ys, t3', hy, e⟩ := turn hu (some (.shr (scrD ns))) (some (.shr d)) a3
    exact ⟨[some (.shr (scrD ns)), some (.lst us), some (.shr d), a3], by simp, _, e, ys, _, _, hy, rfl⟩
  refine ⟨.shr (.bool true), [none], ?_, rfl⟩
  refine (runF_ret (ρ := [some (.shr (scrD ns)), some (.lst xs'), t2', t3']) (t := .shr (.bool true)) ?_).trans rfl
  show evSs G.exm Φ [false] i_law [some (.shr (scrD ns)), none, none, none] = _
  have b3 : bnd62 3 = true := bnd62_nat (n := 3) (by omega)
  generalize scrD ns = ss at *
  refine go_next (ρ1 := [some (.shr ss), some (.lst xs), none, none]) (by simp [evS, ev, e23]) ?_
  exact go_next (go_for (ds := natsD (List.range 3)) (by simp [ev, b3]) e2) (go_ret (by simp [evS, ev]))
end VS.K22
set_option Elab.async false
set_option linter.all false
set_option maxRecDepth 1000000
set_option maxHeartbeats 0
/-! K22: the head, and the statement from the plain law. -/
namespace VS.K22
open PySem PySem.Spec PyProof.Rows L2
abbrev fa : List He.Fa := faOf G exms ds
abbrev fn : List He.DefD := fnOf ds
abbrev ts : List He.Tab := tsOf G
abbrev row : PySem.W.OpenRow := PySem.W.OpenLaw.row PySem.Challenge.rw_hearwright_k22_stands_and_steps_from_any
abbrev hk : PySem.W.Hook := He.hookX 4 fa fn ts [] (exOf G)
def ob (s : PySem.W.SharedT) : He.AlX := He.obsX 4 fa fn ts [] (exOf G) (HandSHeadRun.getT s)
theorem ob_eq (s : PySem.W.SharedT) : ob s = hk.obs s.abs := He.obsX_eq (HandSHeadRun.getT_eq s)
def loose1 : List Str := ["_wall", "HearError", "Nothing", "SIGNS_forms", "is_integer", "is_count", "is_sign", "TAKEN", "many_stands", "is_taking", "sign_at", "nexts_behind", "stands_after", "SILENT", "BITS", "SIGNS_stands", "is_stand", "steps_at", "is_stuck", "bits_in", "signs_in", "is_way", "end_of", "is_run", "begin_of", "silent_from", "unheard_from", "behind_sign", "heard_stands", "can_give", "ring_without_sign"]
def loose2 : List Str := ["_law_bag", "_law_take", "_law_some", "_law_alike", "_law_mixed", "_law_drawn_joined", "_law_reach", "_law_all_rows", "_law_has_ring", "_law_steps", "_law_goes", "_law_are_stands", "_law_are_rows", "_law_are_ways", "_law_is_machine"]
abbrev loose : List Str := loose1 ++ loose2
theorem run (w : World) : HandSHeadRun.RunEq row (PySem.W.view row.prog [51]) hk ob 2000 loose w :=
  PySem.W.byRow2 "special-get-raises" (P := fun w => HandSHeadRun.RunEq row (PySem.W.view row.prog [51]) hk ob 2000 loose w) (fun w => by intro os; kernel_rfl) (fun w => by intro os; kernel_rfl) w
end VS.K22
set_option Elab.async false
set_option linter.all false
set_option maxRecDepth 1000000
set_option maxHeartbeats 0
/-! K22: the statement from the plain law. -/
namespace VS.K22
open PySem PySem.Spec PyProof.Rows L2
/-- what the law's def computes, at k levels -/
abbrev lawF (k : Nat) : FS := evF G.exm (ds.map fun (d : FDat) => (⟨d.N.length, d.ie⟩ : IF)) k 38
end VS.K22
open PySem PySem.W PySem.Calls PyProof.Rows VS VS.K22
theorem VS.K22.holds_of (law : ∀ ns : List Int, ns.length ≤ 63 → (∀ k ∈ ns, Builtin.Int.intBits k ≤ 1048576) → ∃ t outs, lawF 12 [.shr (scrD ns)] = .ok t outs ∧ t.toD = .bool true) :
    PySem.Challenge.rw_hearwright_k22_stands_and_steps_from_any.Holds := by
  w_on; o_law
  refine HandSHeadRun.head_any (r := VS.K22.row) (q := view VS.K22.row.prog [51]) (H := VS.K22.hk) (ob := VS.K22.ob) (M := 2000) (loose := VS.K22.loose) (d := HandSHeadRun.topDef VS.K22.row.prog 51) (kwd := []) VS.K22.ob_eq
    (by kernel_rfl) (fun s => by kernel_rfl) VS.K22.run (by kernel_rfl) (by kernel_rfl) (by kernel_rfl) (by rfl) (by first | assumption | decide +kernel) (by decide +kernel) ⟨rfl, rfl, rfl, rfl, rfl, by decide +kernel⟩ ?hw ?hc
  case hw => w_witness2
  case hc =>
    refine walk_G (l := PySem.Challenge.rw_hearwright_k22_stands_and_steps_from_any) (n := 63) (k := 12) (x := "script") (f := lawF 12) rfl (by decide) (by kernel_rfl) ⟨rfl, by decide, by decide⟩ ?F law
    intro w mg fa h Y Gm hmg0
    obtain ⟨K, KX, c⟩ := Y
    have hmg : mg ("law" : PySem.Str) = some (.ref fa) := by
      have e : (HandSHeadRun.topDef VS.K22.row.prog 51).name = ("law" : PySem.Str) := by kernel_rfl
      rw [← e]
      exact hmg0
    obtain ⟨fd, CA, hb, hF⟩ := head_F (G := G) (exms := exms) (ds := ds) (P := (PySem.Challenge.rw_hearwright_k22_stands_and_steps_from_any).prog) (w := w) KX Gm c.t c.more rfl rfl gs (il := 38) rfl rfl hmg 11
    exact ⟨K, fd, CA, KX, hb, hF⟩
set_option maxRecDepth 1000000 in
set_option maxHeartbeats 0 in
theorem PySem.Challenge.cw_hearwright_k22_stands_and_steps_from_any_holds : PySem.Challenge.rw_hearwright_k22_stands_and_steps_from_any.Holds := by
  exact VS.K22.holds_of fun ns h _ => VS.K22.law_all ns h
