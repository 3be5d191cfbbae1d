import PyProof.Rows.All
import Wide.All
import OpenK.AllK
import Wide.FinOn
import HandS.ForMost
import HandS.ForExc
import HandS.Walk
import HandS.ExcInit
import HandS.TryMany
import KE.RegKSuper
import KE.KExcSuper
import HandS.Ends
import HandS.WordsExc
import HandS.CallSlots
import HandS.Defaults
import HandS.TupAny
import HandS.IsInst
import HandS.Star
import HandS.Style
import HandS.Conv
import HandS.SortRule
import PyProof.ReprRoads
import HandS.RaiseMore
import KE.GoesEnum
import PySem.Challenge.RW_lateslips_k03_heaps_of_slips
set_option Elab.async false
set_option linter.all false
set_option maxRecDepth 100000
/-! Pv0: data, what represents it in a heap, what a run may do to heaps, slots and who owns what. -/
namespace Pv
open PySem L2

inductive D where
  | non | bl (b : Bool) | int (i : Int) | str (s : Str)
  | tup (xs : List D) | lst (xs : List D) | dct (kvs : List (D × D))
  | obj (c : Str) (fs : List (Str × D)) | cache | scr (ns : List Int) | fre (ds : List D)

/-- a result: a value, an error of a class with what it keeps, or: nothing is promised -/
inductive R (α : Type) where
  | ok (a : α) | err (c : Str) (d : D) | bad
def R.bind {α β : Type} : R α → (α → R β) → R β
  | .ok a, f => f a
  | .err c d, _ => .err c d
  | .bad, _ => .bad
@[simp] theorem R.bind_ok {α β : Type} (a : α) (f : α → R β) : R.bind (.ok a) f = f a := rfl
@[simp] theorem R.bind_err {α β : Type} (c : Str) (d : D) (f : α → R β) : R.bind (.err c d) f = .err c d := rfl
@[simp] theorem R.bind_bad {α β : Type} (f : α → R β) : R.bind .bad f = .bad := rfl

structure Txt where
  P : Program
  w : World
  K : PySem.W.Frag
  mg : Str → Option Value
  base : Heap
  cls : Str → Option Addr

/-- the script: a list known to the object, or one of the module's own -/
def ScL (K : PySem.W.Frag) (H : Hp) (a : Addr) (xs : List V) : Prop :=
  (∃ o, H a = some (.frz o (.lst xs))) ∨
    ∃ (o : Obj) (its : Array Value) (n : Nat), K.lookup a = some o ∧ o.cls = .type "list" ∧ o.dict = none ∧ o.data = .seq its n ∧ its.size ≤ sizeLine ∧ Vals xs its.toList
theorem ScL.sql {K : PySem.W.Frag} {H : Hp} {a : Addr} {xs : List V} (h : ScL K H a xs) : SqL K H a xs := by
  rcases h with ⟨o, h⟩ | h
  · exact .inl (.inr ⟨o, h⟩)
  · exact .inr h
theorem ScL.same {K : PySem.W.Frag} {H H' : Hp} {a : Addr} {xs : List V} (e : Same H H') (h : ScL K H a xs) : ScL K H' a xs := by
  rcases h with ⟨o, h⟩ | h
  · exact .inl ⟨o, e _ _ h⟩
  · exact .inr h
mutual
inductive Rp (T : Txt) (F : Hp) : V → D → Prop
  | non : Rp T F .non .non
  | bl (b : Bool) : Rp T F (.bl b) (.bl b)
  | int (i : Int) : Rp T F (.int i) (.int i)
  | str (x : Str) : Rp T F (.str x) (.str x)
  | tup {a : Addr} {xs : List V} {ds : List D} : F a = some (.tup xs) → Rps T F xs ds → Rp T F (.ref a) (.tup ds)
  | scr {a : Addr} {ns : List Int} : ScL T.K F a (ns.map V.int) → Rp T F (.ref a) (.scr ns)
  | lst {a : Addr} {xs : List V} {ds : List D} : F a = some (.lst xs) → Rps T F xs ds → Rp T F (.ref a) (.lst ds)
  | dct0 {a : Addr} : F a = some (.dK []) → Rp T F (.ref a) (.dct [])
  | obj {a C dx : Addr} {c : Str} {fs : List (Str × V)} {ds : List (Str × D)} : T.cls c = some C → F a = some (.ins C dx fs) → fs.map (·.1) = ds.map (·.1) → Rps T F (fs.map (·.2)) (ds.map (·.2)) → Rp T F (.ref a) (.obj c ds)
  | cache (a : Addr) : Rp T F (.ref a) .cache
inductive Rps (T : Txt) (F : Hp) : List V → List D → Prop
  | nil : Rps T F [] []
  | cons {v : V} {vs : List V} {d : D} {ds : List D} : Rp T F v d → Rps T F vs ds → Rps T F (v :: vs) (d :: ds)
end

theorem rd_same {H H' : Hp} {a : Addr} {u : HO} (e : Same H H') (h : Rd H a u) : Rd H' a u := by
  rcases h with h | ⟨o, h⟩
  · exact .inl (e _ _ h)
  · exact .inr ⟨o, e _ _ h⟩
theorem sqt_same {K : PySem.W.Frag} {H H' : Hp} {a : Addr} {xs : List V} (e : Same H H') (h : SqT K H a xs) : SqT K H' a xs := by
  rcases h with h | h
  · exact .inl (rd_same e h)
  · exact .inr h
theorem sql_same {K : PySem.W.Frag} {H H' : Hp} {a : Addr} {xs : List V} (e : Same H H') (h : SqL K H a xs) : SqL K H' a xs := by
  rcases h with h | h
  · exact .inl (rd_same e h)
  · exact .inr h

mutual
theorem Rp.mono {T : Txt} {F F' : Hp} (e : Same F F') : ∀ {v : V} {d : D}, Rp T F v d → Rp T F' v d
  | _, _, .non => .non
  | _, _, .bl b => .bl b
  | _, _, .int i => .int i
  | _, _, .str x => .str x
  | _, _, .tup h r => .tup (e _ _ h) (Rps.mono e r)
  | _, _, .scr h => .scr (h.same e)
  | _, _, .lst h r => .lst (e _ _ h) (Rps.mono e r)
  | _, _, .dct0 h => .dct0 (e _ _ h)
  | _, _, .obj c h n r => .obj c (e _ _ h) n (Rps.mono e r)
  | _, _, .cache a => .cache a
theorem Rps.mono {T : Txt} {F F' : Hp} (e : Same F F') : ∀ {vs : List V} {ds : List D}, Rps T F vs ds → Rps T F' vs ds
  | _, _, .nil => .nil
  | _, _, .cons h r => .cons (Rp.mono e h) (Rps.mono e r)
end
theorem Rps.length {T : Txt} {F : Hp} : ∀ {vs : List V} {ds : List D}, Rps T F vs ds → vs.length = ds.length
  | _, _, .nil => rfl
  | _, _, .cons _ r => by rw [List.length_cons, List.length_cons, Rps.length r]
theorem Rps.get {T : Txt} {F : Hp} : ∀ {vs : List V} {ds : List D} {i : Nat} {d : D}, Rps T F vs ds → ds[i]? = some d → ∃ v, vs[i]? = some v ∧ Rp T F v d
  | _, _, i, d, .nil, h => by simp at h
  | _, _, 0, d, .cons (v := v) h _, e => by
    simp at e; subst e; exact ⟨v, rfl, h⟩
  | _, _, i + 1, d, .cons _ r, e => by
    obtain ⟨v, h1, h2⟩ := Rps.get (i := i) r (by simpa using e)
    exact ⟨v, by simpa using h1, h2⟩
theorem Rps.get' {T : Txt} {F : Hp} : ∀ {vs : List V} {ds : List D} {i : Nat} {v : V}, Rps T F vs ds → vs[i]? = some v → ∃ d, ds[i]? = some d ∧ Rp T F v d
  | _, _, i, d, .nil, h => by simp at h
  | _, _, 0, v, .cons (d := d) h _, e => by
    simp at e; subst e; exact ⟨d, rfl, h⟩
  | _, _, i + 1, d, .cons _ r, e => by
    obtain ⟨v, h1, h2⟩ := Rps.get' (i := i) r (by simpa using e)
    exact ⟨v, by simpa using h1, h2⟩
theorem Rps.append {T : Txt} {F : Hp} : ∀ {vs ws : List V} {ds es : List D}, Rps T F vs ds → Rps T F ws es → Rps T F (vs ++ ws) (ds ++ es)
  | _, _, _, _, .nil, s => s
  | _, _, _, _, .cons h r, s => .cons h (Rps.append r s)
theorem Rps.take {T : Txt} {F : Hp} : ∀ (n : Nat) {vs : List V} {ds : List D}, Rps T F vs ds → Rps T F (vs.take n) (ds.take n)
  | 0, _, _, _ => by simpa using Rps.nil
  | _ + 1, _, _, .nil => .nil
  | n + 1, _, _, .cons h r => .cons h (Rps.take n r)
theorem Rps.drop {T : Txt} {F : Hp} : ∀ (n : Nat) {vs : List V} {ds : List D}, Rps T F vs ds → Rps T F (vs.drop n) (ds.drop n)
  | 0, _, _, r => r
  | _ + 1, _, _, .nil => .nil
  | n + 1, _, _, .cons _ r => Rps.drop n r
theorem Rps.set {T : Txt} {F : Hp} {v : V} {d : D} (h : Rp T F v d) : ∀ {vs : List V} {ds : List D} (i : Nat), Rps T F vs ds → Rps T F (vs.set i v) (ds.set i d)
  | _, _, _, .nil => .nil
  | _, _, 0, .cons _ r => .cons h r
  | _, _, i + 1, .cons k r => .cons k (Rps.set h i r)
theorem Rps.eraseIdx {T : Txt} {F : Hp} : ∀ {vs : List V} {ds : List D} (i : Nat), Rps T F vs ds → Rps T F (vs.eraseIdx i) (ds.eraseIdx i)
  | _, _, _, .nil => .nil
  | _, _, 0, .cons _ r => r
  | _, _, i + 1, .cons k r => .cons k (Rps.eraseIdx i r)
theorem Rps.dropLast {T : Txt} {F : Hp} {vs : List V} {ds : List D} (r : Rps T F vs ds) : Rps T F vs.dropLast ds.dropLast := by
  rw [List.dropLast_eq_take, List.dropLast_eq_take, r.length]
  exact r.take _
theorem Rps.reverse {T : Txt} {F : Hp} : ∀ {vs : List V} {ds : List D}, Rps T F vs ds → Rps T F vs.reverse ds.reverse
  | _, _, .nil => .nil
  | _, _, .cons h r => by
    rw [List.reverse_cons, List.reverse_cons]
    exact (Rps.reverse r).append (.cons h .nil)
theorem Rps.one {T : Txt} {F : Hp} {v : V} {d : D} (h : Rp T F v d) : Rps T F [v] [d] := .cons h .nil

/-! ### what a run may do -/
structure Step (M : Addr → Prop) (F H F' H' : Hp) : Prop where
  fz : Same F F'
  new : ∀ a o, F' a = some o → F a = some o ∨ (H a = none ∨ M a)
  keep : ∀ a o, H a = some o → ¬ M a → H' a = some o
  dom : ∀ a, H' a = none → H a = none
theorem Step.refl (M : Addr → Prop) (F H : Hp) : Step M F H F H := ⟨Same.refl F, fun _ _ h => .inl h, fun _ _ h _ => h, fun _ h => h⟩
theorem Step.trans {M : Addr → Prop} {F H F1 H1 F2 H2 : Hp} (a : Step M F H F1 H1) (b : Step M F1 H1 F2 H2) : Step M F H F2 H2 where
  fz := a.fz.trans b.fz
  new := fun x o h => by
    rcases b.new x o h with h | h
    · exact a.new x o h
    · exact .inr (h.imp (a.dom x) id)
  keep := fun x o h m => b.keep x o (a.keep x o h m) m
  dom := fun x h => a.dom x (b.dom x h)
theorem Step.weak {M M' : Addr → Prop} {F H F' H' : Hp} (a : Step M F H F' H') (h : ∀ x, M x → M' x) : Step M' F H F' H' := ⟨a.fz, fun x o e => (a.new x o e).imp id fun z => z.imp id (h x), fun x o e m => a.keep x o e fun z => m (h x z), a.dom⟩
/-- a step that leaves all as it was -/
abbrev Grow (F H F' H' : Hp) : Prop := Step (fun _ => False) F H F' H'
theorem Grow.same {F H F' H' : Hp} (g : Grow F H F' H') : Same H H' := fun a o h => g.keep a o h fun z => z
/-- a new object, known as it is from now on -/
theorem grow_new {F H : Hp} {p : Addr} {o : HO} (sub : Same F H) (hp : H p = none) : Grow F H (upd F p o) (upd H p o) where
  fz := fun a u h => by rw [upd_ne (ne_of_none (sub a u h) hp)]; exact h
  new := fun a u h => by
    by_cases e : a = p
    · exact .inr (.inl (by rw [e]; exact hp))
    · rw [upd_ne e] at h
      exact .inl h
  keep := fun a u h _ => by rw [upd_ne (ne_of_none h hp)]; exact h
  dom := fun a h => by
    by_cases e : a = p
    · rw [e]; exact hp
    · rw [upd_ne e] at h
      exact h
theorem sub_new {F H : Hp} {p : Addr} {o : HO} (sub : Same F H) : Same (upd F p o) (upd H p o) := fun a u h => by
  by_cases e : a = p
  · subst e
    rw [upd_same] at h ⊢
    exact h
  · rw [upd_ne e] at h ⊢
    exact sub a u h
/-- a new object that may change -/
theorem grow_own {F H : Hp} {p : Addr} {o : HO} (hp : H p = none) : Grow F H F (upd H p o) where
  fz := Same.refl F
  new := fun a u h => .inl h
  keep := fun a u h _ => by rw [upd_ne (ne_of_none h hp)]; exact h
  dom := fun a h => by
    by_cases e : a = p
    · rw [e]; exact hp
    · rw [upd_ne e] at h
      exact h

/-! ### slots -/
inductive SV where
  | val (d : D) | own (ds : List D) | deal (l1 l2 : Addr) (cs : List Int) (b : Int)
  | owk (kvs : List (Key × D)) | owt (kvs : List (List Key × D))
  | ins (p dx : Addr) (c : Str) (fs : List (Str × D)) | exc (a dd : Addr) (c : Str) (d : D)
abbrev Slots := List (Option SV)

/-- what stands in a slot; as: the addresses that are this slot's own -/
def SlotOk (T : Txt) (Fr : Addr → Prop) (F H : Hp) : Option SV → Option V → List Addr → Prop
  | none, _, as => as = []
  | some (.val d), v, as => as = [] ∧ ∃ x, v = some x ∧ Rp T F x d
  | some (.own ds), v, as => ∃ l xs, as = [l] ∧ v = some (.ref l) ∧ H l = some (.lst xs) ∧ Rps T F xs ds ∧ F l = none ∧ Fr l
  | some (.deal l1 l2 cs b), v, as => as = [l1, l2] ∧ v = some (.ref l1) ∧ H l1 = some (.lst [.ref l2, .int b]) ∧ H l2 = some (.lst (cs.map V.int)) ∧ F l1 = none ∧ F l2 = none ∧ Fr l1 ∧ Fr l2 ∧ l1 ≠ l2
  | some (.owk kvs), v, as => ∃ l kv, as = [l] ∧ v = some (.ref l) ∧ H l = some (.dK kv) ∧ kv.map (·.1) = kvs.map (·.1) ∧ Rps T F (kv.map (·.2)) (kvs.map (·.2)) ∧ F l = none ∧ Fr l
  | some (.owt kvs), v, as => ∃ l kv, as = [l] ∧ v = some (.ref l) ∧ H l = some (.dT kv) ∧ kv.map (·.1) = kvs.map (·.1) ∧ Rps T F (kv.map (·.2)) (kvs.map (·.2)) ∧ F l = none ∧ Fr l
  | some (.ins p dx c fs), v, as => ∃ Ca fv, as = [p] ∧ v = some (.ref p) ∧ T.cls c = some Ca ∧ H p = some (.ins Ca dx fv) ∧ fv.map (·.1) = fs.map (·.1) ∧ Rps T F (fv.map (·.2)) (fs.map (·.2)) ∧ F p = none ∧ Fr p
  | some (.exc a dd c d), v, as => as = [] ∧ v = some (.ref a) ∧ ∃ y, F dd = some (.xd [("at", y)]) ∧ Rp T F y d

structure SlotsOkA (T : Txt) (Fr : Addr → Prop) (F H : Hp) (env : Slots) (σ : L2.St) (A : Nat → List Addr) : Prop where
  slot : ∀ i : Nat, SlotOk T Fr F H (env[i]?.join) (σ[i]?.join) (A i)
  apart : ∀ (i j : Nat) (a : Addr), a ∈ A i → a ∈ A j → i = j
def SlotsOk (T : Txt) (Fr : Addr → Prop) (F H : Hp) (env : Slots) (σ : L2.St) : Prop := ∃ A, SlotsOkA T Fr F H env σ A

theorem SlotOk.own_some {T : Txt} {Fr : Addr → Prop} {F H : Hp} {sv : Option SV} {v : Option V} {as : List Addr} (h : SlotOk T Fr F H sv v as) : ∀ a ∈ as, (∃ o, H a = some o) ∧ F a = none ∧ Fr a := by
  intro a ha
  cases sv with
  | none => rw [show as = [] from h] at ha; cases ha
  | some s =>
    cases s with
    | val d => rw [h.1] at ha; cases ha
    | exc _ _ _ _ => rw [h.1] at ha; cases ha
    | own ds =>
      obtain ⟨l, xs, rfl, _, h1, _, h2, h3⟩ := h
      have e : a = l := by simpa using ha
      subst e
      exact ⟨⟨_, h1⟩, h2, h3⟩
    | owk ds =>
      obtain ⟨l, xs, rfl, _, h1, _, _, h2, h3⟩ := h
      have e : a = l := by simpa using ha
      subst e
      exact ⟨⟨_, h1⟩, h2, h3⟩
    | owt ds =>
      obtain ⟨l, xs, rfl, _, h1, _, _, h2, h3⟩ := h
      have e : a = l := by simpa using ha
      subst e
      exact ⟨⟨_, h1⟩, h2, h3⟩
    | ins l dx c fs =>
      obtain ⟨Ca, xs, rfl, _, _, h1, _, _, h2, h3⟩ := h
      have e : a = l := by simpa using ha
      subst e
      exact ⟨⟨_, h1⟩, h2, h3⟩
    | deal l1 l2 cs b =>
      obtain ⟨rfl, _, h1, h2, h3, h4, h5, h6, _⟩ := h
      rcases List.mem_cons.mp ha with e | ha
      · subst e; exact ⟨⟨_, h1⟩, h3, h5⟩
      · have e : a = l2 := by simpa using ha
        subst e; exact ⟨⟨_, h2⟩, h4, h6⟩
theorem SlotOk.move {T : Txt} {Fr : Addr → Prop} {F H F' H' : Hp} {sv : Option SV} {v : Option V} {as : List Addr} (h : SlotOk T Fr F H sv v as) (e : Same F F') (k : ∀ a ∈ as, H' a = H a ∧ F' a = none) : SlotOk T Fr F' H' sv v as := by
  cases sv with
  | none => exact h
  | some s =>
    cases s with
    | val d =>
      obtain ⟨h1, x, h2, h3⟩ := h
      exact ⟨h1, x, h2, h3.mono e⟩
    | exc a dd c d =>
      obtain ⟨h1, h2, y, h3, h4⟩ := h
      exact ⟨h1, h2, y, e _ _ h3, h4.mono e⟩
    | own ds =>
      obtain ⟨l, xs, rfl, h0, h1, h2, h3, h4⟩ := h
      obtain ⟨k1, k2⟩ := k l (by simp)
      exact ⟨l, xs, rfl, h0, by rw [k1]; exact h1, h2.mono e, k2, h4⟩
    | owk ds =>
      obtain ⟨l, xs, rfl, h0, h1, hn, h2, h3, h4⟩ := h
      obtain ⟨k1, k2⟩ := k l (by simp)
      exact ⟨l, xs, rfl, h0, by rw [k1]; exact h1, hn, h2.mono e, k2, h4⟩
    | owt ds =>
      obtain ⟨l, xs, rfl, h0, h1, hn, h2, h3, h4⟩ := h
      obtain ⟨k1, k2⟩ := k l (by simp)
      exact ⟨l, xs, rfl, h0, by rw [k1]; exact h1, hn, h2.mono e, k2, h4⟩
    | ins l dx c fs =>
      obtain ⟨Ca, xs, rfl, h0, hc, h1, hn, h2, h3, h4⟩ := h
      obtain ⟨k1, k2⟩ := k l (by simp)
      exact ⟨Ca, xs, rfl, h0, hc, by rw [k1]; exact h1, hn, h2.mono e, k2, h4⟩
    | deal l1 l2 cs b =>
      obtain ⟨rfl, h0, h1, h2, h3, h4, h5, h6, h7⟩ := h
      obtain ⟨k1, k2⟩ := k l1 (by simp)
      obtain ⟨k3, k4⟩ := k l2 (by simp)
      exact ⟨rfl, h0, by rw [k1]; exact h1, by rw [k3]; exact h2, k2, k4, h5, h6, h7⟩
theorem SlotsOk.grow {T : Txt} {Fr : Addr → Prop} {F H F' H' : Hp} {env : Slots} {σ : L2.St} (h : SlotsOk T Fr F H env σ) (g : Grow F H F' H') : SlotsOk T Fr F' H' env σ := by
  obtain ⟨A, h1, h2⟩ := h
  refine ⟨A, fun i => (h1 i).move g.fz fun a ha => ?_, h2⟩
  obtain ⟨⟨xs, e1⟩, e2, _⟩ := (h1 i).own_some a ha
  refine ⟨by rw [g.same a _ e1, e1], ?_⟩
  cases q : F' a with
  | none => rfl
  | some o =>
    rcases g.new a o q with z | z | z
    · rw [e2] at z; cases z
    · rw [e1] at z; cases z
    · exact z.elim

/-- less known -/
def SlotsLe (e' e : Slots) : Prop := ∀ (i : Nat) (sv : SV), e'[i]?.join = some sv → e[i]?.join = some sv
theorem SlotsLe.refl (e : Slots) : SlotsLe e e := fun _ _ h => h
theorem SlotsLe.nil (e : Slots) : SlotsLe [] e := fun i sv h => by simp at h
theorem SlotsLe.trans {a b c : Slots} (h : SlotsLe a b) (k : SlotsLe b c) : SlotsLe a c := fun i sv e => k i sv (h i sv e)
theorem SlotsLe.cons_same {x : Option SV} {a b : Slots} (h : SlotsLe a b) : SlotsLe (x :: a) (x :: b) := fun i sv e => by
  cases i with
  | zero => exact e
  | succ i => exact h i sv (by simpa using e)
theorem SlotsLe.cons_none {x : Option SV} {a b : Slots} (h : SlotsLe a b) : SlotsLe (none :: a) (x :: b) := fun i sv e => by
  cases i with
  | zero => simp at e
  | succ i => exact h i sv (by simpa using e)
theorem SlotsOk.le {T : Txt} {Fr : Addr → Prop} {F H : Hp} {e e' : Slots} {σ : L2.St} (h : SlotsOk T Fr F H e σ) (l : SlotsLe e' e) : SlotsOk T Fr F H e' σ := by
  obtain ⟨A, h1, h2⟩ := h
  refine ⟨fun i => if (e'[i]?.join).isSome then A i else [], fun i => ?_, fun i j a ha hb => ?_⟩
  · cases q : e'[i]?.join with
    | none => simp [q, SlotOk]
    | some sv =>
      have z := h1 i
      rw [l i sv q] at z
      simpa [q] using z
  · refine h2 i j a ?_ ?_
    · by_cases c : (e'[i]?.join).isSome
      · simpa [c] using ha
      · simp [c] at ha
    · by_cases c : (e'[j]?.join).isSome
      · simpa [c] using hb
      · simp [c] at hb

theorem join_set_self {α : Type} {l : List (Option α)} {i : Nat} {x : Option α} (h : i < l.length) : (l.set i x)[i]?.join = x := by
  rw [List.getElem?_set_self h]; rfl
theorem join_set_ne {α : Type} {l : List (Option α)} {i j : Nat} {x : Option α} (h : i ≠ j) : (l.set i x)[j]?.join = l[j]?.join := by
  rw [List.getElem?_set_ne h]
/-- a slot takes a value -/
theorem SlotsOk.setVal {T : Txt} {Fr : Addr → Prop} {F H : Hp} {e : Slots} {σ : L2.St} {i : Nat} {v : V} {d : D} (h : SlotsOk T Fr F H e σ) (r : Rp T F v d) (hl : e.length ≤ σ.length) : SlotsOk T Fr F H (e.set i (some (.val d))) (σ.set i (some v)) := by
  obtain ⟨A, h1, h2⟩ := h
  refine ⟨fun j => if j = i then [] else A j, fun j => ?_, fun j k a ha hb => ?_⟩
  · by_cases c : j = i
    · subst c
      rw [if_pos rfl]
      by_cases he : j < e.length
      · rw [join_set_self he, join_set_self (Nat.lt_of_lt_of_le he hl)]
        exact ⟨rfl, v, rfl, r⟩
      · rw [List.getElem?_eq_none (by simpa using he)]
        rfl
    · rw [join_set_ne (Ne.symm c), join_set_ne (Ne.symm c), if_neg c]
      exact h1 j
  · by_cases c : j = i
    · simp [c] at ha
    · by_cases c' : k = i
      · simp [c'] at hb
      · rw [if_neg c] at ha
        rw [if_neg c'] at hb
        exact h2 j k a ha hb
/-- a slot is forgotten, whatever it takes -/
theorem SlotsOk.setAny {T : Txt} {Fr : Addr → Prop} {F H : Hp} {e : Slots} {σ : L2.St} {i : Nat} {v : Option V} (h : SlotsOk T Fr F H e σ) : SlotsOk T Fr F H (e.set i none) (σ.set i v) := by
  obtain ⟨A, h1, h2⟩ := h
  refine ⟨fun j => if j = i then [] else A j, fun j => ?_, fun j k a ha hb => ?_⟩
  · by_cases c : j = i
    · subst c
      rw [if_pos rfl]
      by_cases l : j < e.length
      · rw [join_set_self l]; rfl
      · rw [List.getElem?_eq_none (by simpa using l)]; rfl
    · rw [join_set_ne (Ne.symm c), join_set_ne (Ne.symm c), if_neg c]
      exact h1 j
  · by_cases c : j = i
    · simp [c] at ha
    · by_cases c' : k = i
      · simp [c'] at hb
      · rw [if_neg c] at ha
        rw [if_neg c'] at hb
        exact h2 j k a ha hb
/-- a slot takes something of its own, at a place that nobody has -/
theorem SlotsOk.setOwner {T : Txt} {Fr : Addr → Prop} {F H : Hp} {e : Slots} {σ : L2.St} {i : Nat} {l : Addr} {sv : SV} {v : V} (h : SlotsOk T Fr F H e σ) (ok : SlotOk T Fr F H (some sv) (some v) [l]) (hn : ∀ A, SlotsOkA T Fr F H e σ A → ∀ j, l ∉ A j) (hl : e.length ≤ σ.length) :
    SlotsOk T Fr F H (e.set i (some sv)) (σ.set i (some v)) := by
  obtain ⟨A, h1, h2⟩ := h
  have hn' := hn A ⟨h1, h2⟩
  by_cases hei : i < e.length
  · refine ⟨fun j => if j = i then [l] else A j, fun j => ?_, fun j k a ha hb => ?_⟩
    · by_cases c : j = i
      · subst c
        rw [join_set_self hei, join_set_self (Nat.lt_of_lt_of_le hei hl), if_pos rfl]
        exact ok
      · rw [join_set_ne (Ne.symm c), join_set_ne (Ne.symm c), if_neg c]
        exact h1 j
    · by_cases c : j = i
      · by_cases c' : k = i
        · rw [c, c']
        · rw [if_pos c] at ha
          rw [if_neg c'] at hb
          have z : a = l := by simpa using ha
          subst z
          exact absurd hb (hn' k)
      · by_cases c' : k = i
        · rw [if_neg c] at ha
          rw [if_pos c'] at hb
          have z : a = l := by simpa using hb
          subst z
          exact absurd ha (hn' j)
        · rw [if_neg c] at ha
          rw [if_neg c'] at hb
          exact h2 j k a ha hb
  · rw [List.set_eq_of_length_le (by omega)]
    refine ⟨A, fun j => ?_, h2⟩
    by_cases c : j = i
    · subst c
      have z := h1 j
      rw [List.getElem?_eq_none (by omega)] at z ⊢
      exact z
    · rw [join_set_ne (Ne.symm c)]
      exact h1 j
/-- nobody has a place that is new, or known -/
theorem SlotsOkA.notNew {T : Txt} {Fr : Addr → Prop} {F H : Hp} {e : Slots} {σ : L2.St} {A : Nat → List Addr} (h : SlotsOkA T Fr F H e σ A) {l : Addr} (hl : H l = none) (j : Nat) : l ∉ A j := fun hm => by
  obtain ⟨⟨o, e1⟩, _⟩ := (h.slot j).own_some l hm
  rw [hl] at e1
  cases e1
/-- what a slot owns changes -/
theorem SlotsOk.upd1 {T : Txt} {Fr : Addr → Prop} {F H : Hp} {e : Slots} {σ : L2.St} {i : Nat} {l : Addr} {sv sv' : SV} {v : V} {o : HO} (h : SlotsOk T Fr F H e σ) (hi : e[i]?.join = some sv) (hv : σ[i]?.join = some v)
    (one : ∀ as, SlotOk T Fr F H (some sv) (some v) as → as = [l]) (ok : SlotOk T Fr F H (some sv) (some v) [l] → SlotOk T Fr F (upd H l o) (some sv') (some v) [l]) : SlotsOk T Fr F (upd H l o) (e.set i (some sv')) σ := by
  obtain ⟨A, h1, h2⟩ := h
  have q := h1 i
  rw [hi, hv] at q
  have e1 := one _ q
  rw [e1] at q
  have he : i < e.length := by
    by_cases c : i < e.length
    · exact c
    · rw [List.getElem?_eq_none (by simpa using c)] at hi; cases hi
  refine ⟨A, fun j => ?_, h2⟩
  by_cases c : j = i
  · subst c
    rw [join_set_self he, hv, e1]
    exact ok q
  · rw [join_set_ne (Ne.symm c)]
    refine (h1 j).move (Same.refl F) fun a ha => ?_
    have ne : a ≠ l := fun z => c (h2 j i a ha (by rw [e1, z]; simp))
    exact ⟨upd_ne ne, ((h1 j).own_some a ha).2.1⟩
/-- an owned list is owned no more: it stays as it is from now on -/
theorem SlotsOk.freeze {T : Txt} {Fr : Addr → Prop} {F H : Hp} {e : Slots} {σ : L2.St} {i : Nat} {ds : List D} (h : SlotsOk T Fr F H e σ) (sub : Same F H) (hi : e[i]?.join = some (.own ds)) :
    ∃ l xs, σ[i]?.join = some (.ref l) ∧ H l = some (.lst xs) ∧ F l = none ∧ Fr l ∧ Rps T F xs ds ∧ Same F (upd F l (.lst xs)) ∧ Same (upd F l (.lst xs)) H ∧ SlotsOk T Fr (upd F l (.lst xs)) H (e.set i (some (.val (.lst ds)))) σ := by
  obtain ⟨A, h1, h2⟩ := h
  have q := h1 i
  rw [hi] at q
  obtain ⟨l, xs, e1, e2, e3, e4, e5, e6⟩ := q
  have he : i < e.length := by
    by_cases c : i < e.length
    · exact c
    · rw [List.getElem?_eq_none (by simpa using c)] at hi; cases hi
  have s1 : Same F (upd F l (.lst xs)) := fun a o z => by rw [upd_ne (ne_of_none z e5)]; exact z
  refine ⟨l, xs, e2, e3, e5, e6, e4, s1, fun a o z => ?_, fun j => if j = i then [] else A j, fun j => ?_, fun j k a ha hb => ?_⟩
  · by_cases c : a = l
    · subst c
      rw [upd_same] at z
      rw [e3]
      exact z
    · rw [upd_ne c] at z
      exact sub a o z
  · by_cases c : j = i
    · subst c
      rw [join_set_self he, if_pos rfl]
      exact ⟨rfl, _, e2, .lst upd_same (e4.mono s1)⟩
    · rw [join_set_ne (Ne.symm c), if_neg c]
      refine (h1 j).move s1 fun a ha => ⟨rfl, ?_⟩
      have ne : a ≠ l := fun z => c (h2 j i a ha (by rw [e1, z]; simp))
      rw [upd_ne ne]
      exact ((h1 j).own_some a ha).2.1
  · by_cases c : j = i
    · simp [c] at ha
    · by_cases c' : k = i
      · simp [c'] at hb
      · rw [if_neg c] at ha
        rw [if_neg c'] at hb
        exact h2 j k a ha hb

/-! ### what a def returns: a value, or a list that nobody has (fre) -/
def RtV (T : Txt) (H0 F' H' : Hp) (v : V) : D → Prop
  | .fre ds => ∃ l xs, v = .ref l ∧ H' l = some (.lst xs) ∧ F' l = none ∧ H0 l = none ∧ Rps T F' xs ds
  | d => Rp T F' v d
def unfre : D → D
  | .fre ds => .lst ds
  | d => d
theorem RtV.of {T : Txt} {H0 F' H' : Hp} {v : V} {d : D} (r : Rp T F' v d) : RtV T H0 F' H' v d := by cases r <;> (first | exact .non | exact .bl _ | exact .int _ | exact .str _ | exact .tup ‹_› ‹_› | exact .scr ‹_› | exact .lst ‹_› ‹_› | exact .dct0 ‹_› | exact .obj ‹_› ‹_› ‹_› ‹_› | exact .cache _)
theorem unfre_rp {T : Txt} {F : Hp} {v : V} {d : D} (r : Rp T F v d) : unfre d = d := by cases r <;> rfl
theorem RtV.weak {T : Txt} {H0 H1 F' H' : Hp} {v : V} {d : D} (r : RtV T H1 F' H' v d) (h : ∀ a, H1 a = none → H0 a = none) : RtV T H0 F' H' v d := by
  cases d with
  | fre ds =>
    obtain ⟨l, xs, e, h1, h2, h3, h4⟩ := r
    exact ⟨l, xs, e, h1, h2, h l h3, h4⟩
  | _ => exact r
/-- it stays as it is from now on -/
theorem RtV.frz {T : Txt} {M : Addr → Prop} {F H F' H' : Hp} {v : V} {d : D} (r : RtV T H F' H' v d) (stp : Step M F H F' H') (sub : Same F' H') : ∃ F2, Step M F H F2 H' ∧ Same F' F2 ∧ Same F2 H' ∧ Rp T F2 v (unfre d) ∧ ∀ a, F2 a ≠ F' a → H a = none := by
  cases d with
  | fre ds =>
    obtain ⟨l, xs, rfl, h1, h2, h3, h4⟩ := r
    have s1 : Same F' (upd F' l (.lst xs)) := fun a o e => by rw [upd_ne (ne_of_none e h2)]; exact e
    refine ⟨upd F' l (.lst xs), ⟨stp.fz.trans s1, fun a o e => ?_, stp.keep, stp.dom⟩, s1, fun a o e => ?_, .lst upd_same (h4.mono s1), fun a e => ?_⟩
    · by_cases c : a = l
      · exact .inr (.inl (by rw [c]; exact h3))
      · rw [upd_ne c] at e
        exact stp.new a o e
    · by_cases c : a = l
      · subst c
        rw [upd_same] at e
        rw [h1]
        exact e
      · rw [upd_ne c] at e
        exact sub a o e
    · by_cases c : a = l
      · rw [c]; exact h3
      · rw [upd_ne c] at e
        exact absurd rfl e
  | _ => exact ⟨F', stp, Same.refl _, sub, r, fun a e => absurd rfl e⟩
end Pv
set_option Elab.async false
set_option linter.all false
set_option maxRecDepth 100000
set_option maxHeartbeats 2000000
/-! PvX: own errors whose __init__ hands a text to its base's and keeps its argument as at. -/
namespace PySem
namespace SupX
open PySem.W PySem.Calls PyProof.Rows PySem.HandSPX
def iA (p1 p2 : Pos) : Arguments := { posonlyargs := [], args := [{ arg := "self", annotation := none, pos := p1 }, { arg := "at", annotation := none, pos := p2 }], vararg := none, kwonlyargs := [], kw_defaults := [], kwarg := none, defaults := [] }
def iB (z : Str) (jj : Nat) (r1 r2 r3 r4 r5 r6 q1 q2 q3 q4 : Pos) : List Stmt :=
  [.Expr (.Call (.Attribute (.Call (.Name "super" r1) [] [] r2) "__init__" r3) [.Constant (.str z) jj r4] [] r5) r6, .Assign [.Attribute (.Name "self" q1) "at" q2] (.Name "at" q3) q4]
def iS : Scope := { kind := .function, names := [(PySem.Str.ofString "self", .local), (PySem.Str.ofString "at", .local), (PySem.Str.ofString "__class__", .free), (PySem.Str.ofString "super", .globalImplicit)], isGenerator := false, isCoroutine := false, more := [] }
/-- what the written part says of the class x, at C, and of its __init__, at fI -/
structure SupTxt (P : Program) (K : Frag) (mg : Str → Option Value) (x qual : Str) (C fI : Addr) : Prop where
  gC : mg x = some (.ref C)
  cls : ∃ nm q N bs bm sn sub ab col dd k0 k1 k2 k3 k5, K.lookup C = some (excClassObj nm q C N bs bm true sn sub ab col dd k0 k1 k2 k3 k5 "ValueError.__new__") ∧ refsVE bm = true
  sa : findIn K (.ref C) "__setattr__" = some (some (.builtin "object.__setattr__"))
  ga : findIn K (.ref C) "__getattribute__" = some (some (.builtin "BaseException.__getattribute__"))
  gg : findIn K (.ref C) "__getattr__" = some none
  noN : findIn K (.ref C) "at" = some none
  iC : findIn K (.ref C) "__init__" = some (some (.ref fI))
  tC : typeIn K (.ref fI) = some (.type "function")
  kC : keepIn K (.ref C) = true
  exC : subIn K (.ref C) (.type "BaseException") = some true
  tyC : typeIn K (.ref C) = some (.type "type")
  hdC : hasDictIn K C = true
  supm : ks_superIn K C C "__init__" = some (some (.builtin "ValueError.__init__"))
  subS : mroIn K C (.ref C) = some true
  subV : subIn K (.ref C) (.type "ValueError") = some true
  opq : nsIn K cStatics "thirdparty.any" = some none
  noS : mg "super" = none
  top : (P.main.scope.names.lookup ("super" : Str)).isSome = false
  fn : ∃ (oc : Value) (od : Option Addr) (doc pm : Value) (an : Option Addr) (cda cc : Addr) (ct : Value) (osl : Array (Option Value)) (z : Str) (jj : Nat) (p1 p2 r1 r2 r3 r4 r5 r6 q1 q2 q3 q4 : Pos)
      (ccl cl : Value) (cdd cld : Option Addr) (ccs csl : Array (Option Value)) (vs : Array Value) (file : Str) (tf : Tok),
    K.lookup fI = some ⟨oc, od, .func (ksFn "__init__" qual (iA p1 p2) (iB z jj r1 r2 r3 r4 r5 r6 q1 q2 q3 q4) iS .none .none doc pm an (.ref cda) ct cc), osl⟩ ∧ codeIn K (.ref cda) qual = true ∧
    K.lookup cda = some ⟨ccl, cdd, .fields vs, ccs⟩ ∧ vs[2]? = some (.str file tf) ∧ ((P.main.file : Str) == file) = true ∧ K.lookup cc = some ⟨cl, cld, .cell (some (.ref C)), csl⟩ ∧
    ∀ env : Env, ∃ pl : Sem Bool, eval (.Call (.Attribute (.Call (.Name "super" r1) [] [] r2) "__init__" r3) [.Constant (.str z) jj r4] [] r5) env = (do
      let ov ← attributeBase (.Call (.Name "super" r1) [] [] r2) "__init__" env (eval (.Call (.Name "super" r1) [] [] r2) env)
      standAt r3.atName
      let (f, first) ← holding [ov] (getMethod ov "__init__" pl)
      callWith r5 f first (backTo r5 (starEach [.Constant (.str z) jj r4] env)) [])
/-- what __init__ leaves of a fresh exception at x -/
structure InitEnd (h h' : Heap) (x C dx t1 : Addr) (v : Value) : Prop where
  keep : ∀ b o, b ≠ x → h.get? b = some o → h'.get? b = some o
  obj : h'.get? x = some { cls := .ref C, dict := some dx, data := .fields #[.ref t1, .none, .none, .none, .bool false, .none] }
  dbig : h.objs.size ≤ dx
  dne : dx ≠ x
  ns : h'.Ns1 dx (fun y => if y = "at" then some v else none)
/-- a made error -/
structure OwnMade (h h' : Heap) (e C d : Addr) (v : Value) : Prop where
  keep : ∀ b o, h.get? b = some o → h'.get? b = some o
  new : h.objs.size ≤ e
  obj : ∃ oe vs, h'.get? e = some oe ∧ oe.cls = .ref C ∧ oe.dict = some d ∧ oe.data = .fields vs ∧ vs[1]? = some .none
  dbig : h.objs.size ≤ d
  dne : d ≠ e
  ns : h'.Ns1 d (fun y => if y = "at" then some v else none)
theorem one_size (v : Value) : [v].length ≤ sizeLine := by
  rw [sizeLine_eq]
  exact (by decide : 1 ≤ 16777216)
section
variable {prog : Program} {w : World} {A : Around} {E : Value → Shared → Prop} {R : Result → Shared → Prop} {s : Shared} {K : Frag} {mg : Str → Option Value} {C fI : Addr} {x qual : Str}
theorem sup_init (T : SupTxt prog K mg x qual C fI) {e t0 : Addr} {v : Value} (X : K.In s.heap) (hlim : s.heap.NoLimit) (hg : s.heap.Ns mainGlobals mg) (hb : ∃ mb, s.heap.Ns builtinsNs mb ∧ ∀ x : Str, x ≠ "__name__" → mb x = bootBuiltins x)
    (hx : s.heap.get? e = some (excO C t0)) (hnx : K.lookup e = none) (hroom : A.depth < recursionLimit)
    (hq : ∀ h' tk dx t1, InitEnd s.heap h' e C dx t1 v → R (.ok (.ret .none)) { s with heap := h', toks := tk }) :
    codeAny (model prog w) A (.call (.ref fI) ⟨[.ref e, v], []⟩) R s := by
  obtain ⟨oc, od, doc, pm, an, cda, cc, ct, osl, z, jj, p1, p2, r1, r2, r3, r4, r5, r6, q1, q2, q3, q4, ccl, cl, cdd, cld, ccs, csl, vs, file, tf, ho, hcd, hcode, hvs, hfile, hcell, hev⟩ := T.fn
  obtain ⟨nm, q, N, bs, bm, sn, sub, ab, col, dd, k0, k1, k2, k3, k5, hC, hbm⟩ := T.cls
  have hcl : clsIn K C = some { name := nm, bases := bs, mro := .ref C :: bm, ns := N, qualname := q, hasDict := true, slotNames := sn, subclasses := sub, abstract := ab, collection := col, hasDel := false } := by unfold clsIn; rw [hC] <;> rfl
  obtain ⟨mb, hb1, hb2⟩ := hb
  refine ks_codeAny_call_defAt (fd := ksFn "__init__" qual (iA p1 p2) (iB z jj r1 r2 r3 r4 r5 r6 q1 q2 q3 q4) iS .none .none doc pm an (.ref cda) ct cc) (body := iB z jj r1 r2 r3 r4 r5 r6 q1 q2 q3 q4) (binds := [("self", .ref e), ("at", v)])
    hroom (X _ _ ho) rfl hlim (codeRec_of X hcd) rfl (BindsTo.of_eq (by first | rfl | with_unfolding_all rfl)) (by show ∀ x ∈ iS.names, x.2 ≠ .cell; decide +kernel) (fun y hy => ?_) (fun h₁ hns hk₁ => ?_)
  · rcases List.mem_cons.mp hy with rfl | hy
    · rfl
    · rcases List.mem_cons.mp hy with rfl | hy
      · rfl
      · cases hy
  · have X₁ : K.In h₁ := X.keeps hk₁
    have hx₁ := hk₁ _ _ hx
    have hinst : InstAt h₁ e (excO C t0) C none := ⟨hx₁, rfl, rfl, trivial⟩
    obtain ⟨oD, hD1, hD2⟩ : ∃ oD, h₁.get? C = some oD ∧ oD.data = .cls { name := nm, bases := bs, mro := .ref C :: bm, ns := N, qualname := q, hasDict := true, slotNames := sn, subclasses := sub, abstract := ab, collection := col, hasDel := false } := ⟨_, X₁ _ _ hC, rfl⟩
    obtain ⟨pl, he⟩ := hev (ksEnv qual iS s.heap.objs.size fI (.ref cda) cc)
    refine ks_wpAt_execs_cons (ks_wpAt_Expr_any (ks_wpAt_MethodCall (pl := pl) ?_ he))
    · refine ks_wpAt_super_base (env := ksEnv qual iS s.heap.objs.size fI (.ref cda) cc) (f := fI) (cc := cda) rfl rfl (by decide +kernel) rfl (X₁ _ _ ho) rfl rfl rfl (X₁ _ _ hcode) rfl hvs hfile T.top ?_
      refine ks_loadName_global rfl rfl (loadGlobal_builtin (env := ksEnv qual iS s.heap.objs.size fI (.ref cda) cc) (hg.keeps hk₁) T.noS (hb1.keeps hk₁) ((hb2 _ (by decide +kernel)).trans (by first | boot_by_name | rfl | kernel_rfl)) ⟨rfl, ?_⟩)
      refine wpAny_loadName_free rfl rfl rfl ⟨_, X₁ _ _ hcell, rfl⟩ ?_
      refine wpAny_loadName_local (name := ("self" : Str)) rfl rfl hns (show List.lookup ("self" : Str) [(("at" : Str), v), ("self", Value.ref e)] = some (Value.ref e) by rfl) ?_
      refine ks_wpAny_isType_cls hD1 hD2 ⟨rfl, ?_⟩
      refine ks_wpAny_call_super hD1 hD2 hx₁ rfl (fun c ec => by cases ec) (looks_mroIn X₁ T.subS) (fun h₂ e₂ k₂ => ?_)
      have X₂ : K.In h₂ := X₁.keeps k₂
      have hx₂ := k₂ _ _ hx₁
      have hinst₂ : InstAt h₂ e (excO C t0) C none := ⟨hx₂, rfl, rfl, trivial⟩
      refine kxs_getMethod kxs_ValueError e₂ (looks_opaque X₂ T.opq) (l₀ := .ref C :: bm) (l := ((Value.ref C :: bm).dropWhile (· != .ref C)).drop 1) ?_ rfl X₂ (K := K) ?_ (hinst₂.type.andThen (looks_subIn X₂ T.subV)) (ks_ne X₂ hinst₂ hcl) (by decide +kernel) ?_
      · exact fun A Q E s k q => wpAny_bind ((looks_clsIn X₂ hcl) A _ E s k (wpAny_pure q))
      · have z := T.supm
        unfold ks_superIn at z
        rw [hcl] at z
        exact z
      · -- super().__init__: a wrapper, called with the text
        have hu : (h₂.push (kxs_mw "ValueError.__init__" e)).get? h₂.objs.size = some (kxs_mw "ValueError.__init__" e) := Heap.get?_push_at rfl rfl
        have k₃ : ∀ b o, h₂.get? b = some o → (h₂.push (kxs_mw "ValueError.__init__" e)).get? b = some o := fun b o q => Heap.get?_push_of_some _ q
        refine kxs_callWith (i := "ValueError.__init__") (x := e) rfl ?_
        refine evalArgs_plain ?_
        show wpAny _ _ (spliced ((false, eval (.Constant (.str z) jj r4) (ksEnv qual iS s.heap.objs.size fI (.ref cda) cc)) :: [])) _ _ _
        refine Calls.spliced_cons (Calls.Constant_str (Calls.spliced_nil ⟨hu, ?_⟩))
        refine wpAny_call (codeAny_of_tree ?_)
        show wpAny _ _ (callAny (.ref h₂.objs.size) ⟨_, []⟩) _ _ _
        simp only [callAny]
        refine wpAny_bind (wpAny_load hu ?_)
        simp only [kxs_mw, show (Value.type "method-wrapper" == Value.type "method" || Value.type "method-wrapper" == Value.type "builtin_function_or_method" || Value.type "method-wrapper" == Value.type "method-wrapper") = true by decide, if_true]
        refine KFB.if_so (by decide) ?_
        have hC₃ := k₃ _ _ (X₂ _ _ hC)
        have hx₃ := k₃ _ _ hx₂
        refine wpAny_bind (check_bound_init F.excBase_ValueError.toExcCallFacts hC₃ hx₃ rfl ?_)
        refine wpAny_bind (wpAny_pure (wpAny_pure ?_))
        refine ⟨plainId_quiet F.excBase_ValueError.init.plain _, codeAny_builtin F.excBase_ValueError.initEntry ?_⟩
        refine exc_init_tree (cls := .ref C) (t0 := t0) (dv := none) (c2 := .none) (c3 := .none) (b4 := .bool false) hx₃ (one_size _) fun h₄ k₄ hx₄ _ => ?_
        show wpAt _ _ _ (execs [.Assign [.Attribute (.Name "self" q1) "at" q2] (.Name "at" q3) q4] (ksEnv qual iS s.heap.objs.size fI (.ref cda) cc)) _ _ _
        have up : ∀ b o, b ≠ e → h₁.get? b = some o → h₄.get? b = some o := fun b o hb q => k₄ b o hb (k₃ b o (k₂ b o q))
        have hLe : s.heap.objs.size ≠ e := Nat.ne_of_gt (Heap.lt_size hx)
        have X₄ : K.In h₄ := fun a o q => up a o (fun y => by rw [y, hnx] at q; cases q) (X₁ a o q)
        have hns₄ : h₄.Ns s.heap.objs.size fun x => List.lookup x [(("at" : Str), v), ("self", Value.ref e)] := by
          obtain ⟨oL, es, ep, hL, r⟩ := hns
          exact ⟨oL, es, ep, up _ _ hLe hL, r⟩
        refine wpAt_of_wpAny (wpAny_execs_cons (plainObj_wpAny_Assign_Attribute ?_))
        refine wpAny_Name (wpAny_loadName_local (name := ("at" : Str)) rfl rfl hns₄ (v := v) (by rfl) ?_) (by decide +kernel)
        refine wpAny_Name (wpAny_loadName_local (name := ("self" : Str)) rfl rfl hns₄ (v := Value.ref e) (by rfl) ?_) (by decide +kernel)
        have hx₅ : h₄.get? e = some (excO C (h₂.push (kxs_mw "ValueError.__init__" e)).objs.size) := hx₄
        refine set_plain X₄ (ox := excO C (h₂.push (kxs_mw "ValueError.__init__" e)).objs.size) (od := none) ⟨hx₅, rfl, rfl, trivial⟩ T.sa ?_
        refine exc_osa X₄ hx₅ hcl (show refsVE (.ref C :: bm) = true from hbm) rfl T.noN (fun h₆ tk₆ dx k₆ dn dne hx₆ hn₆ => ?_)
        show wpAny _ _ (execs _ _) _ _ _
        have old : ∀ b o, b ≠ e → s.heap.get? b = some o → h₆.get? b = some o := fun b o hb q => k₆ b o hb (up b o hb (hk₁ b o q))
        have big : s.heap.objs.size ≤ dx := by
          by_cases c : s.heap.objs.size ≤ dx
          · exact c
          · have z1 : h₄.objs.size ≤ dx := dn
            have z2 : s.heap.objs.size < h₄.objs.size := hns₄.lt
            exact absurd (Nat.le_of_lt (Nat.lt_of_lt_of_le z2 z1)) c
        exact wpAny_execs_nil (hq h₆ tk₆ dx _ ⟨old, hx₆, big, dne, hn₆⟩)
theorem sup_made (T : SupTxt prog K mg x qual C fI) {v : Value} (X : K.In s.heap) (hlim : s.heap.NoLimit) (hg : s.heap.Ns mainGlobals mg) (hb : ∃ mb, s.heap.Ns builtinsNs mb ∧ ∀ x : Str, x ≠ "__name__" → mb x = bootBuiltins x) (hroom : A.depth + 1 < recursionLimit)
    (hq : ∀ h' tk e d, OwnMade s.heap h' e C d v → R (.ok (.ret (.ref e))) { s with heap := h', toks := tk }) :
    codeAny (model prog w) A (.call (.ref C) ⟨[v], []⟩) R s := by
  obtain ⟨nm, q, N, bs, bm, sn, sub, ab, col, dd, k0, k1, k2, k3, k5, hC, hbm⟩ := T.cls
  obtain ⟨hp, g, dr, tk, os⟩ := s
  obtain ⟨mb, hb1, hb2⟩ := hb
  have kept : ∀ b o, hp.get? b = some o → ((hp.push (kdv_tup [v])).push (excO C hp.objs.size)).get? b = some o := fun b o e => Heap.get?_push_of_some _ (Heap.get?_push_of_some _ e)
  have hget : ((hp.push (kdv_tup [v])).push (excO C hp.objs.size)).get? (hp.objs.size + 1) = some (excO C hp.objs.size) := by heap_get
  have hnx : K.lookup (hp.objs.size + 1) = none := by
    cases e : K.lookup (hp.objs.size + 1) with
    | none => rfl
    | some o =>
      have y : hp.get? (hp.objs.size + 1) = some o := X _ _ e
      exact absurd (Nat.lt_of_succ_lt (Heap.lt_size y)) (Nat.lt_irrefl _)
  refine call_own F.excBase_ValueError (fun Y => refsVE_contains Y bm hbm) (X _ _ hC) (looks_findIn X T.iC) (fun self => bind_fn X self T.tC) (one_size v) ?_
  refine sup_init (s := ⟨(hp.push (kdv_tup [v])).push (excO C hp.objs.size), g, dr, tk, os⟩) T (X.keeps kept) (hlim.keeps kept) (hg.keeps kept) ⟨mb, hb1.keeps kept, hb2⟩ hget hnx hroom fun h' tk' dx t1 ⟨k', hx, dn, dne, hns⟩ => ?_
  have old : ∀ b o, hp.get? b = some o → h'.get? b = some o := fun b o e => k' b o (Nat.ne_of_lt (Nat.lt_succ_of_lt (Heap.lt_size e))) (kept b o e)
  have y : hp.objs.size + 1 + 1 ≤ dx := by
    have y1 := dn
    rw [Heap.size_push, Heap.size_push] at y1
    exact y1
  exact ⟨rfl, hq h' tk' (hp.objs.size + 1) dx ⟨old, Nat.le_succ _, ⟨_, _, hx, rfl, rfl, rfl, rfl⟩, Nat.le_trans (Nat.le_trans (Nat.le_succ _) (Nat.le_succ _)) y, dne, hns⟩⟩
end
end SupX
end PySem

namespace Pv
open PySem PySem.Spec PyProof.Rows L2
theorem relO_at {v : V} {u : Value} (r : RelV v u) (f : Str) : RelO (List.lookup f [(("at" : Str), v)]) (if f = "at" then some u else none) := by
  by_cases c : f = "at"
  · subst c
    rw [if_pos rfl, show List.lookup ("at" : Str) [(("at" : Str), v)] = some v by simp [List.lookup]]
    exact r
  · have e : (f == ("at" : Str)) = false := by simpa using c
    rw [if_neg c, show List.lookup f [(("at" : Str), v)] = none by simp [List.lookup, e]]
    trivial
section
variable {X : Cx} {C fI : Addr} {x qual : Str}
/-- X(e), an error with its argument -/
def tMkSup (C : Addr) (ta : TA) : L2.St → Hp → XK → Prop := fun σ H Q => ta σ H fun vs H1 => ∃ v, vs = [v] ∧ ∀ d, H1 d = none → Q (.ref C) (some d) (upd H1 d (.xd [(("at" : Str), v)]))
theorem pmk_sup {a : Expr} {ta : TA} {p pos : Pos} {k : Nat} (T : PySem.SupX.SupTxt X.prog X.K X.mg x qual C fI) (hr : Room k X.A) (ha : PA X [a] ta) (hg : Gl X x) (hdb : (x == ("__debug__" : Str)) = false)
    (he : starEach (a :: []) X.env = (false, eval a X.env) :: starEach [] X.env := by rfl) (hpl : (backTo pos (starEach [] X.env)).any (·.1) = false := by rfl) :
    PMk X (.Call (.Name x p) [a] [] pos) (tMkSup C ta) := by
  intro pins s σ H Q I h
  refine wpAny_Call_Name_kw (ld_glob I hg T.gC ?_ hdb)
  refine PySem.W.callWith_K (h₀ := X.base) I.ok.mod.kin T.kC (thn (ha.run pos pins s σ H _ I h) fun us s1 hh => ?_) he hpl
  obtain ⟨vs, H1, I1, r1, v, ev, q1⟩ := hh
  subst ev
  refine ⟨I1.kIn, ?_⟩
  cases r1 with
  | @cons _ v' _ us' rv rn =>
    cases rn
    show wpAny _ _ (call (.ref C) [v']) _ _ _
    have hlim := I1.nolimit
    have hgl : s1.heap.Ns mainGlobals X.mg := I1.mod.glob.keeps I1.bk
    obtain ⟨mb, hb1, hb2⟩ := I1.mod.blt
    have hbl : s1.heap.Ns builtinsNs mb := hb1.keeps I1.bk
    obtain ⟨hp, g, dr, tk, os⟩ := s1
    refine wpAny_call (PySem.SupX.sup_made T I1.kIn hlim hgl ⟨mb, hbl, hb2⟩ (by have := hr.dp; omega) fun h' tk' e d M => ?_)
    show MkP X pins σ Q (.ref e) ⟨h', g, dr, tk', os⟩
    obtain ⟨oe, fv, hoe, hc, hd, hdat, h1⟩ := M.obj
    have hns := M.ns
    obtain ⟨G', g1, g2⟩ := restrict h' fun b => decide (b ≠ e)
    have gk : ∀ b, b ≠ e → G'.get? b = h'.get? b := fun b hb => g1 b (decide_eq_true hb)
    have ge : G'.get? e = none := g2 e (by simp)
    have old : ∀ b o, hp.get? b = some o → G'.get? b = some o := fun b o z => (gk b (Nat.ne_of_lt (Nat.lt_of_lt_of_le (Heap.lt_size z) M.new))).trans (M.keep b o z)
    have ob : ObjOk X.prog X.w (upd H1 d (.xd [(("at" : Str), v)])) G' d (.xd [(("at" : Str), v)]) := ⟨_, hns.at (fun o z => (gk d M.dne).trans z), fun f => relO_at rv f⟩
    have J : Inv X pins σ (upd H1 d (.xd [(("at" : Str), v)])) ⟨G', g, dr, tk', os⟩ := I1.laid (t' := tk') old M.dbig ob
    refine ⟨e, oe, fv, ⟨G', g, dr, tk', os⟩, _, .ref C, some d, rfl, J, fun b o z => ?_, ge, hoe, ⟨hc, hd⟩, hdat, h1, ?_, rfl, I1.bare, raises_own T.exC T.tyC, q1 d (I1.hok.fresh M.dbig)⟩
    · by_cases hb : b = e
      · have z' : G'.get? b = some o := z
        rw [hb, ge] at z'
        cases z'
      · exact (gk b hb).symm.trans z
    · rw [upd_ne (Ne.symm M.dne)]
      exact I1.hok.fresh M.new
/-- err.at, err the exception that the suite holds (at a; its class cls, its dict d) -/
def tAt (C : Addr) (a : Addr) (cls : Value) (d : Option Addr) (te : TE) : TE := fun σ H Q => te σ H fun x H1 => x = .ref a ∧ cls = .ref C ∧ ∃ (dd : Addr) (v : V), d = some dd ∧ H1 dd = some (.xd [(("at" : Str), v)]) ∧ Q v H1
theorem pe_at {a : Addr} {oe : Obj} {cls : Value} {d : Option Addr} {pn : List (Addr × Obj)} {e : Expr} {te : TE} {pos : Pos} (T : PySem.SupX.SupTxt X.prog X.K X.mg x qual C fI) (hz : Zc cls d oe) (hf : ∃ vs, oe.data = .fields vs) (he : PE (X.suite a ((a, oe) :: pn)) e te)
    (hb : attributeBase e "at" X.env (eval e X.env) = eval e X.env := by rfl) : PE (X.suite a ((a, oe) :: pn)) (.Attribute e "at" pos) (tAt C a cls d te) := by
  refine ⟨fun pins s σ H Q I h => ?_⟩
  refine attr_of hb (thn (he.run pins s σ H _ I h) fun u s1 hh => ?_)
  obtain ⟨y, H1, I1, rx, ex, ec, dd, v, ed, ea, q⟩ := hh
  subst ex
  obtain rfl : u = Value.ref a := rx
  subst ec
  subst ed
  obtain ⟨ha, _⟩ := I1.pin (a, oe) (List.mem_append_left _ List.mem_cons_self)
  obtain ⟨vs, hd⟩ := hf
  have hx : ObjOk X.prog X.w H1 s1.heap dd (.xd [(("at" : Str), v)]) := I1.hok dd _ ea
  obtain ⟨mA, hns, hr⟩ := hx
  obtain ⟨od, ho, hl⟩ := lookIn_ns hns
  have l : List.lookup ("at" : Str) [(("at" : Str), v)] = some v := by simp [List.lookup]
  obtain ⟨u, hu, ru⟩ := RelO.some_of (v := v) (o := mA "at") (by rw [← l]; exact hr "at")
  have J : PySem.W.InstAt s1.heap a oe C (some od) := ⟨ha, hz.1, by unfold PySem.W.notCls; rw [hd] <;> rfl, by rw [hz.2]; exact ho⟩
  exact HandSPX.exc_get I1.kIn J T.ga T.gg T.exC (PySem.W.findObj_own T.hdC T.noN rfl (by rw [hl, hu])) (handed_of ru) ⟨v, H1, I1.tok _, ru, q⟩
end
end Pv
set_option Elab.async false
set_option linter.all false
set_option maxRecDepth 100000
/-! PvG: room in which nothing is being shown (so that what repr does of lists is known); defs and the law's end in such a room. -/
namespace Pv
open PySem PySem.Spec PyProof.Rows L2

structure RoomG (k : Nat) (A : Around) : Prop where
  r : Room k A
  g : A.guards = some []
theorem RoomG.mono {j k : Nat} {A : Around} (h : RoomG k A) (e : j ≤ k) : RoomG j A := ⟨h.r.mono e, h.g⟩
theorem deeper_guards {A : Around} {env : Env} : (A.deeper env).guards = A.guards := by
  first | rfl | (cases A; rfl)
theorem make_guards {A : Around} {C : Addr} {us : List Value} {kw : List (Str × Value)} : (A.under (.builtin "type.__call__" ⟨.ref C :: us, kw⟩)).guards = A.guards := by
  first | rfl | simp [Around.under, Code.guards, Code.isGuard, guardIds, pushGuards]
theorem RoomG.deeper {k : Nat} {A : Around} (h : RoomG (k + 1) A) (env : Env) : RoomG k (A.deeper env) := ⟨h.r.deeper env, by rw [deeper_guards]; exact h.g⟩
theorem RoomG.make {k : Nat} {A : Around} (h : RoomG (k + 1) A) (C : Addr) (us : List Value) (kw : List (Str × Value)) : RoomG k (A.under (.builtin "type.__call__" ⟨.ref C :: us, kw⟩)) := ⟨h.r.make C us kw, by rw [make_guards]; exact h.g⟩

structure FnG (P : Program) (w : World) (K : PySem.W.Frag) (mg : Str → Option Value) (base : Heap) (CX : CXT) (k : Nat) (f : Addr) (fd : FuncData) (ps : List Str) (sp : Sp) : Prop where
  run : ∀ (A : Around) (outer : List Env) (s : Shared) (H : Hp) (args : Args) (us : List Value) (vs : List V) (Q : VK) (E : XK), RoomG k A → Env0 P w K mg base A outer s H → BindsTo s fd args (ps.zip us) → Vals vs us → sp vs H Q E →
    codeAny (model P w) A (.call (.ref f) args) (CR CX outer P w H s Q E) s
variable {P : Program} {w : World} {K : PySem.W.Frag} {mg : Str → Option Value} {base : Heap}
/-- a def in such a room -/
theorem fn_okG {x qual : Str} {st : Stmt} {f : Addr} {fd : FuncData} {N ps : List Str} {k : Nat} {sp : Sp} (F : Fun K x qual st f fd) (S : FnScope N ps (defScope st)) (len : ∀ vs H Q E, sp vs H Q E → vs.length = ps.length)
    (hbody : ∀ (cdv : Value) (A : Around) (outer : List Env) (s : Shared) (H : Hp) (vs : List V) (Q : VK) (E : XK), RoomG k (A.deeper (envOfC qual (defScope st) s.heap.objs.size f cdv)) → sp vs H Q E →
      ∃ t, PSs (cxOf (L2.CX P w) P w K mg base N qual (defScope st) f cdv A outer s H E) (defBody st) t ∧ t { nx := fun _ H' => Q .non H', rt := Q } (start N vs) H) : FnG P w K mg base (L2.CX P w) (k + 1) f fd ps sp := by
  obtain ⟨oc, od, kV, doc, pm, an, cdv, ct, osl, rfl, lk, hcd⟩ := F.ex
  refine ⟨fun A outer s H args us vs Q E hr e0 hb r hsp => ?_⟩
  have KX : K.In s.heap := e0.mod.kin.keeps fun b o e => (e0.bs b o e).1
  refine codeAny_call_function hr.r.depth (KX _ _ lk) rfl S.co S.gen rfl (PySem.W.codeRec_of KX hcd) (hb _ _ _ _ (wpAny_newFunctionEnv_cells S.kind (fun y hy => ?_) fun env he s1 x => ?_))
  · exact (S.par y.1 (List.of_mem_zip hy).1).imp id fun q => ⟨q, PySem.W.cellsFrom_some _ _ _ (.inl q)⟩
  · subst he
    obtain ⟨t, ht, hq⟩ := hbody cdv A outer s H vs Q E (hr.deeper _) hsp
    refine ⟨(e0.mod.nolimit.keeps fun b o e => (e0.bs b o e).1).keeps x.toInCall.keep, codeAny_func (wpAny_mono (ht.run [] s1 _ H _ (inv_start S hr.r.hd e0 (len _ _ _ _ hsp) r x) hq) (fun fl s' hs => ?_) fun e s' hs => hs)⟩
    cases fl with
    | ret u => obtain ⟨v, _, H', J, rv, q⟩ := hs; exact ⟨v, H', J.os, J.bare, J.base, J.hok, rv, q⟩
    | next => obtain ⟨_, H', J, q⟩ := hs; exact ⟨V.non, H', J.os, J.bare, J.base, J.hok, rfl, q⟩
    | brk => obtain ⟨_, _, _, q⟩ := hs; exact q.elim
    | cont => obtain ⟨_, _, _, q⟩ := hs; exact q.elim

/-! ### the law's end -/
theorem law_end {mb : Str → Option Value} {CX : CXT} {k : Nat} {fa a : Addr} {fd : FuncData} {x : Str} {sp : Sp} {s₁ : Shared} {vs : List Value} {H : Hp}
    (KX : K.In s₁.heap) (hns : s₁.heap.Ns mainGlobals mg) (hb : s₁.heap.Ns builtinsNs mb) (hbb : ∀ x : Str, x ≠ "__name__" → mb x = bootBuiltins x) (hlim : s₁.heap.NoLimit) (hg : s₁.gens = #[])
    (ha : s₁.heap.get? a = some { cls := .type "list", data := .seq vs.toArray }) (hr : RoomG k callerA)
    (F : ∀ base : Heap, K.In base → base.Ns mainGlobals mg → FnG P w K mg base CX k fa fd [x] sp) (hbind : ∀ (s : Shared) (u : Value), BindsTo s fd ⟨[u], []⟩ [(x, u)])
    (hsp : sp [.ref a] H (fun v _ => v = .bl true) fun _ _ _ => False) (hCX : ∀ e s', CX [] H s₁ (fun _ _ _ => False) e s' → False)
    (hok : HOk P w H s₁.heap) (hA : ∀ b u, H b = some u → b = a ∧ K.lookup a = none ∧ ∃ o xs, u = .frz o (.lst xs)) :
    codeAny (model P w) callerA (.call (.ref fa) ⟨[.ref a], []⟩) (fun r s' => r = .ok (.ret (.bool true)) ∧ OldK s₁.heap s'.heap ∧ s'.os = s₁.os ∧ AllBare s'.gens) s₁ := by
  have off : ∀ {b : Addr} {o : Obj}, s₁.heap.get? b = some o → (b = a → K.lookup a = none → False) → H b = none := fun {b o} _ n => by
    cases q : H b with
    | none => rfl
    | some u => exact (n (hA b u q).1 (hA b u q).2.1).elim
  have nsK : ∀ {b : Addr} {m : Str → Option Value}, s₁.heap.Ns b m → (hidT s₁.heap H).Ns b m := fun {b m} ⟨o, es, ep, e, d, r⟩ => ⟨o, es, ep, hidT_get e (off e fun z _ => by
    subst z
    rw [ha] at e
    cases e
    cases (show Data.seq vs.toArray _ = Data.dict es ep from d)), d, r⟩
  have hKb : K.In (hidT s₁.heap H) := fun b o e => hidT_get (KX b o e) (off (KX b o e) fun z n => by rw [z, n] at e; cases e)
  have e0 : Env0 P w K mg (hidT s₁.heap H) callerA [] s₁ H :=
    ⟨rfl, ⟨hKb, nsK hns, ⟨mb, nsK hb, hbb⟩, let ⟨mc, h1, h2⟩ := hlim; ⟨mc, nsK h1, h2⟩⟩, fun b o e => of_hidT e, Nat.le_of_eq (hidT_size _ _), trivial, fun b hb => absurd (show b ∈ ([] : List Addr) from hb) (by simp), hok, .of_eq hg⟩
  refine codeAny_mono ((F _ hKb (nsK hns)).run callerA [] s₁ H ⟨[.ref a], []⟩ [.ref a] [.ref a] _ _ hr e0 (hbind s₁ (.ref a)) (.cons rfl .nil) hsp) fun r s' h => ?_
  cases r with
  | error e => exact (hCX e s' h).elim
  | ok fl =>
    cases fl with
    | next => exact False.elim h
    | brk => exact False.elim h
    | cont => exact False.elim h
    | ret u =>
      obtain ⟨v, H', os, bare, un, hok', r', q⟩ := h
      obtain rfl : v = .bl true := q
      obtain rfl : u = Value.bool true := r'
      refine ⟨rfl, OldK.of_keep fun b o e => ?_, os, bare⟩
      cases q : H b with
      | none => exact un.keep b o e q (fun z => absurd (show b ∈ ([] : List Addr) from z) (by simp)) (by simp)
      | some u =>
        obtain ⟨_, _, ob, xs, z⟩ := hA b u q
        subst z
        obtain ⟨e1, _⟩ := hok b _ q
        obtain ⟨e2, _⟩ := hok' b _ (un.frzs b ob _ q)
        rw [e] at e1
        cases e1
        exact e2
/-- what a head leaves to be shown of a law -/
theorem walk_ofG {l : PySem.W.OpenLaw} {n k : Nat} {q : Program} {loose : List Str} {XP : (Str → Option Value) → Heap → Prop} {YP : World → Heap → Prop} {d : DefRec} {K : Params → PySem.W.Frag} {CX : World → CXT} {sp : World → Sp} {x : Str}
    (hn : l.most = some n) (hn2 : n ≤ sizeLine) (hdf : d.params.defaults = []) (hr : RoomG k callerA)
    (hY : ∀ (w : World) (h : Heap), YP w h → (K w.params).In h)
    (F : ∀ (w : World) (mg : Str → Option Value) (fa : Addr) (h : Heap), (K w.params).In h → h.Ns mainGlobals mg → mg d.name = some (.ref fa) →
      ∃ fd : FuncData, (∀ (s : Shared) (u : Value), BindsTo s fd ⟨[u], []⟩ [(x, u)]) ∧
        ∀ base : Heap, (K w.params).In base → base.Ns mainGlobals mg → FnG l.prog w (K w.params) mg base (CX w) k fa fd [x] (sp w))
    (hsp : ∀ (w : World) (H : Hp) (a : Addr) (ns : List Int), ns.length ≤ n → ScL (K w.params) H a (ns.map V.int) → (∀ b u, H b = some u → ∃ o xs, u = .frz o (.lst xs)) → sp w [.ref a] H (fun v _ => v = .bl true) fun _ _ _ => False)
    (hCX : ∀ (w : World) (H : Hp) (s : Shared) (e : Value) (s' : Shared), CX w [] H s (fun _ _ _ => False) e s' → False) :
    PySem.W.WalkO q loose XP YP l.row.toRowW d [] (fun f vs => PySem.call f vs) := by
  refine Att.attach_call hn hdf fun w s₀ s₁ mg mb fa o pm cd doc a vs ns G Y ho hd hcd hmg hobj hints hlen hg => ?_
  have KX := hY w _ Y
  obtain ⟨fd, hb, hF⟩ := F w mg fa _ KX G.T.g hmg
  have rv := vals_ints hints
  have lenV := hints.length
  have hl : ns.length ≤ sizeLine := Nat.le_trans hlen hn2
  have go : ∀ H : Hp, ScL (K w.params) H a (ns.map V.int) → HOk l.prog w H s₁.heap → (∀ b u, H b = some u → b = a ∧ (K w.params).lookup a = none ∧ ∃ o xs, u = .frz o (.lst xs)) → _ :=
    fun H hS hok hA => law_end KX G.T.g G.T.b G.T.builtins G.T.nolimit hg hobj hr hF hb (hsp w H a ns hlen hS fun b u e => (hA b u e).2.2) (fun e s' => hCX w H s₁ e s') hok hA
  cases hk : (K w.params).lookup a with
  | some o =>
    have e := KX a o hk
    rw [hobj] at e
    cases e
    exact go (fun _ => none) (.inr ⟨_, vs.toArray, _, hk, rfl, rfl, rfl, by rw [List.size_toArray, lenV]; exact hl, by simpa using rv⟩) (fun b u z => nomatch z) fun b u z => nomatch z
  | none =>
    refine go (fun b => if b = a then some (.frz { cls := .type "list", data := .seq vs.toArray } (.lst (ns.map V.int))) else none) (.inl ⟨_, if_pos rfl⟩) (fun b u z => ?_) fun b u z => ?_
    · by_cases hb : b = a
      · have z' := (if_pos hb).symm.trans z
        cases z'
        subst hb
        exact ⟨hobj, by rw [List.length_map]; exact hl, vs, _, rv, hobj⟩
      · have z' := (if_neg hb).symm.trans z
        cases z'
    · by_cases hb : b = a
      · have z' := (if_pos hb).symm.trans z
        cases z'
        exact ⟨hb, hk, _, _, rfl⟩
      · have z' := (if_neg hb).symm.trans z
        cases z'
end Pv
set_option Elab.async false
set_option linter.all false
set_option maxRecDepth 100000
/-! Pv1: judgements: an expression (a block) of the text does what a plain function says. -/
namespace Pv
open PySem L2

structure Ctx where
  T : Txt
  X : Cx
  k : Nat
  M : Addr → Prop
  F0 : Hp
  H0 : Hp
  W : WX
  eh : Slots
  hot : Bool
  loose : Bool := false
abbrev Ctx.Fr (C : Ctx) : Addr → Prop := fun a => C.H0 a = none ∨ C.M a

structure Good (C : Ctx) : Prop where
  K : C.X.K = C.T.K
  mg : C.X.mg = C.T.mg
  pr : C.X.prog = C.T.P
  w : C.X.w = C.T.w
  base : C.X.base = C.T.base
  calm : C.hot = false → C.X.calm = true
  nd : C.X.N.Nodup
  room : C.hot = false → RoomG C.k C.X.A
  own : PassesOwn (model C.X.prog C.X.w) C.X.A C.X.env C.X.xe
  tk : Takes C.X C.W

structure St8 (C : Ctx) (sl : Slots) (σ : L2.St) (F H : Hp) : Prop where
  step : Step C.M C.F0 C.H0 F H
  sub : Same F H
  env : SlotsOk C.T C.Fr F H sl σ
  len : sl.length ≤ σ.length
theorem St8.grow {C : Ctx} {env : Slots} {σ : L2.St} {F H F' H' : Hp} (s : St8 C env σ F H) (g : Grow F H F' H') (sub : Same F' H') : St8 C env σ F' H' :=
  ⟨s.step.trans (g.weak fun _ z => z.elim), sub, s.env.grow g, s.len⟩
theorem St8.le {C : Ctx} {env env' : Slots} {σ : L2.St} {F H : Hp} (s : St8 C env σ F H) (l : SlotsLe env' env) (hl : env'.length ≤ env.length) : St8 C env' σ F H :=
  ⟨s.step, s.sub, s.env.le l, Nat.le_trans hl s.len⟩
theorem St8.new {C : Ctx} {env : Slots} {σ : L2.St} {F H : Hp} {p : Addr} {o : HO} (s : St8 C env σ F H) (hp : H p = none) : St8 C env σ (upd F p o) (upd H p o) :=
  s.grow (grow_new s.sub hp) (sub_new s.sub)

/-- what must stay of the known things at a block's end: all, or (in a law's own block) what was known at its start -/
def Ctx.Fx (C : Ctx) (F : Hp) : Hp := if C.loose = true then C.F0 else F
theorem St8.fx {C : Ctx} {env : Slots} {σ : L2.St} {F H : Hp} (s : St8 C env σ F H) : Same (C.Fx F) F := by
  unfold Ctx.Fx
  split
  · exact s.step.fz
  · exact Same.refl F
theorem Ctx.fx_mono (C : Ctx) {F F1 : Hp} (e : Same F F1) : Same (C.Fx F) (C.Fx F1) := by
  unfold Ctx.Fx
  split
  · exact Same.refl _
  · exact e
theorem Ctx.fx_tight {C : Ctx} (h : C.loose = false) {F F1 : Hp} (e : Same (C.Fx F) F1) : Same F F1 := by
  unfold Ctx.Fx at e
  rw [h] at e
  exact e
abbrev Ctx.tight (C : Ctx) : Ctx := { C with loose := false }
theorem St8.to_tight {C : Ctx} {env : Slots} {σ : L2.St} {F H : Hp} (s : St8 C env σ F H) : St8 C.tight env σ F H := ⟨s.step, s.sub, s.env, s.len⟩
theorem St8.of_tight {C : Ctx} {env : Slots} {σ : L2.St} {F H : Hp} (s : St8 C.tight env σ F H) : St8 C env σ F H := ⟨s.step, s.sub, s.env, s.len⟩
theorem Good.tight {C : Ctx} (g : Good C) : Good C.tight := ⟨g.K, g.mg, g.pr, g.w, g.base, g.calm, g.nd, g.room, g.own, g.tk⟩

structure ErrC (T : Txt) (c : Str) : Prop where
  ex : ∃ Ca fI qual, T.cls c = some Ca ∧ PySem.SupX.SupTxt T.P T.K T.mg c qual Ca fI
/-- how an error that leaves lies -/
def ErrOk (T : Txt) (c : Str) (d : D) (cls : Value) (dd : Option Addr) (F H : Hp) : Prop :=
  ErrC T c ∧ ∃ Ca a v, T.cls c = some Ca ∧ cls = .ref Ca ∧ dd = some a ∧ F a = some (.xd [("at", v)]) ∧ Rp T F v d
def Werr (C : Ctx) (c : Str) (d : D) : Prop := ∀ (σ : L2.St) (cls : Value) (dd : Option Addr) (F H : Hp), ErrOk C.T c d cls dd F H → St8 C C.eh σ F H → C.W cls dd σ H

def Srv (C : Ctx) {α τ : Type} : R (α × τ) → (α → τ → Prop) → Prop
  | .ok (a, s), K => K a s
  | .err c d, _ => Werr C c d
  | .bad, _ => False
theorem Srv.mono {C : Ctx} {α τ : Type} {r : R (α × τ)} {K K' : α → τ → Prop} (h : Srv C r K) (k : ∀ a s, K a s → K' a s) : Srv C r K' := by
  cases r with
  | ok p => exact k _ _ h
  | err c d => exact h
  | bad => exact h
theorem Srv.to_tight {C : Ctx} {α τ : Type} {r : R (α × τ)} {K : α → τ → Prop} (h : Srv C r K) : Srv C.tight r K := by
  cases r with
  | ok p => exact h
  | err c d => exact fun σ cls dd F H e st => h σ cls dd F H e st.of_tight
  | bad => exact h
theorem Srv.bind {C : Ctx} {α β τ τ' : Type} {r : R (α × τ)} {f : α × τ → R (β × τ')} {K : β → τ' → Prop} (h : Srv C (r.bind f) K) : Srv C r (fun a s => Srv C (f (a, s)) K) := by
  cases r with
  | ok p => exact h
  | err c d => exact h
  | bad => exact h
theorem Srv.of_ok {C : Ctx} {α τ : Type} {r : R (α × τ)} {K : α → τ → Prop} {a : α} {s : τ} (h : Srv C r K) (e : r = .ok (a, s)) : K a s := by
  subst e; exact h
/-- a plain result -/
def Srv1 (C : Ctx) {α : Type} : R α → (α → Prop) → Prop
  | .ok a, K => K a
  | .err c d, _ => Werr C c d
  | .bad, _ => False
theorem Srv.bind1 {C : Ctx} {α β τ' : Type} {r : R α} {f : α → R (β × τ')} {K : β → τ' → Prop} (h : Srv C (r.bind f) K) : Srv1 C r (fun a => Srv C (f a) K) := by
  cases r with
  | ok p => exact h
  | err c d => exact h
  | bad => exact h

/-! ### the weakest reading -/
def wpE (X : Cx) (e : Expr) : TE := fun σ H Q => ∃ t, PE X e t ∧ t σ H Q
theorem pe_wp {X : Cx} {e : Expr} : PE X e (wpE X e) := ⟨fun pins s σ H Q I ⟨t, h, q⟩ => h.run pins s σ H Q I q⟩
def wpT (X : Cx) (e : Expr) : TT := fun σ H Q => ∃ t, PT X e t ∧ t σ H Q
theorem pt_wp {X : Cx} {e : Expr} : PT X e (wpT X e) := ⟨fun pins s σ H Q I ⟨t, h, q⟩ => h.run pins s σ H Q I q⟩
def wpA (X : Cx) (es : List Expr) : TA := fun σ H Q => ∃ t, PA X es t ∧ t σ H Q
theorem pa_wp {X : Cx} {es : List Expr} : PA X es (wpA X es) := ⟨fun pos pins s σ H Q I ⟨t, h, q⟩ => h.run pos pins s σ H Q I q⟩
def wpS (X : Cx) (ss : List Stmt) : TS := fun D σ H => ∃ t, PSs X ss t ∧ t D σ H
theorem ps_wp {X : Cx} {ss : List Stmt} : PSs X ss (wpS X ss) := ⟨fun pins s σ H D I ⟨t, h, q⟩ => h.run pins s σ H D I q⟩
theorem pw_wp {X : Cx} {e : Expr} {t : TT} (h : PW X e t) : PT X e t := h.pt

/-! ### judgements -/
def JE (C : Ctx) {τ : Type} (φ : τ → Slots) (e : Expr) (m : τ → R (D × τ)) : Prop := Good C → ∀ (s : τ) (σ : L2.St) (F H : Hp) (Q : VK), St8 C (φ s) σ F H →
  Srv C (m s) (fun d s' => ∀ v F' H', Same F F' → Rp C.T F' v d → St8 C (φ s') σ F' H' → Q v H') → wpE C.X e σ H Q
def JT (C : Ctx) {τ : Type} (φ : τ → Slots) (e : Expr) (m : τ → R (Bool × τ)) : Prop := Good C → ∀ (s : τ) (σ : L2.St) (F H : Hp) (Q : Bool → Hp → Prop), St8 C (φ s) σ F H →
  Srv C (m s) (fun b s' => ∀ F' H', Same F F' → St8 C (φ s') σ F' H' → Q b H') → wpT C.X e σ H Q
def JA (C : Ctx) {τ : Type} (φ : τ → Slots) (es : List Expr) (m : τ → R (List D × τ)) : Prop := Good C → ∀ (s : τ) (σ : L2.St) (F H : Hp) (Q : List V → Hp → Prop), St8 C (φ s) σ F H →
  Srv C (m s) (fun ds s' => ∀ vs F' H', Same F F' → Rps C.T F' vs ds → St8 C (φ s') σ F' H' → Q vs H') → wpA C.X es σ H Q

section
variable {C : Ctx} {τ : Type} {φ : τ → Slots}
theorem SlotsOk.valAt {T : Txt} {Fr : Addr → Prop} {F H : Hp} {e : Slots} {σ : L2.St} {i : Nat} {d : D} (h : SlotsOk T Fr F H e σ) (hi : e[i]?.join = some (.val d)) : ∃ v, σ[i]? = some (some v) ∧ Rp T F v d := by
  obtain ⟨A, h1, _⟩ := h
  have q := h1 i
  rw [hi] at q
  obtain ⟨_, v, e1, r⟩ := q
  refine ⟨v, ?_, r⟩
  cases z : σ[i]? with
  | none => rw [z] at e1; cases e1
  | some o => rw [z] at e1; rw [show o = some v from e1]
/-- a name that holds a value -/
theorem je_var (i : Nat) {x : Str} {pos : Pos} {f : τ → D} (hv : ∀ s, (φ s)[i]?.join = some (.val (f s)) := by intro _; rfl) (hN : C.X.N[i]? = some x := by rfl) (hs : Vis C.X.env.scope x := by first | exact Or.inl rfl | exact Or.inr (Or.inl rfl) | exact Or.inr (Or.inr rfl))
    (hd : (x == ("__debug__" : Str)) = false := by decide) (hcd : (x == ("__classdict__" : Str)) = false := by decide) : JE C φ (.Name x pos) (fun s => .ok (f s, s)) := fun g s σ F H Q st h => by
  obtain ⟨v, e, r⟩ := st.env.valAt (hv s)
  exact ⟨_, pe_var hN hs hd hcd, v, e, h v F H (Same.refl F) r st⟩
theorem je_int {i : Int} {j : Nat} {pos : Pos} : JE C φ (.Constant (.int i) j pos) (fun s => .ok (.int i, s)) := fun g s σ F H Q st h => ⟨_, pe_int, h _ F H (Same.refl F) (.int i) st⟩
theorem je_bl {i : Bool} {j : Nat} {pos : Pos} : JE C φ (.Constant (.bool i) j pos) (fun s => .ok (.bl i, s)) := fun g s σ F H Q st h => ⟨_, pe_bl, h _ F H (Same.refl F) (.bl i) st⟩
theorem je_str {i : Str} {j : Nat} {pos : Pos} : JE C φ (.Constant (.str i) j pos) (fun s => .ok (.str i, s)) := fun g s σ F H Q st h => ⟨_, pe_str, h _ F H (Same.refl F) (.str i) st⟩
theorem je_non {j : Nat} {pos : Pos} : JE C φ (.Constant .none j pos) (fun s => .ok (.non, s)) := fun g s σ F H Q st h => ⟨_, pe_non, h _ F H (Same.refl F) .non st⟩

/-- a two-place operation -/
def OpD (C : Ctx) (op : Value → Value → Sem Value) (g : D → D → R D) : Prop := Good C → ∃ r, OpR C.X op r ∧ ∀ (F H : Hp) (Q : VK) (vx vy : V) (dx dy : D), Same F H → Rp C.T F vx dx → Rp C.T F vy dy →
  Srv1 C (g dx dy) (fun d => ∀ v F' H', Grow F H F' H' → Same F' H' → Rp C.T F' v d → Q v H') → r vx vy H Q
theorem je_op {a b : Expr} {pos : Pos} {op : Operator} {g : D → D → R D} {ma mb : τ → R (D × τ)} (ho : OpD C (binaryOp op) g) (ha : JE C φ a ma) (hb : JE C φ b mb) :
    JE C φ (.BinOp a op b pos) (fun s => (ma s).bind fun p => (mb p.2).bind fun q => (g p.1 q.1).bind fun d => .ok (d, q.2)) := fun gd s σ F H Q st h => by
  obtain ⟨r, hr, hv⟩ := ho gd
  refine ⟨_, pe_op hr pe_wp pe_wp, ?_⟩
  refine ha gd s σ F H _ st (h.bind.mono fun dx s1 h1 vx F1 H1 e1 r1 st1 => ?_)
  refine hb gd s1 σ F1 H1 _ st1 (h1.bind.mono fun dy s2 h2 vy F2 H2 e2 r2 st2 => ?_)
  refine hv F2 H2 Q vx vy dx dy st2.sub (r1.mono e2) r2 ?_
  have h3 := h2.bind1
  cases q : g dx dy with
  | ok d => rw [q] at h3; exact fun v F' H' gr sub rv => h3 v F' H' ((e1.trans e2).trans gr.fz) rv (st2.grow gr sub)
  | err c d => rw [q] at h3; exact h3
  | bad => rw [q] at h3; exact h3
/-- a comparison as a value -/
theorem je_cmp {a b : Expr} {pos : Pos} {op : CmpOp} {g : D → D → R D} {ma mb : τ → R (D × τ)} (ho : OpD C (compareOp op) g) (ha : JE C φ a ma) (hb : JE C φ b mb) (hm : behindInMarks op b = false := by first | exact nomark _ | rfl) :
    JE C φ (.Compare a [op] [b] pos) (fun s => (ma s).bind fun p => (mb p.2).bind fun q => (g p.1 q.1).bind fun d => .ok (d, q.2)) := fun gd s σ F H Q st h => by
  obtain ⟨r, hr, hv⟩ := ho gd
  refine ⟨_, pe_cmpR hr pe_wp pe_wp hm, ?_⟩
  refine ha gd s σ F H _ st (h.bind.mono fun dx s1 h1 vx F1 H1 e1 r1 st1 => ?_)
  refine hb gd s1 σ F1 H1 _ st1 (h1.bind.mono fun dy s2 h2 vy F2 H2 e2 r2 st2 => ?_)
  refine hv F2 H2 Q vx vy dx dy st2.sub (r1.mono e2) r2 ?_
  have h3 := h2.bind1
  cases q : g dx dy with
  | ok d => rw [q] at h3; exact fun v F' H' gr sub rv => h3 v F' H' ((e1.trans e2).trans gr.fz) rv (st2.grow gr sub)
  | err c d => rw [q] at h3; exact h3
  | bad => rw [q] at h3; exact h3
def asBool : D → R Bool
  | .bl b => .ok b
  | _ => .bad
/-- a comparison as a test -/
theorem jt_cmp {a b : Expr} {pos : Pos} {op : CmpOp} {g : D → D → R D} {ma mb : τ → R (D × τ)} (ho : OpD C (compareOp op) g) (ha : JE C φ a ma) (hb : JE C φ b mb) (hm : behindInMarks op b = false := by first | exact nomark _ | rfl) :
    JT C φ (.Compare a [op] [b] pos) (fun s => (ma s).bind fun p => (mb p.2).bind fun q => (g p.1 q.1).bind fun d => (asBool d).bind fun c => .ok (c, q.2)) := fun gd s σ F H Q st h => by
  obtain ⟨r, hr, hv⟩ := ho gd
  refine ⟨_, pt_cmpR hr pe_wp pe_wp hm, ?_⟩
  refine ha gd s σ F H _ st (h.bind.mono fun dx s1 h1 vx F1 H1 e1 r1 st1 => ?_)
  refine hb gd s1 σ F1 H1 _ st1 (h1.bind.mono fun dy s2 h2 vy F2 H2 e2 r2 st2 => ?_)
  refine hv F2 H2 _ vx vy dx dy st2.sub (r1.mono e2) r2 ?_
  have h3 := h2.bind1
  cases q : g dx dy with
  | ok d =>
    rw [q] at h3
    intro v F' H' gr sub rv
    have h4 := (show Srv C ((asBool d).bind fun c => .ok (c, s2)) _ from h3).bind1
    cases rv with
    | bl c => exact ⟨c, rfl, h4 F' H' ((e1.trans e2).trans gr.fz) (st2.grow gr sub)⟩
    | _ => exact h4.elim
  | err c d => rw [q] at h3; exact h3
  | bad => rw [q] at h3; exact h3
/-- an expression that gives a bool, as a test -/
theorem jt_val {e : Expr} {m : τ → R (D × τ)} (h : JE C φ e m) (he : ∀ whole, isTrue e C.X.env whole = (do let v ← whole; standAt e.pos; holding [v] (truthy v)) := by intro _; rfl) :
    JT C φ e (fun s => (m s).bind fun p => (asBool p.1).bind fun c => .ok (c, p.2)) := fun gd s σ F H Q st hs => by
  refine ⟨_, pt_val pe_wp he, ?_⟩
  refine h gd s σ F H _ st (hs.bind.mono fun d s1 h1 v F1 H1 e1 r1 st1 => ?_)
  have h4 := h1.bind1
  cases r1 with
  | bl c => exact ⟨c, rfl, h4 F1 H1 e1 st1⟩
  | _ => exact h4.elim
theorem jt_not {e : Expr} {pos : Pos} {m : τ → R (Bool × τ)} (h : JT C φ e m) : JT C φ (.UnaryOp .Not e pos) (fun s => (m s).bind fun p => .ok (!p.1, p.2)) := fun gd s σ F H Q st hs => by
  refine ⟨_, pt_not pt_wp, ?_⟩
  exact h gd s σ F H _ st (hs.bind.mono fun b s1 h1 F1 H1 e1 st1 => h1 F1 H1 e1 st1)
/-- and, or as tests -/
def JW (C : Ctx) {τ : Type} (φ : τ → Slots) (e : Expr) (m : τ → R (Bool × τ)) : Prop := Good C → ∀ (s : τ) (σ : L2.St) (F H : Hp) (Q : Bool → Hp → Prop), St8 C (φ s) σ F H →
  Srv C (m s) (fun b s' => ∀ F' H', Same F F' → St8 C (φ s') σ F' H' → Q b H') → ∃ t, PW C.X e t ∧ t σ H Q
def wpW (X : Cx) (e : Expr) : TT := fun σ H Q => ∃ t, PW X e t ∧ t σ H Q
theorem pw_self {X : Cx} {e : Expr} : PW X e (wpW X e) := ⟨fun wh pins s σ H Q I ⟨t, h, q⟩ => h.run wh pins s σ H Q I q⟩
theorem jt_w {e : Expr} {m : τ → R (Bool × τ)} (h : JW C φ e m) : JT C φ e m := fun gd s σ F H Q st hs => by
  obtain ⟨t, h1, h2⟩ := h gd s σ F H Q st hs
  exact ⟨t, h1.pt, h2⟩
theorem jw_and1 {e : Expr} {pos : Pos} {m : τ → R (Bool × τ)} (h : JT C φ e m) : JW C φ (.BoolOp .And [e] pos) m := fun gd s σ F H Q st hs => ⟨_, pw_and1 pt_wp, h gd s σ F H Q st hs⟩
theorem jw_or1 {e : Expr} {pos : Pos} {m : τ → R (Bool × τ)} (h : JT C φ e m) : JW C φ (.BoolOp .Or [e] pos) m := fun gd s σ F H Q st hs => ⟨_, pw_or1 pt_wp, h gd s σ F H Q st hs⟩
theorem jw_and {e b : Expr} {rest : List Expr} {pos : Pos} {m n : τ → R (Bool × τ)} (h : JT C φ e m) (k : JW C φ (.BoolOp .And (b :: rest) pos) n) : JW C φ (.BoolOp .And (e :: b :: rest) pos) (fun s => (m s).bind fun p => if p.1 = true then n p.2 else .ok (false, p.2)) := fun gd s σ F H Q st hs => by
  refine ⟨_, pw_and pt_wp pw_self, ?_⟩
  refine h gd s σ F H _ st (hs.bind.mono fun c s1 h1 F1 H1 e1 st1 => ?_)
  cases c with
  | true => exact iteT (k gd s1 σ F1 H1 Q st1 (Srv.mono h1 fun b s2 h2 F2 H2 e2 st2 => h2 F2 H2 (e1.trans e2) st2))
  | false => exact iteF (h1 F1 H1 e1 st1)
theorem jw_or {e b : Expr} {rest : List Expr} {pos : Pos} {m n : τ → R (Bool × τ)} (h : JT C φ e m) (k : JW C φ (.BoolOp .Or (b :: rest) pos) n) : JW C φ (.BoolOp .Or (e :: b :: rest) pos) (fun s => (m s).bind fun p => if p.1 = true then .ok (true, p.2) else n p.2) := fun gd s σ F H Q st hs => by
  refine ⟨_, pw_or pt_wp pw_self, ?_⟩
  refine h gd s σ F H _ st (hs.bind.mono fun c s1 h1 F1 H1 e1 st1 => ?_)
  cases c with
  | true => exact iteT (h1 F1 H1 e1 st1)
  | false => exact iteF (k gd s1 σ F1 H1 Q st1 (Srv.mono h1 fun b s2 h2 F2 H2 e2 st2 => h2 F2 H2 (e1.trans e2) st2))
/-- and, or, not as values: bools -/
theorem je_one {op : BoolOp} {e : Expr} {pos : Pos} {m : τ → R (D × τ)} (h : JE C φ e m) : JE C φ (.BoolOp op [e] pos) m := fun gd s σ F H Q st hs => ⟨_, pe_one pe_wp, h gd s σ F H Q st hs⟩
theorem je_and {e b : Expr} {rest : List Expr} {pos : Pos} {m n : τ → R (D × τ)} (h : JE C φ e m) (k : JE C φ (.BoolOp .And (b :: rest) pos) n) :
    JE C φ (.BoolOp .And (e :: b :: rest) pos) (fun s => (m s).bind fun p => (asBool p.1).bind fun c => if c = true then n p.2 else .ok (.bl false, p.2)) := fun gd s σ F H Q st hs => by
  refine ⟨_, pe_and pe_wp pe_wp, ?_⟩
  refine h gd s σ F H _ st (hs.bind.mono fun d s1 h1 v F1 H1 e1 r1 st1 => ?_)
  have h4 := h1.bind1
  cases r1 with
  | bl c =>
    refine ⟨c, rfl, ?_⟩
    cases c with
    | true => exact iteT (k gd s1 σ F1 H1 Q st1 (Srv.mono h4 fun b s2 h2 v2 F2 H2 e2 r2 st2 => h2 v2 F2 H2 (e1.trans e2) r2 st2))
    | false => exact iteF (h4 _ F1 H1 e1 (.bl false) st1)
  | _ => exact h4.elim
theorem je_or {e b : Expr} {rest : List Expr} {pos : Pos} {m n : τ → R (D × τ)} (h : JE C φ e m) (k : JE C φ (.BoolOp .Or (b :: rest) pos) n) :
    JE C φ (.BoolOp .Or (e :: b :: rest) pos) (fun s => (m s).bind fun p => (asBool p.1).bind fun c => if c = true then .ok (.bl true, p.2) else n p.2) := fun gd s σ F H Q st hs => by
  refine ⟨_, pe_or pe_wp pe_wp, ?_⟩
  refine h gd s σ F H _ st (hs.bind.mono fun d s1 h1 v F1 H1 e1 r1 st1 => ?_)
  have h4 := h1.bind1
  cases r1 with
  | bl c =>
    refine ⟨c, rfl, ?_⟩
    cases c with
    | true => exact iteT (h4 _ F1 H1 e1 (.bl true) st1)
    | false => exact iteF (k gd s1 σ F1 H1 Q st1 (Srv.mono h4 fun b s2 h2 v2 F2 H2 e2 r2 st2 => h2 v2 F2 H2 (e1.trans e2) r2 st2))
  | _ => exact h4.elim
theorem je_not {e : Expr} {pos : Pos} {m : τ → R (D × τ)} (h : JE C φ e m) : JE C φ (.UnaryOp .Not e pos) (fun s => (m s).bind fun p => (asBool p.1).bind fun c => .ok (.bl (!c), p.2)) := fun gd s σ F H Q st hs => by
  refine ⟨_, pe_not pe_wp, ?_⟩
  refine h gd s σ F H _ st (hs.bind.mono fun d s1 h1 v F1 H1 e1 r1 st1 => ?_)
  have h4 := h1.bind1
  cases r1 with
  | bl c => exact ⟨c, rfl, h4 _ F1 H1 e1 (.bl _) st1⟩
  | _ => exact h4.elim
theorem je_if {c a b : Expr} {pos : Pos} {mc : τ → R (Bool × τ)} {ma mb : τ → R (D × τ)} (hc : JT C φ c mc) (ha : JE C φ a ma) (hb : JE C φ b mb) : JE C φ (.IfExp c a b pos) (fun s => (mc s).bind fun p => if p.1 = true then ma p.2 else mb p.2) := fun gd s σ F H Q st hs => by
  refine ⟨_, pe_ifExp pt_wp pe_wp pe_wp, ?_⟩
  refine hc gd s σ F H _ st (hs.bind.mono fun c s1 h1 F1 H1 e1 st1 => ?_)
  cases c with
  | true => exact iteT (ha gd s1 σ F1 H1 Q st1 (Srv.mono h1 fun b s2 h2 v2 F2 H2 e2 r2 st2 => h2 v2 F2 H2 (e1.trans e2) r2 st2))
  | false => exact iteF (hb gd s1 σ F1 H1 Q st1 (Srv.mono h1 fun b s2 h2 v2 F2 H2 e2 r2 st2 => h2 v2 F2 H2 (e1.trans e2) r2 st2))

/-! ### argument lists, displays -/
theorem ja_nil : JA C φ [] (fun s => .ok ([], s)) := fun gd s σ F H Q st hs => ⟨_, pa_nil, hs [] F H (Same.refl F) .nil st⟩
theorem ja_cons {e : Expr} {es : List Expr} {m : τ → R (D × τ)} {n : τ → R (List D × τ)} (h : JE C φ e m) (k : JA C φ es n) (hst : starEach (e :: es) C.X.env = (false, eval e C.X.env) :: starEach es C.X.env := by rfl) :
    JA C φ (e :: es) (fun s => (m s).bind fun p => (n p.2).bind fun q => .ok (p.1 :: q.1, q.2)) := fun gd s σ F H Q st hs => by
  refine ⟨_, pa_cons pe_wp pa_wp hst, ?_⟩
  refine h gd s σ F H _ st (hs.bind.mono fun d s1 h1 v F1 H1 e1 r1 st1 => ?_)
  exact k gd s1 σ F1 H1 _ st1 (h1.bind.mono fun ds s2 h2 vs F2 H2 e2 r2 st2 => h2 (v :: vs) F2 H2 (e1.trans e2) (.cons (r1.mono e2) r2) st2)
theorem sz_small {n : Nat} (h : n ≤ 1000000) : n ≤ sizeLine := Nat.le_trans h (by decide)
theorem je_tup {es : List Expr} {x1 : Nat} {pos : Pos} {n : τ → R (List D × τ)} (h : JA C φ es n) : JE C φ (.Tuple es x1 pos) (fun s => (n s).bind fun p => if p.1.length ≤ 1000000 then .ok (.tup p.1, p.2) else .bad) := fun gd s σ F H Q st hs => by
  refine ⟨_, pe_tup pa_wp, ?_⟩
  refine h gd s σ F H _ st (hs.bind.mono fun ds s1 h1 vs F1 H1 e1 r1 st1 => ?_)
  by_cases c : ds.length ≤ 1000000
  · have h2 : ∀ v F' H', Same F F' → Rp C.T F' v (.tup ds) → St8 C (φ s1) σ F' H' → Q v H' := by
      have z := h1
      simp only [c, if_true] at z
      exact z
    refine ⟨sz_small (by rw [r1.length]; exact c), fun p hp => ?_⟩
    have st2 := st1.new (o := .tup vs) hp
    exact h2 (.ref p) _ _ (e1.trans (grow_new st1.sub hp).fz) (.tup upd_same (r1.mono (grow_new st1.sub hp).fz)) st2
  · have z := h1
    simp only [c, if_false] at z
    exact z.elim
theorem je_lst {es : List Expr} {pos : Pos} {n : τ → R (List D × τ)} (h : JA C φ es n) : JE C φ (.List es pos) (fun s => (n s).bind fun p => if p.1.length ≤ 1000000 then .ok (.lst p.1, p.2) else .bad) := fun gd s σ F H Q st hs => by
  refine ⟨_, pe_lst pa_wp, ?_⟩
  refine h gd s σ F H _ st (hs.bind.mono fun ds s1 h1 vs F1 H1 e1 r1 st1 => ?_)
  by_cases c : ds.length ≤ 1000000
  · have h2 : ∀ v F' H', Same F F' → Rp C.T F' v (.lst ds) → St8 C (φ s1) σ F' H' → Q v H' := by
      have z := h1
      simp only [c, if_true] at z
      exact z
    refine ⟨sz_small (by rw [r1.length]; exact c), fun p hp => ?_⟩
    have st2 := st1.new (o := .lst vs) hp
    exact h2 (.ref p) _ _ (e1.trans (grow_new st1.sub hp).fz) (.lst upd_same (r1.mono (grow_new st1.sub hp).fz)) st2
  · have z := h1
    simp only [c, if_false] at z
    exact z.elim
end
end Pv
set_option Elab.async false
set_option linter.all false
set_option maxRecDepth 100000
/-! Pv2: blocks, loops, defs. -/
namespace Pv
open PySem L2

/-- how a block ends -/
inductive Fl (α β : Type) where
  | nx (a : α) | rt (d : D) | bk (b : β)
def FlPost (C : Ctx) {τ α β : Type} (F : Hp) (ψ : α → τ → Slots) (χ : β → τ → Slots) (ρ : τ → Slots) (Dn : Ends) : Fl α β → τ → Prop
  | .nx a, s => ∀ σ F' H', Same (C.Fx F) F' → St8 C (ψ a s) σ F' H' → Dn.nx σ H'
  | .bk b, s => ∀ σ F' H', Same (C.Fx F) F' → St8 C (χ b s) σ F' H' → Dn.bk σ H'
  | .rt d, s => ∀ v σ F' H', Same (C.Fx F) F' → RtV C.T C.H0 F' H' v d → St8 C (ρ s) σ F' H' → Dn.rt v H'
theorem FlPost.mono {C : Ctx} {τ α β : Type} {F F1 : Hp} {ψ : α → τ → Slots} {χ : β → τ → Slots} {ρ : τ → Slots} {Dn : Ends} (e : Same F F1) : ∀ {f : Fl α β} {s : τ}, FlPost C F ψ χ ρ Dn f s → FlPost C F1 ψ χ ρ Dn f s
  | .nx a, s, h => fun σ F' H' e' st => h σ F' H' ((C.fx_mono e).trans e') st
  | .bk b, s, h => fun σ F' H' e' st => h σ F' H' ((C.fx_mono e).trans e') st
  | .rt d, s, h => fun v σ F' H' e' r st => h v σ F' H' ((C.fx_mono e).trans e') r st
/-- the same, where what must stay stands in a later one -/
theorem FlPost.move {C : Ctx} {τ α β : Type} {F F1 : Hp} {ψ : α → τ → Slots} {χ : β → τ → Slots} {ρ : τ → Slots} {Dn : Ends} {sl : Slots} {σ1 : L2.St} {H1 : Hp} (e : Same (C.Fx F) F1) (st : St8 C sl σ1 F1 H1) {f : Fl α β} {s : τ} (h : FlPost C F ψ χ ρ Dn f s) : FlPost C F1 ψ χ ρ Dn f s := by
  have k : ∀ {F'}, Same (C.Fx F1) F' → Same (C.Fx F) F' := fun {F'} z => by
    unfold Ctx.Fx at e z ⊢
    split
    · rename_i hl
      rw [if_pos hl] at z
      exact z
    · rename_i hl
      rw [if_neg hl] at z e
      exact e.trans z
  cases f with
  | nx a => exact fun σ F' H' e' st => h σ F' H' (k e') st
  | bk b => exact fun σ F' H' e' st => h σ F' H' (k e') st
  | rt d => exact fun v σ F' H' e' r st => h v σ F' H' (k e') r st
def JB (C : Ctx) {τ α β : Type} (φ : τ → Slots) (ss : List Stmt) (ψ : α → τ → Slots) (χ : β → τ → Slots) (ρ : τ → Slots) (m : τ → R (Fl α β × τ)) : Prop := Good C → ∀ (s : τ) (σ : L2.St) (F H : Hp) (Dn : Ends), St8 C (φ s) σ F H →
  Srv C (m s) (FlPost C F ψ χ ρ Dn) → wpS C.X ss Dn σ H
/-- a block behind a block -/
def flb {α α' β τ : Type} (r : R (Fl α β × τ)) (k : α → τ → R (Fl α' β × τ)) : R (Fl α' β × τ) := r.bind fun p => match p.1 with
  | .nx a => k a p.2
  | .rt d => .ok (.rt d, p.2)
  | .bk b => .ok (.bk b, p.2)
@[simp] theorem flb_nx {α α' β τ : Type} (a : α) (s : τ) (k : α → τ → R (Fl α' β × τ)) : flb (.ok (.nx a, s)) k = k a s := rfl
@[simp] theorem flb_rt {α α' β τ : Type} (d : D) (s : τ) (k : α → τ → R (Fl α' β × τ)) : flb (.ok (.rt d, s)) k = .ok (.rt d, s) := rfl
@[simp] theorem flb_bk {α α' β τ : Type} (b : β) (s : τ) (k : α → τ → R (Fl α' β × τ)) : flb (.ok (.bk b, s)) k = .ok (.bk b, s) := rfl
@[simp] theorem flb_err {α α' β τ : Type} (c : Str) (d : D) (k : α → τ → R (Fl α' β × τ)) : flb (.err c d) k = .err c d := rfl
@[simp] theorem flb_bad {α α' β τ : Type} (k : α → τ → R (Fl α' β × τ)) : flb .bad k = .bad := rfl
def FlK (C : Ctx) {α α' β τ : Type} (k : α → τ → R (Fl α' β × τ)) (K : Fl α' β → τ → Prop) : Fl α β → τ → Prop
  | .nx a, s => Srv C (k a s) K
  | .rt d, s => K (.rt d) s
  | .bk b, s => K (.bk b) s
theorem Srv.flb {C : Ctx} {α α' β τ : Type} {r : R (Fl α β × τ)} {k : α → τ → R (Fl α' β × τ)} {K : Fl α' β → τ → Prop} (h : Srv C (Pv.flb r k) K) :
    Srv C r (FlK C k K) := by
  cases r with
  | ok p =>
    obtain ⟨f, s⟩ := p
    cases f with
    | nx a => exact h
    | rt d => exact h
    | bk b => exact h
  | err c d => exact h
  | bad => exact h

section
variable {C : Ctx} {τ α β α' : Type} {φ : τ → Slots} {ψ : α → τ → Slots} {χ : β → τ → Slots} {ρ : τ → Slots} {rest : List Stmt} {pos : Pos}
theorem jb_nil (a : τ → α) (h : ∀ s, SlotsLe (ψ (a s) s) (φ s)) (hl : ∀ s, (ψ (a s) s).length ≤ (φ s).length) : JB C φ [] ψ χ ρ (fun s => .ok (.nx (a s), s)) := fun g s σ F H Dn st h' =>
  ⟨_, pss_nil, h' σ F H st.fx (st.le (h s) (hl s))⟩
theorem St8.setVal {env : Slots} {σ : L2.St} {F H : Hp} {i : Nat} {v : V} {d : D} (st : St8 C env σ F H) (r : Rp C.T F v d) : St8 C (env.set i (some (.val d))) (σ.set i (some v)) F H :=
  ⟨st.step, st.sub, st.env.setVal r st.len, by rw [List.length_set, List.length_set]; exact st.len⟩
/-- x = e -/
theorem jb_set (i : Nat) {x : Str} {e : Expr} {pos' : Pos} {me : τ → R (D × τ)} {k : D → τ → R (Fl α β × τ)} (he : JE C φ e me) (hk : ∀ d, JB C (fun s => (φ s).set i (some (.val d))) rest ψ χ ρ (k d))
    (hi : C.X.N[i]? = some x := by rfl) (hx : Loc C.X.env.scope x := by first | exact Or.inl rfl | exact Or.inr rfl) (hs : swapsWith e (some (.Name x pos')) pos.line C.X.env = pure false := by rfl)
    (hf : C.X.fn x = true ∨ C.X.env.scope.names.lookup x = some .local := by first | exact .inl rfl | exact .inr rfl) :
    JB C φ (.Assign [.Name x pos'] e pos :: rest) ψ χ ρ (fun s => (me s).bind fun p => k p.1 p.2) := fun g s σ F H Dn st h => by
  refine ⟨_, pss_cons (ps_set g.nd hi hx pe_wp hs hf) ps_wp, ?_⟩
  refine he g s σ F H _ st (h.bind.mono fun d s1 h1 v F1 H1 e1 r1 st1 => ?_)
  exact hk d g s1 _ F1 H1 Dn (st1.setVal r1) (h1.mono fun f s2 => FlPost.mono e1)
theorem jb_ret {e : Expr} {me : τ → R (D × τ)} (he : JE C φ e me) (h : ∀ s, SlotsLe (ρ s) (φ s)) (hl : ∀ s, (ρ s).length ≤ (φ s).length) :
    JB C φ (.Return (some e) pos :: rest) ψ χ ρ (fun s => (me s).bind fun p => .ok (.rt p.1, p.2)) := fun g s σ F H Dn st hs => by
  refine ⟨_, pss_cons (ps_ret pe_wp) pss_never, ?_⟩
  exact he g s σ F H _ st (hs.bind.mono fun d s1 h1 v F1 H1 e1 r1 st1 => h1 v σ F1 H1 (st.fx.trans e1) (.of r1) (st1.le (h s1) (hl s1)))
theorem jb_drop {e : Expr} {me : τ → R (D × τ)} {k : τ → R (Fl α β × τ)} (he : JE C φ e me) (hk : JB C φ rest ψ χ ρ k) (hs : swapsWith e none pos.line C.X.env = pure false := by rfl) :
    JB C φ (.Expr e pos :: rest) ψ χ ρ (fun s => (me s).bind fun p => k p.2) := fun g s σ F H Dn st h => by
  refine ⟨_, pss_cons (ps_expr pe_wp hs) ps_wp, ?_⟩
  exact he g s σ F H _ st (h.bind.mono fun d s1 h1 v F1 H1 e1 r1 st1 => hk g s1 σ F1 H1 Dn st1 (h1.mono fun f s2 => FlPost.mono e1))
theorem jb_pass {k : τ → R (Fl α β × τ)} (hk : JB C φ rest ψ χ ρ k) : JB C φ (.Pass pos :: rest) ψ χ ρ k := fun g s σ F H Dn st h => ⟨_, pss_cons ps_pass ps_wp, hk g s σ F H Dn st h⟩
theorem jb_break (b : τ → β) (h : ∀ s, SlotsLe (χ (b s) s) (φ s)) (hl : ∀ s, (χ (b s) s).length ≤ (φ s).length) : JB C φ (.Break pos :: rest) ψ χ ρ (fun s => .ok (.bk (b s), s)) := fun g s σ F H Dn st h' =>
  ⟨_, pss_cons ps_break pss_never, h' σ F H st.fx (st.le (h s) (hl s))⟩
/-- if .. else .., then the rest -/
theorem jb_if {c : Expr} {A B : List Stmt} {mc : τ → R (Bool × τ)} (ψ1 : α' → τ → Slots) {mA mB : τ → R (Fl α' β × τ)} {k : α' → τ → R (Fl α β × τ)} (hc : JT C φ c mc) (hA : JB C φ A ψ1 χ ρ mA) (hB : JB C φ B ψ1 χ ρ mB) (hk : ∀ a, JB C (ψ1 a) rest ψ χ ρ (k a)) :
    JB C φ (.If c A B pos :: rest) ψ χ ρ (fun s => (mc s).bind fun p => flb (if p.1 = true then mA p.2 else mB p.2) k) := fun g s σ F H Dn st h => by
  refine ⟨_, pss_cons (ps_if pt_wp ps_wp ps_wp) ps_wp, ?_⟩
  refine hc g s σ F H _ st (h.bind.mono fun c s1 h1 F1 H1 e1 st1 => ?_)
  have go : ∀ {S : List Stmt} {n : τ → R (Fl α' β × τ)}, JB C φ S ψ1 χ ρ n → Srv C (flb (n s1) k) (FlPost C F ψ χ ρ Dn) → wpS C.X S { Dn with nx := wpS C.X rest Dn } σ H1 := fun {S n} hS hn => by
    refine hS g s1 σ F1 H1 _ st1 (hn.flb.mono fun f s2 h2 => ?_)
    cases f with
    | nx a => exact fun σ' F' H' e' st' => hk a g s2 σ' F' H' Dn st' (Srv.mono h2 fun f s3 h3 => FlPost.move ((C.fx_mono e1).trans e') st' h3)
    | rt d => exact fun v σ' F' H' e' r st' => h2 v σ' F' H' ((C.fx_mono e1).trans e') r st'
    | bk b => exact fun σ' F' H' e' st' => h2 σ' F' H' ((C.fx_mono e1).trans e') st'
  cases c with
  | true => exact iteT (go hA (by simpa using h1))
  | false => exact iteF (go hB (by simpa using h1))
/-- what is known may be forgotten -/
theorem jb_weak (φ' : τ → Slots) {k : τ → R (Fl α β × τ)} (h : ∀ s, SlotsLe (φ' s) (φ s)) (hl : ∀ s, (φ' s).length ≤ (φ s).length) (hk : JB C φ' rest ψ χ ρ k) : JB C φ rest ψ χ ρ k := fun g s σ F H Dn st hs => hk g s σ F H Dn (st.le (h s) (hl s)) hs

/-! ### what is walked -/
def wpI (X : Cx) (tg e : Expr) : TI := fun σ H R => ∃ w, PI X tg e w ∧ w σ H R
theorem pi_wp {X : Cx} {tg e : Expr} : PI X tg e (wpI X tg e) := ⟨fun pins s σ H R I ⟨t, h, q⟩ => h.run pins s σ H R I q⟩
/-- what an iterator gives: the data ds, one after another -/
def Gives (T : Txt) (F1 : Hp) (ds : List D) (J : It) : Prop := ∃ (G : Hp → Prop) (Y : Nat → Hp → V → Hp → Prop), Walk J ds.length G Y ∧ (∀ H, Same F1 H → G H) ∧
  ∀ i F H x H', i < ds.length → Same F1 F → Same F H → Y i H x H' → ∃ F' d, Grow F H F' H' ∧ Same F' H' ∧ ds[i]? = some d ∧ Rp T F' x d
def JI (C : Ctx) {τ : Type} (φ : τ → Slots) (tg e : Expr) (m : τ → R (List D × τ)) : Prop := Good C → ∀ (s : τ) (σ : L2.St) (F H : Hp) (Q : It → Hp → Prop), St8 C (φ s) σ F H →
  Srv C (m s) (fun ds s' => ∀ J F' H', Same F F' → St8 C (φ s') σ F' H' → Gives C.T F' ds J → Q J H') → wpI C.X tg e σ H Q
def asItems : D → R (List D)
  | .lst ds => .ok ds
  | .scr ns => .ok (ns.map .int)
  | .tup ds => .ok ds
  | _ => .bad
theorem pi_or {X : Cx} {tg e : Expr} {w w' : TI} (h : PI X tg e w) (h' : PI X tg e w') : PI X tg e (fun σ H R => w σ H R ∨ w' σ H R) := ⟨fun pins s σ H R I q => by
  rcases q with q | q
  · exact h.run pins s σ H R I q
  · exact h'.run pins s σ H R I q⟩
theorem Rps.ints {T : Txt} {F : Hp} : ∀ ns : List Int, Rps T F (ns.map V.int) (ns.map D.int)
  | [] => .nil
  | n :: ns => .cons (.int n) (Rps.ints ns)
theorem Gives.list {T : Txt} {F1 : Hp} {a : Addr} {xs : List V} {ds : List D} (h : SqL T.K F1 a xs) (r : Rps T F1 xs ds) : Gives T F1 ds (Itl T.K a) := by
  refine ⟨_, _, by rw [← r.length]; exact walk_list (xs := xs), fun H e => sql_same e h, fun i F H x H' _ e1 e2 y => ?_⟩
  obtain ⟨rfl, hx⟩ := y
  obtain ⟨d, hd, rd⟩ := r.get' hx
  exact ⟨F, d, Step.refl _ _ _, e2, hd, rd.mono e1⟩
theorem Gives.tuple {T : Txt} {F1 : Hp} {a : Addr} {xs : List V} {ds : List D} (h : SqT T.K F1 a xs) (r : Rps T F1 xs ds) : Gives T F1 ds (Itt T.K a) := by
  refine ⟨_, _, by rw [← r.length]; exact walk_tup (xs := xs), fun H e => sqt_same e h, fun i F H x H' _ e1 e2 y => ?_⟩
  obtain ⟨rfl, hx⟩ := y
  obtain ⟨d, hd, rd⟩ := r.get' hx
  exact ⟨F, d, Step.refl _ _ _, e2, hd, rd.mono e1⟩
/-- a list or a tuple, walked -/
theorem ji_seq {tg e : Expr} {m : τ → R (D × τ)} (h : JE C φ e m) : JI C φ tg e (fun s => (m s).bind fun p => (asItems p.1).bind fun ds => .ok (ds, p.2)) := fun g s σ F H Q st hs => by
  refine ⟨fun σ H R => wpE C.X e σ H fun x H1 => (∃ a, x = .ref a ∧ (∃ xs, SqL C.X.K H1 a xs) ∧ R (Itl C.X.K a) H1) ∨ (∃ a, x = .ref a ∧ (∃ xs, SqT C.X.K H1 a xs) ∧ R (Itt C.X.K a) H1), ⟨fun pins s σ H R I q => ?_⟩, ?_⟩
  · refine thn (pe_wp.run pins s σ H _ I q) fun v s1 ⟨x, H1, I1, r1, q1⟩ => ?_
    have one : PE C.X e (fun _ _ Q => Q x H1) → True := fun _ => trivial
    rcases q1 with ⟨a, ex, ⟨xs, hq⟩, q⟩ | ⟨a, ex, ⟨xs, hq⟩, q⟩
    · subst ex
      cases r1
      obtain ⟨its, rv, p, hz⟩ := I1.list hq
      refine wpAny_pyIter_list p.isList ?_
      refine ⟨s1.heap.objs.size, [s1.heap.objs.size], _, _, H1, rfl, I1.kept (t' := s1.toks) fun b o e => Heap.get?_push_of_some _ e, turn_list a _, ⟨_, Heap.get?_push_size _ rfl, rfl, rfl⟩, fun b hb => ?_, q⟩
      obtain rfl : b = s1.heap.objs.size := by simpa using hb
      exact I1.fpOk (Nat.le_refl _) (I1.hok.fresh (Nat.le_refl _))
    · subst ex
      cases r1
      obtain ⟨its, rv, p, hz⟩ := I1.tuple hq
      refine wpAny_pyIter_tuple (show s1.heap.IsTuple a its.toArray from p) ?_
      refine ⟨s1.heap.objs.size, [s1.heap.objs.size], _, _, H1, rfl, I1.kept (t' := s1.toks) fun b o e => Heap.get?_push_of_some _ e, turn_tuple a _, ⟨_, Heap.get?_push_size _ rfl, rfl, rfl⟩, fun b hb => ?_, q⟩
      obtain rfl : b = s1.heap.objs.size := by simpa using hb
      exact I1.fpOk (Nat.le_refl _) (I1.hok.fresh (Nat.le_refl _))
  · refine h g s σ F H _ st (hs.bind.mono fun d s1 h1 v F1 H1 e1 r1 st1 => ?_)
    have h2 := h1.bind1
    rw [g.K]
    cases r1 with
    | lst hq rr => exact .inl ⟨_, rfl, ⟨_, .inl (.inl (st1.sub _ _ hq))⟩, h2 _ F1 H1 e1 st1 (.list (.inl (.inl hq)) rr)⟩
    | scr hq => exact .inl ⟨_, rfl, ⟨_, sql_same st1.sub hq.sql⟩, h2 _ F1 H1 e1 st1 (.list hq.sql (Rps.ints _))⟩
    | tup hq rr => exact .inr ⟨_, rfl, ⟨_, .inl (.inl (st1.sub _ _ hq))⟩, h2 _ F1 H1 e1 st1 (.tuple (.inl (.inl hq)) rr)⟩
    | _ => exact h2.elim

/-! ### for -/
def forL {γ : Type} (f : D → α → τ → R (Fl α α × τ)) : List D → α → τ → R (Fl α γ × τ)
  | [], a, s => .ok (.nx a, s)
  | d :: ds, a, s => (f d a s).bind fun p => match p.1 with
    | .nx a' => forL f ds a' p.2
    | .bk a' => .ok (.nx a', p.2)
    | .rt r => .ok (.rt r, p.2)
/-- a target takes a datum: the places and the parts that they take -/
def setMany (env : Slots) : List Nat → List D → Slots
  | i :: is, d :: ds => setMany (env.set i (some (.val d))) is ds
  | _, _ => env
/-- only these slots were stored -/
def SB (is : List Nat) (σ σ' : L2.St) : Prop := σ'.length = σ.length ∧ ∀ j, j ∉ is → σ'[j]? = σ[j]?
theorem SB.refl (is : List Nat) (σ : L2.St) : SB is σ σ := ⟨rfl, fun _ _ => rfl⟩
theorem SB.set (i : Nat) (is : List Nat) (σ : L2.St) (v : Option V) : SB (i :: is) σ (σ.set i v) := ⟨List.length_set, fun j hj => List.getElem?_set_ne fun e => hj (by rw [e]; exact List.Mem.head _)⟩
theorem SB.cons {i : Nat} {is : List Nat} {σ σ' : L2.St} {v : Option V} (h : SB is (σ.set i v) σ') : SB (i :: is) σ σ' := ⟨by rw [h.1, List.length_set], fun j hj => by
  rw [h.2 j fun e => hj (List.Mem.tail _ e)]
  exact List.getElem?_set_ne fun e => hj (by rw [e]; exact List.Mem.head _)⟩
def JG (C : Ctx) (tg : Expr) (is : List Nat) (parts : D → Option (List D)) : Prop := Good C → ∀ (env : Slots) (σ : L2.St) (F H : Hp) (v : V) (d : D) (ds : List D) (Q : L2.St → Hp → Prop), St8 C env σ F H → Rp C.T F v d →
  parts d = some ds → (∀ σ', SB is σ σ' → St8 C (setMany env is ds) σ' F H → Q σ' H) → ∃ g, PG C.X tg g ∧ g v σ H Q
def wpG (X : Cx) (tg : Expr) : TG := fun v σ H Q => ∃ g, PG X tg g ∧ g v σ H Q
theorem pg_wp {X : Cx} {tg : Expr} : PG X tg (wpG X tg) := ⟨fun pins s σ H v u Q I r ⟨g, h, q⟩ => h.run pins s σ H v u Q I r q⟩
abbrev partName : D → Option (List D) := fun d => some [d]
theorem jg_name (i : Nat) {x : Str} {p : Pos} (hi : C.X.N[i]? = some x := by rfl) (hx : Loc C.X.env.scope x := by first | exact Or.inl rfl | exact Or.inr rfl) (hf : C.X.fn x = true ∨ C.X.env.scope.names.lookup x = some .local := by first | exact .inl rfl | exact .inr rfl) :
    JG C (.Name x p) [i] partName := fun g env σ F H v d ds Q st r e h => by
  cases e
  exact ⟨_, pg_name g.nd hi hx hf, h _ (SB.set i [] σ _) (st.setVal r)⟩
/-- names, one after another -/
def JGs (C : Ctx) (tgs : List Expr) (is : List Nat) : Prop := Good C → ∀ (env : Slots) (σ : L2.St) (F H : Hp) (vs : List V) (ds : List D) (Q : L2.St → Hp → Prop), St8 C env σ F H → Rps C.T F vs ds →
  ds.length = is.length → (∀ σ', SB is σ σ' → St8 C (setMany env is ds) σ' F H → Q σ' H) → ∃ g, PGs C.X tgs g ∧ g vs σ H Q
def wpGs (X : Cx) (tgs : List Expr) : TGs := fun vs σ H Q => ∃ g, PGs X tgs g ∧ g vs σ H Q
theorem pgs_wp {X : Cx} {tgs : List Expr} : PGs X tgs (wpGs X tgs) := ⟨fun pins s σ H vs us Q I r ⟨g, h, q⟩ => h.run pins s σ H vs us Q I r q⟩
theorem jgs_nil : JGs C [] [] := fun g env σ F H vs ds Q st r e h => by
  cases r with
  | nil => exact ⟨_, pgs_nil, rfl, h σ (SB.refl _ _) st⟩
  | cons _ _ => simp at e
theorem jgs_cons (i : Nat) {x : Str} {p : Pos} {es : List Expr} {is : List Nat} (h2 : JGs C es is) (hi : C.X.N[i]? = some x := by rfl) (hx : Loc C.X.env.scope x := by first | exact Or.inl rfl | exact Or.inr rfl)
    (hf : C.X.fn x = true ∨ C.X.env.scope.names.lookup x = some .local := by first | exact .inl rfl | exact .inr rfl) (hs : (assignEach (.Name x p :: es) C.X.env).map (·.2) = assign (.Name x p) C.X.env :: (assignEach es C.X.env).map (·.2) := by rfl) :
    JGs C (.Name x p :: es) (i :: is) := fun g env σ F H vs ds Q st r e h => by
  cases r with
  | nil => simp at e
  | @cons v vs d ds rv rr => exact ⟨_, pgs_cons (pg_name g.nd hi hx hf) pgs_wp hs, v, vs, rfl, h2 g _ _ F H vs ds Q (st.setVal rv) rr (by simpa using e) fun σ' sb => h σ' sb.cons⟩
def partTup (n : Nat) : D → Option (List D)
  | .tup ds => if ds.length = n then some ds else none
  | _ => none
theorem jg_tup {es : List Expr} {k : Nat} {p : Pos} {is : List Nat} (h : JGs C es is) (hn : (assignEach es C.X.env).length = is.length := by rfl) (hst : (assignEach es C.X.env).findIdx? (·.1) = none := by rfl) (hc : C.hot = false := by rfl) :
    JG C (.Tuple es k p) is (partTup is.length) := fun g env σ F H v d ds Q st r e hs => by
  cases r with
  | @tup a xs ds' hq rr =>
    have e : (if ds'.length = is.length then some ds' else none) = some ds := e
    by_cases c : ds'.length = is.length
    · rw [if_pos c] at e
      cases e
      exact ⟨_, pg_tup (g.calm hc) pgs_wp hn hst, a, xs, rfl, by rw [g.K]; exact .inl (.inl (st.sub _ _ hq)), by rw [rr.length]; exact c, h g env σ F H xs _ Q st rr c hs⟩
    · rw [if_neg c] at e
      cases e
  | _ => cases e

/-- for target in iter: body. γ: what a turn hands on; φL: the slots ahead of a turn -/
theorem jb_forG {tg it : Expr} {body : List Stmt} {γ : Type} {mi : τ → R (List D × τ)} (φL : γ → τ → Slots) (a0 : τ → γ) {is : List Nat} {parts : D → Option (List D)} {f : D → γ → τ → R (Fl γ γ × τ)} {k : γ → τ → R (Fl α β × τ)}
    (hi : JI C φ tg it mi) (hg : JG C tg is parts) (h0 : ∀ s, SlotsLe (φL (a0 s) s) (φ s)) (hl0 : ∀ s, (φL (a0 s) s).length ≤ (φ s).length)
    (hb : ∀ d ds, parts d = some ds → ∀ a, JB C.tight (fun s => setMany (φL a s) is ds) body φL φL ρ (f d a)) (hbad : ∀ d, parts d = none → ∀ a s, f d a s = .bad)
    (hk : ∀ a, JB C (φL a) rest ψ χ ρ (k a)) (hfs : ∀ x, foldedSetIterable it C.X.env x = pure x := by intro _; rfl) (hc : C.hot = false := by rfl) :
    JB C φ (.For tg it body [] pos :: rest) ψ χ ρ (fun s => (mi s).bind fun p => flb (forL f p.1 (a0 p.2) p.2) k) := fun g s σ F H Dn st h => by
  refine ⟨_, pss_cons (ps_for g.own (g.calm hc) pi_wp pg_wp ps_wp hfs) ps_wp, ?_⟩
  refine hi g s σ F H _ st (h.bind.mono fun ds s1 h1 J F1 H1 e1 st1 gv => ?_)
  obtain ⟨G, Y, w, hG, hY⟩ := gv
  have hK : Srv C (forL f ds (a0 s1) s1) (FlK C k (FlPost C F ψ χ ρ Dn)) := Srv.flb h1
  refine for_it w (D := { Dn with nx := wpS C.X rest Dn }) (fun i σ' H' => ∃ a s2 F2, Same F1 F2 ∧ St8 C (φL a s2) σ' F2 H' ∧ Srv C (forL f (ds.drop i) a s2) (FlK C k (FlPost C F ψ χ ρ Dn))) ?_ ?_ ?_ ?_
  · exact ⟨a0 s1, s1, F1, Same.refl F1, st1.le (h0 s1) (hl0 s1), hK⟩
  · rintro i σ' H' _ ⟨a, s2, F2, e2, st2, _⟩
    exact hG H' (e2.trans st2.sub)
  · rintro i x σ' H' H2 hi' ⟨a, s2, F2, e2, st2, h2⟩ y
    obtain ⟨F3, d, gr, sub, hd, rd⟩ := hY i F2 H' x H2 hi' e2 st2.sub y
    have st3 := st2.grow gr sub
    have ed : ds.drop i = d :: ds.drop (i + 1) := by
      obtain ⟨hlt, hv⟩ := List.getElem?_eq_some_iff.mp hd
      rw [List.drop_eq_getElem_cons hlt, hv]
    rw [ed] at h2
    have h3 := (show Srv C (forL f (d :: ds.drop (i + 1)) a s2) (FlK C k (FlPost C F ψ χ ρ Dn)) from h2).bind
    cases q : parts d with
    | none =>
      rw [hbad d q] at h3
      exact h3.elim
    | some ps =>
      refine hg g (φL a s2) σ' F3 H2 x d ps _ st3 rd q fun σ3 _ st4 => hb d ps q a g.tight s2 σ3 F3 H2 _ st4.to_tight (Srv.to_tight h3 |>.mono fun fl s3 h4 => ?_)
      cases fl with
      | nx a' => exact fun σ4 F4 H4 e4 st5 => ⟨a', s3, F4, (e2.trans gr.fz).trans (show Same F3 F4 from e4), st5.of_tight, h4⟩
      | bk a' => exact fun σ4 F4 H4 e4 st5 => hk a' g s3 σ4 F4 H4 Dn st5.of_tight (Srv.mono (show Srv C (k a' s3) (FlPost C F ψ χ ρ Dn) from h4) fun _ _ z => FlPost.mono (((e1.trans e2).trans gr.fz).trans (show Same F3 F4 from e4)) z)
      | rt r => exact fun v σ4 F4 H4 e4 rv st5 => (show FlPost C F ψ χ ρ Dn (.rt r) s3 from h4) v σ4 F4 H4 (st.fx.trans (((e1.trans e2).trans gr.fz).trans (show Same F3 F4 from e4))) rv st5.of_tight
  · rintro σ' H' ⟨a, s2, F2, e2, st2, h2⟩
    rw [List.drop_length] at h2
    exact hk a g s2 σ' F2 H' Dn st2 (Srv.mono (show Srv C (k a s2) (FlPost C F ψ χ ρ Dn) from h2) fun _ _ z => FlPost.mono (e1.trans e2) z)
/-- for x in iter -/
theorem jb_for (i : Nat) {x : Str} {p : Pos} {it : Expr} {body : List Stmt} {γ : Type} {mi : τ → R (List D × τ)} (φL : γ → τ → Slots) (a0 : τ → γ) {f : D → γ → τ → R (Fl γ γ × τ)} {k : γ → τ → R (Fl α β × τ)}
    (hi : JI C φ (.Name x p) it mi) (h0 : ∀ s, SlotsLe (φL (a0 s) s) (φ s)) (hl0 : ∀ s, (φL (a0 s) s).length ≤ (φ s).length)
    (hb : ∀ d a, JB C.tight (fun s => (φL a s).set i (some (.val d))) body φL φL ρ (f d a)) (hk : ∀ a, JB C (φL a) rest ψ χ ρ (k a))
    (hin : C.X.N[i]? = some x := by rfl) (hx : Loc C.X.env.scope x := by first | exact Or.inl rfl | exact Or.inr rfl) (hf : C.X.fn x = true ∨ C.X.env.scope.names.lookup x = some .local := by first | exact .inl rfl | exact .inr rfl)
    (hfs : ∀ x, foldedSetIterable it C.X.env x = pure x := by intro _; rfl) (hc : C.hot = false := by rfl) :
    JB C φ (.For (.Name x p) it body [] pos :: rest) ψ χ ρ (fun s => (mi s).bind fun q => flb (forL f q.1 (a0 q.2) q.2) k) :=
  jb_forG φL a0 hi (jg_name i hin hx hf) h0 hl0 (fun d ds e a => by cases e; exact hb d a) (fun d e => by cases e) hk hfs hc
def pair2 {ω : Type} (f : D → D → ω) (z : ω) : D → ω
  | .tup [a, b] => f a b
  | _ => z
theorem parts2 {d : D} {ds : List D} (e : partTup 2 d = some ds) : ∃ a b, d = .tup [a, b] ∧ ds = [a, b] := by
  cases d with
  | tup xs =>
    have e : (if xs.length = 2 then some xs else none) = some ds := e
    by_cases c : xs.length = 2
    · rw [if_pos c] at e
      cases e
      match ds, c with
      | [a, b], _ => exact ⟨a, b, rfl, rfl⟩
    · rw [if_neg c] at e
      cases e
  | _ => cases e
theorem parts2_none {ω : Type} {d : D} (e : partTup 2 d = none) (f : D → D → ω) (z : ω) : pair2 f z d = z := by
  cases d with
  | tup xs =>
    have e : (if xs.length = 2 then some xs else none) = none := e
    by_cases c : xs.length = 2
    · rw [if_pos c] at e
      cases e
    · match xs, c with
      | [], _ => rfl
      | [a], _ => rfl
      | [a, b], c => exact absurd rfl c
      | a :: b :: c :: r, _ => rfl
  | _ => rfl
/-- for x, y in iter -/
theorem jb_for2 (i j : Nat) {x y : Str} {p p1 p2 : Pos} {kk : Nat} {it : Expr} {body : List Stmt} {γ : Type} {mi : τ → R (List D × τ)} (φL : γ → τ → Slots) (a0 : τ → γ) {f : D → D → γ → τ → R (Fl γ γ × τ)} {k : γ → τ → R (Fl α β × τ)}
    (hi : JI C φ (.Tuple [.Name x p1, .Name y p2] kk p) it mi) (h0 : ∀ s, SlotsLe (φL (a0 s) s) (φ s)) (hl0 : ∀ s, (φL (a0 s) s).length ≤ (φ s).length)
    (hb : ∀ d e a, JB C.tight (fun s => ((φL a s).set i (some (.val d))).set j (some (.val e))) body φL φL ρ (f d e a)) (hk : ∀ a, JB C (φL a) rest ψ χ ρ (k a))
    (hg : JG C (.Tuple [.Name x p1, .Name y p2] kk p) [i, j] (partTup 2) := by exact jg_tup (jgs_cons _ (jgs_cons _ jgs_nil)))
    (hfs : ∀ x, foldedSetIterable it C.X.env x = pure x := by intro _; rfl) (hc : C.hot = false := by rfl) :
    JB C φ (.For (.Tuple [.Name x p1, .Name y p2] kk p) it body [] pos :: rest) ψ χ ρ (fun s => (mi s).bind fun q => flb (forL (fun d a s => pair2 (fun d e => f d e a s) .bad d) q.1 (a0 q.2) q.2) k) :=
  jb_forG φL a0 hi hg h0 hl0 (fun d ds e a => by
    obtain ⟨u, v, rfl, rfl⟩ := parts2 e
    exact hb u v a) (fun d e a s => parts2_none e _ _) hk hfs hc

/-! ### while -/
def whileL {γ δ : Type} (t : γ → τ → R (Bool × τ)) (f : γ → τ → R (Fl γ γ × τ)) : Nat → γ → τ → R (Fl γ δ × τ)
  | 0, _, _ => .bad
  | n + 1, a, s => (t a s).bind fun p => if p.1 = true then (f a p.2).bind fun q => match q.1 with
      | .nx a' => whileL t f n a' q.2
      | .bk a' => .ok (.nx a', q.2)
      | .rt r => .ok (.rt r, q.2)
    else .ok (.nx a, p.2)
theorem jb_while (n : Nat) {c : Expr} {body : List Stmt} {γ : Type} (φL : γ → τ → Slots) (a0 : τ → γ) {mt : γ → τ → R (Bool × τ)} {f : γ → τ → R (Fl γ γ × τ)} {k : γ → τ → R (Fl α β × τ)}
    (h0 : ∀ s, SlotsLe (φL (a0 s) s) (φ s)) (hl0 : ∀ s, (φL (a0 s) s).length ≤ (φ s).length) (ht : ∀ a, JT C (φL a) c (mt a)) (hb : ∀ a, JB C.tight (φL a) body φL φL ρ (f a)) (hk : ∀ a, JB C (φL a) rest ψ χ ρ (k a)) :
    JB C φ (.While c body [] pos :: rest) ψ χ ρ (fun s => flb (whileL mt f n (a0 s) s) k) := fun g s σ F H Dn st h => by
  refine ⟨_, pss_cons (ps_while g.own pt_wp ps_wp) ps_wp, ?_⟩
  have hK : Srv C (whileL mt f n (a0 s) s) (FlK C k (FlPost C F ψ χ ρ Dn)) := Srv.flb h
  refine ⟨fun m σ' H' => ∃ a s2 F2, Same F F2 ∧ St8 C (φL a s2) σ' F2 H' ∧ Srv C (whileL mt f m a s2) (FlK C k (FlPost C F ψ χ ρ Dn)), ⟨n, a0 s, s, F, Same.refl F, st.le (h0 s) (hl0 s), hK⟩, ?_⟩
  rintro m σ' H' ⟨a, s2, F2, e2, st2, h2⟩
  cases m with
  | zero => exact h2.elim
  | succ m =>
    have h3 := (show Srv C ((mt a s2).bind fun p => if p.1 = true then (f a p.2).bind fun q => match q.1 with
      | .nx a' => whileL mt f m a' q.2
      | .bk a' => .ok (.nx a', q.2)
      | .rt r => .ok (.rt r, q.2)
    else .ok (.nx a, p.2)) (FlK C k (FlPost C F ψ χ ρ Dn)) from h2).bind
    refine ht a g s2 σ' F2 H' _ st2 (h3.mono fun b s3 h4 F3 H3 e3 st3 => ?_)
    cases b with
    | true =>
      refine iteT ⟨fun σ' H' => ∃ a s2 F2, Same F F2 ∧ St8 C (φL a s2) σ' F2 H' ∧ Srv C (whileL mt f m a s2) (FlK C k (FlPost C F ψ χ ρ Dn)), fun σ4 H4 z => ⟨m, Nat.lt_succ_self m, z⟩, ?_⟩
      have h5 : Srv C ((f a s3).bind fun q => match q.1 with
        | .nx a' => whileL mt f m a' q.2
        | .bk a' => .ok (.nx a', q.2)
        | .rt r => .ok (.rt r, q.2)) (FlK C k (FlPost C F ψ χ ρ Dn)) := by simpa using h4
      refine hb a g.tight s3 σ' F3 H3 _ st3.to_tight (Srv.to_tight h5.bind |>.mono fun fl s4 h6 => ?_)
      cases fl with
      | nx a' => exact fun σ4 F4 H4 e4 st5 => ⟨a', s4, F4, (e2.trans e3).trans (show Same F3 F4 from e4), st5.of_tight, h6⟩
      | bk a' => exact fun σ4 F4 H4 e4 st5 => hk a' g s4 σ4 F4 H4 Dn st5.of_tight (Srv.mono (show Srv C (k a' s4) (FlPost C F ψ χ ρ Dn) from h6) fun _ _ z => FlPost.mono ((e2.trans e3).trans (show Same F3 F4 from e4)) z)
      | rt r => exact fun v σ4 F4 H4 e4 rv st5 => (show FlPost C F ψ χ ρ Dn (.rt r) s4 from h6) v σ4 F4 H4 (st.fx.trans ((e2.trans e3).trans (show Same F3 F4 from e4))) rv st5.of_tight
    | false =>
      have h5 : Srv C (k a s3) (FlPost C F ψ χ ρ Dn) := by
        have z : Srv C (.ok (.nx a, s3)) (FlK C k (FlPost C F ψ χ ρ Dn)) := by simpa using h4
        exact z
      exact iteF (hk a g s3 σ' F3 H3 Dn st3 (Srv.mono h5 fun _ _ z => FlPost.mono (e2.trans e3) z))
end
end Pv
set_option Elab.async false
set_option linter.all false
set_option maxRecDepth 100000
/-! PvT: try with several clauses, each with a name or without; raise. -/
namespace Pv
open PySem PySem.Spec PyProof.Rows L2
/-- a clause: the class, the slot of its name, its suite's reading -/
structure Cl where
  c : Value
  io : Option Nat
  ts : Addr → Value → Option Addr → TS
def suiteEnds (io : Option Nat) (Dn : Ends) : Ends := match io with
  | none => Dn
  | some i => { nx := fun σ H => Dn.nx (σ.set i none) H, rt := Dn.rt, bk := fun σ H => Dn.bk (σ.set i none) H, ct := fun σ H => Dn.ct (σ.set i none) H }
def suiteSlots (io : Option Nat) (a : Addr) (σ : L2.St) : L2.St := match io with
  | none => σ
  | some i => σ.set i (some (.ref a))
def wCls (K : PySem.W.Frag) (Wo : WX) (Dn : Ends) : List Cl → WX
  | [] => Wo
  | k :: r => fun cls d σ H => ∃ b, PySem.W.exmOne K cls k.c = some b ∧ (b = true → ∀ a, H a = none → k.ts a cls d (suiteEnds k.io Dn) (suiteSlots k.io a σ) H) ∧ (b = false → wCls K Wo Dn r cls d σ H)
inductive ClsOk (X : Cx) : List ExceptHandler → List Cl → Prop
  | nil : ClsOk X [] []
  | bare {x : Str} {c : Value} {ts : Addr → Value → Option Addr → TS} {b : Stmt} {suite : List Stmt} {np p : Pos} {hds : List ExceptHandler} {l : List Cl} (hc : Names X x c)
      (hsu : ∀ (a : Addr) (oe : Obj) (cls : Value) (d : Option Addr) (pn : List (Addr × Obj)), Zc cls d oe → (∃ vs, oe.data = .fields vs) → PSs (X.suite a ((a, oe) :: pn)) (b :: suite) (ts a cls d)) (r : ClsOk X hds l) :
      ClsOk X (.ExceptHandler (some (.Name x np)) none (b :: suite) p :: hds) (⟨c, none, ts⟩ :: l)
  | named {x n : Str} {i : Nat} {c : Value} {ts : Addr → Value → Option Addr → TS} {b : Stmt} {suite : List Stmt} {np p : Pos} {hds : List ExceptHandler} {l : List Cl} (hc : Names X x c) (hi : X.N[i]? = some n) (hln : X.env.kindOf n = some .local)
      (hsu : ∀ (a : Addr) (oe : Obj) (cls : Value) (d : Option Addr) (pn : List (Addr × Obj)), Zc cls d oe → (∃ vs, oe.data = .fields vs) → PSs (X.suite a ((a, oe) :: pn)) (b :: suite) (ts a cls d)) (r : ClsOk X hds l) :
      ClsOk X (.ExceptHandler (some (.Name x np)) (some n) (b :: suite) p :: hds) (⟨c, some i, ts⟩ :: l)
section
variable {X : Cx} {body : List Stmt} {hd0 : ExceptHandler} {hds : List ExceptHandler} {l : List Cl} {pos : Pos} {tb : WX → TS} {Wo : WX}
theorem ps_try (hs : X.stack = X.env :: X.outer) (hf : X.env.frame = some X.env.locals) (hN : X.N.Nodup) (tk : Takes X Wo)
    (hb : ∀ (W : WX) (pn : List (Addr × Obj)) (xe : Value → Shared → Prop), Takes (X.tr pn xe) W → PassesOwn (model X.prog X.w) X.A X.env xe → PSs (X.tr pn xe) body (tb W))
    (hh : ClsOk X (hd0 :: hds) l) : PS X (.Try body (hd0 :: hds) [] [] pos) (fun Dn σ H => tb (wCls X.K Wo Dn l) Dn σ H) := by
  refine ⟨fun pins s σ H Dn I h => ?_⟩
  have ok := I.ok
  have hfr : X.A.frames = some (X.env :: X.outer) := by rw [ok.frames, hs]
  refine wpAny_Try_except ?_
  refine wpAny_mono ((hb (wCls X.K Wo Dn l) (X.pn ++ pins) (fun e s₁ => wpAny (model X.prog X.w) X.A (noteFrame e X.env) (fun _ s₂ => wpAny (model X.prog X.w) X.A (setFlight e none) (fun _ s₃ =>
    wpAny (model X.prog X.w) X.A (handleBy e X.env (hd0 :: hds)) (SP X pins Dn) X.xe s₃) X.xe s₂) X.xe s₁) (fun u s' xx => ?_) PassesOwn.looking).run [] s σ H Dn (I.toTry _) h) (fun f s1 hsp => ?_) (fun e s1 he => he)
  · obtain ⟨a, B, sI, pins', σ', H', cls, d, rfl, J', nb, up, sky, na, os, ag, wsh⟩ := xx
    have J : Inv X pins σ' H' sI := J'.ofTry ok
    have sky' : Sky B (X.env :: X.outer) a (Zc cls d) X.env.locals s'.heap := by rw [← hs]; exact sky
    show wpAny (model X.prog X.w) X.A (noteFrame (.ref a) X.env) _ _ _
    refine Sky.land Zc.steady hfr hf sky' fun h3 fl3 up3 => ?_
    have J3 : Inv X pins σ' H' { s' with heap := h3 } := J.landed nb fl3.1 (up.trans up3) os ag
    obtain ⟨oe3, vs3, he3, hz3, hd3⟩ := fl3.there
    have nfr : a ∉ frs (X.env :: X.outer) := fun hm => by
      obtain ⟨_, o', e', hnf⟩ := fl3.2.2.1.mem hm
      rw [he3] at e'
      cases e'
      exact hnf _ hd3
    have nL : a ≠ X.env.locals := fun z => nfr (List.mem_filterMap.mpr ⟨X.env, List.mem_cons_self, by rw [hf, z]⟩)
    have nF : a ∉ X.fs := fun hm => by
      obtain ⟨e, he, q⟩ := List.mem_filterMap.mp hm
      exact nfr (List.mem_filterMap.mpr ⟨e, List.mem_cons_of_mem _ he, q⟩)
    have S3 := J3.suite he3 hd3 na nL nF
    have LT : PySem.W.Looks (model X.prog X.w) h3 (typeOf (.ref a)) cls := fun A Q E s k q => wpAny_typeOf_ref (k _ _ he3) (by rw [hz3.1]; exact q)
    have test : ∀ {x : Str} {c : Value} {np : Pos} {Q : Value → Shared → Prop} {E : Value → Shared → Prop}, Names X x c → Q c { s' with heap := h3 } → wpAny (model X.prog X.w) (X.A.mark (some (.ref a))) (eval (.Name x np) X.env) Q E { s' with heap := h3 } := fun {x c np Q E} hc q => by
      obtain ⟨hg, hdbg, hm | ⟨hm, hv, hnn⟩⟩ := hc
      · exact ld_glob (X := X.suite a ((a, oe3) :: (X.pn ++ pins))) S3 hg hm q hdbg
      · exact ld_blt (X := X.suite a ((a, oe3) :: (X.pn ++ pins))) S3 hg hm hv q hnn hdbg
    have go : ∀ {hs' : List ExceptHandler} {l' : List Cl}, ClsOk X hs' l' → wCls X.K Wo Dn l' cls d σ' H' → wpAny (model X.prog X.w) X.A (handleBy (.ref a) X.env hs') (SP X pins Dn) X.xe { s' with heap := h3 } := by
      intro hs' l' hk
      induction hk with
      | nil =>
        intro wsh
        refine wpAny_handleBy_nil ?_
        obtain ⟨k1, k2, k3, oe, vs, T, oT, ts', he, hz, hd, h1, hr⟩ := id fl3
        unfold PySem.passOn
        refine wpAny_bind (wpAny_field he hd h1 ?_)
        rw [if_neg (show ¬ ((Value.ref T == Value.none) = true) from by simp)]
        have fin : wpAny (model X.prog X.w) X.A (setFlight (.ref a) X.env.frame) (fun _ s4 => wpAny (model X.prog X.w) X.A (throw (.ref a) : Sem Flow) (SP X pins Dn) X.xe s4) X.xe { s' with heap := h3 } := by
          rw [hf]
          refine HandSPX.setFlight_upZ fl3 fun h4 hh4 up4 => wpAny_throw (tk _ _ ?_)
          exact ⟨a, B, sI, pins, σ', H', cls, d, rfl, J, nb, (up.trans up3).trans up4, .inr (.inr (by rw [hs]; exact hh4)), na, os, ag, wsh⟩
        first
          | exact wpAny_bind (wpAny_pure (wpAny_bind fin))
          | exact wpAny_bind fin
      | @bare x c ts b suite np p hds2 l2 hc hsu r ih =>
        intro wsh
        obtain ⟨b, hb1, hyes, hno⟩ := wsh
        refine wpAny_handleBy_cons (codeAny_handlers_test ?_) (by intro q; cases q)
        refine test hc ((PySem.W.exm_one (M := model X.prog X.w) (J3.kIn) LT hb1).here ?_)
        cases b with
        | true =>
          refine codeAny_handlers_suite ?_
          refine HandSPX.lands_againZ fl3 fun h4 fl4 up4 => ?_
          have J4 : Inv X pins σ' H' { s' with heap := h4 } := J.landed nb fl4.1 ((up.trans up3).trans up4) os ag
          obtain ⟨oe4, vs4, he4, hz4, hd4⟩ := fl4.there
          have S4 := J4.suite he4 hd4 na nL nF
          refine wpAny_mono ((hsu a oe4 cls d (X.pn ++ pins) hz4 ⟨_, hd4⟩).run [] _ _ H' _ S4 (hyes rfl a na)) (fun f s6 hsp => ?_) (fun _ _ z => False.elim z)
          cases f with
          | next =>
            obtain ⟨σ6, H6, S6, q6⟩ := hsp
            exact ⟨_, _, S6.unsuite ok, q6⟩
          | brk =>
            obtain ⟨σ6, H6, S6, q6⟩ := hsp
            exact ⟨_, _, S6.unsuite ok, q6⟩
          | cont =>
            obtain ⟨σ6, H6, S6, q6⟩ := hsp
            exact ⟨_, _, S6.unsuite ok, q6⟩
          | ret u =>
            obtain ⟨v6, σ6, H6, S6, r6, q6⟩ := hsp
            exact ⟨_, _, _, S6.unsuite ok, r6, q6⟩
        | false =>
          show wpAny _ X.A (handleBy (.ref a) X.env hds2) _ _ _
          exact ih (hno rfl)
      | @named x n i c ts b suite np p hds2 l2 hc hi hln hsu r ih =>
        intro wsh
        obtain ⟨b, hb1, hyes, hno⟩ := wsh
        refine wpAny_handleBy_cons (codeAny_handlers_test ?_) (by intro q; cases q)
        refine test hc ((PySem.W.exm_one (M := model X.prog X.w) (J3.kIn) LT hb1).here ?_)
        cases b with
        | true =>
          refine codeAny_handlers_suite_as ?_
          refine HandSPX.lands_againZ fl3 fun h4 fl4 up4 => ?_
          have J4 : Inv X pins σ' H' { s' with heap := h4 } := J.landed nb fl4.1 ((up.trans up3).trans up4) os ag
          obtain ⟨oe4, vs4, he4, hz4, hd4⟩ := fl4.there
          have S4 := J4.suite he4 hd4 na nL nF
          have hloc : Loc X.env.scope n := .inl hln
          refine store_ok (X := X.suite a ((a, oe4) :: (X.pn ++ pins))) (v := .ref a) S4 hN hi hloc rfl (fun s5 S5 => ?_) (.inr hln)
          refine wpAny_mono ((hsu a oe4 cls d (X.pn ++ pins) hz4 ⟨_, hd4⟩).run [] s5 _ H' _ S5 (hyes rfl a na)) (fun f s6 hsp => ?_) (fun _ _ z => False.elim z)
          have gone : ∀ {σ6 : L2.St} {H6 : Hp} {Q : Shared → Prop}, Inv (X.suite a ((a, oe4) :: (X.pn ++ pins))) [] σ6 H6 s6 → (∀ s7, Inv X pins (σ6.set i none) H6 s7 → Q s7) →
              wpAny (model X.prog X.w) X.A (do bindName X.env n .none; unbindBehindTheSuite X.env n p) (fun _ s7 => Q s7) X.xe s6 := fun {σ6 H6 Q} S6 hq => gone_ok (S6.unsuite ok) hN hi hln hq
          cases f with
          | next =>
            obtain ⟨σ6, H6, S6, q6⟩ := hsp
            exact gone S6 fun s7 J7 => ⟨_, _, J7, q6⟩
          | brk =>
            obtain ⟨σ6, H6, S6, q6⟩ := hsp
            exact gone S6 fun s7 J7 => ⟨_, _, J7, q6⟩
          | cont =>
            obtain ⟨σ6, H6, S6, q6⟩ := hsp
            exact gone S6 fun s7 J7 => ⟨_, _, J7, q6⟩
          | ret u =>
            obtain ⟨v6, σ6, H6, S6, r6, q6⟩ := hsp
            exact gone S6 fun s7 J7 => ⟨_, _, _, J7, r6, q6⟩
        | false =>
          show wpAny _ X.A (handleBy (.ref a) X.env hds2) _ _ _
          exact ih (hno rfl)
    exact go hh wsh
  · cases f with
    | next =>
      obtain ⟨σ', H', J', q⟩ := hsp
      exact wpAny_execs_nil ⟨σ', H', J'.ofTry ok, q⟩
    | brk =>
      obtain ⟨σ', H', J', q⟩ := hsp
      exact ⟨σ', H', J'.ofTry ok, q⟩
    | cont =>
      obtain ⟨σ', H', J', q⟩ := hsp
      exact ⟨σ', H', J'.ofTry ok, q⟩
    | ret u =>
      obtain ⟨v, σ', H', J', r, q⟩ := hsp
      exact ⟨v, σ', H', J'.ofTry ok, r, q⟩
end
end Pv
set_option Elab.async false
set_option linter.all false
set_option maxRecDepth 100000
/-! Pv3: what a def promises, calls of defs, with and without a deal. -/
namespace Pv
open PySem PySem.Spec PyProof.Rows L2

abbrev Deal := List Int × Int
structure DealAt (F H : Hp) (l1 l2 : Addr) (dl : Deal) : Prop where
  h1 : H l1 = some (.lst [.ref l2, .int dl.2])
  h2 : H l2 = some (.lst (dl.1.map V.int))
  f1 : F l1 = none
  f2 : F l2 = none
  ne : l1 ≠ l2
def DPost (T : Txt) (F H : Hp) (Q : VK) (E : XK) : R D → Prop
  | .ok d => ∀ v F' H', Grow F H F' H' → Same F' H' → RtV T H F' H' v d → Q v H'
  | .err c d => ∀ cls dd F' H', Grow F H F' H' → Same F' H' → ErrOk T c d cls dd F' H' → E cls dd H'
  | .bad => False
/-- a def that does what m tells, and changes nothing that stood -/
def SpD (T : Txt) (n : Nat) (m : List D → R D) : Sp := fun vs H Q E => ∃ F ds, Same F H ∧ Rps T F vs ds ∧ ds.length = n ∧ DPost T F H Q E (m ds)
abbrev onDeal (l1 l2 : Addr) : Addr → Prop := fun a => a = l1 ∨ a = l2
def DPostL (T : Txt) (l1 l2 : Addr) (F H : Hp) (Q : VK) (E : XK) : R (D × Deal) → Prop
  | .ok (d, dl) => ∀ v F' H', Step (onDeal l1 l2) F H F' H' → Same F' H' → RtV T H F' H' v d → DealAt F' H' l1 l2 dl → Q v H'
  | .err c d => ∀ cls dd F' H', Step (onDeal l1 l2) F H F' H' → Same F' H' → ErrOk T c d cls dd F' H' → E cls dd H'
  | .bad => False
/-- a def whose first argument is a deal, which it may change -/
def SpL (T : Txt) (n : Nat) (m : List D → Deal → R (D × Deal)) : Sp := fun vs H Q E => ∃ F l1 l2 dl vs' ds, vs = .ref l1 :: vs' ∧ Same F H ∧ DealAt F H l1 l2 dl ∧ Rps T F vs' ds ∧ ds.length = n ∧ DPostL T l1 l2 F H Q E (m ds dl)

def ar1 {ω : Type} (z : ω) (f : D → ω) : List D → ω
  | [a] => f a
  | _ => z
def ar2 {ω : Type} (z : ω) (f : D → D → ω) : List D → ω
  | [a, b] => f a b
  | _ => z
def ar3 {ω : Type} (z : ω) (f : D → D → D → ω) : List D → ω
  | [a, b, c] => f a b c
  | _ => z
def ar4 {ω : Type} (z : ω) (f : D → D → D → D → ω) : List D → ω
  | [a, b, c, d] => f a b c d
  | _ => z
def ar5 {ω : Type} (z : ω) (f : D → D → D → D → D → ω) : List D → ω
  | [a, b, c, d, e] => f a b c d e
  | _ => z

/-- how a block's end is a def's answer -/
def finish {τ α β : Type} (r : R (Fl α β × τ)) : R (D × τ) := r.bind fun p => match p.1 with
  | .nx _ => .ok (.non, p.2)
  | .rt d => .ok (d, p.2)
  | .bk _ => .bad
def finish1 {α β : Type} (r : R (Fl α β × Unit)) : R D := r.bind fun p => match p.1 with
  | .nx _ => .ok .non
  | .rt d => .ok d
  | .bk _ => .bad
@[simp] theorem finish1_rt {α β : Type} (d : D) (s : Unit) : finish1 (α := α) (β := β) (.ok (.rt d, s)) = .ok d := rfl
@[simp] theorem finish1_nx {α β : Type} (a : α) (s : Unit) : finish1 (α := α) (β := β) (.ok (.nx a, s)) = .ok .non := rfl
@[simp] theorem finish1_err {α β : Type} (c : Str) (d : D) : finish1 (α := α) (β := β) (.err c d) = .err c d := rfl
@[simp] theorem finish_rt {α β τ : Type} (d : D) (s : τ) : finish (α := α) (β := β) (.ok (.rt d, s)) = .ok (d, s) := rfl
@[simp] theorem finish_nx {α β τ : Type} (a : α) (s : τ) : finish (α := α) (β := β) (.ok (.nx a, s)) = .ok (.non, s) := rfl
@[simp] theorem finish_err {α β τ : Type} (c : Str) (d : D) : finish (α := α) (β := β) (τ := τ) (.err c d) = .err c d := rfl

/-! ### the body of a def -/
abbrev bodyCtx (T : Txt) (N : List Str) (qual : Str) (st : Stmt) (f : Addr) (cdv : Value) (A : Around) (outer : List Env) (s : Shared) (H : Hp) (E : XK) (k : Nat) (F : Hp) (M : Addr → Prop) : Ctx :=
  { T := T, X := cxOf (L2.CX T.P T.w) T.P T.w T.K T.mg T.base N qual (defScope st) f cdv A outer s H E, k := k, M := M, F0 := F, H0 := H, W := fun cls d _ H => E cls d H, eh := [], hot := false }
theorem good_body {T : Txt} {N ps : List Str} {qual : Str} {st : Stmt} {f : Addr} {cdv : Value} {A : Around} {outer : List Env} {s : Shared} {H : Hp} {E : XK} {k : Nat} {F : Hp} {M : Addr → Prop} (S : FnScope N ps (defScope st))
    (hr : RoomG k (A.deeper (envOfC qual (defScope st) s.heap.objs.size f cdv))) : Good (bodyCtx T N qual st f cdv A outer s H E k F M) :=
  ⟨rfl, rfl, rfl, rfl, rfl, fun _ => rfl, S.nd, fun _ => hr, passes_of rfl, takes_of rfl rfl rfl rfl⟩
def startD (N : List Str) (ds : List D) : Slots := ds.map (fun d => some (.val d)) ++ List.replicate (N.length - ds.length) none
theorem start_get {N : List Str} {vs : List V} {i : Nat} (h : i < vs.length) : (L2.start N vs)[i]?.join = vs[i]? := by
  unfold L2.start
  rw [List.getElem?_append_left (by simpa using h), List.getElem?_map]
  cases vs[i]? <;> rfl
theorem startD_get {N : List Str} {ds : List D} {i : Nat} : (startD N ds)[i]?.join = ds[i]?.map SV.val := by
  unfold startD
  by_cases h : i < ds.length
  · rw [List.getElem?_append_left (by simpa using h), List.getElem?_map]
    cases ds[i]? <;> rfl
  · rw [List.getElem?_append_right (by simpa using h), List.getElem?_eq_none (l := ds) (by omega), List.getElem?_replicate]
    split <;> rfl
theorem slots_start {T : Txt} {Fr : Addr → Prop} {F H : Hp} {N : List Str} {vs : List V} {ds : List D} (r : Rps T F vs ds) : SlotsOk T Fr F H (startD N ds) (L2.start N vs) := by
  refine ⟨fun _ => [], fun i => ?_, fun i j a ha => by simp at ha⟩
  rw [startD_get]
  cases q : ds[i]? with
  | none => rfl
  | some d =>
    obtain ⟨v, h1, h2⟩ := r.get q
    have hi : i < vs.length := (List.getElem?_eq_some_iff.mp h1).1
    rw [start_get hi, h1]
    exact ⟨rfl, v, rfl, h2⟩
theorem startD_length {N : List Str} {ds : List D} (h : ds.length ≤ N.length) : (startD N ds).length = N.length := by
  unfold startD
  rw [List.length_append, List.length_map, List.length_replicate]
  omega
theorem start_length {N : List Str} {vs : List V} (h : vs.length ≤ N.length) : (L2.start N vs).length = N.length := by
  unfold L2.start
  rw [List.length_append, List.length_map, List.length_replicate]
  omega
theorem scope_le {N ps : List Str} {sc : Scope} (S : FnScope N ps sc) : ps.length ≤ N.length := by
  have := congrArg List.length S.pre
  rw [List.length_take] at this
  omega
theorem fn_ok {T : Txt} {x qual : Str} {st : Stmt} {f : Addr} {fd : FuncData} {N ps : List Str} {k : Nat} {m : List D → R (Fl Unit Unit × Unit)} (Fn : Fun T.K x qual st f fd) (S : FnScope N ps (defScope st))
    (hbody : ∀ (cdv : Value) (A : Around) (outer : List Env) (s : Shared) (H : Hp) (E : XK) (F : Hp) (ds : List D), ds.length = ps.length → JB (bodyCtx T N qual st f cdv A outer s H E k F fun _ => False) (fun _ : Unit => startD N ds) (defBody st) (fun _ _ => []) (fun _ _ => []) (fun _ => []) (fun _ => m ds)) :
    FnG T.P T.w T.K T.mg T.base (L2.CX T.P T.w) (k + 1) f fd ps (SpD T ps.length fun ds => finish1 (m ds)) := by
  refine fn_okG Fn S (fun vs H Q E ⟨F, ds, _, r, hl, _⟩ => by rw [r.length]; exact hl) (fun cdv A outer s H vs Q E hr ⟨F, ds, sub, r, hl, hp⟩ => ?_)
  have hp : DPost T F H Q E (finish1 (m ds)) := hp
  have hN := scope_le S
  have st0 : St8 (bodyCtx T N qual st f cdv A outer s H E k F fun _ => False) (startD N ds) (L2.start N vs) F H :=
    ⟨Step.refl _ _ _, sub, slots_start r, by rw [startD_length (by omega), start_length (by rw [r.length]; omega)]; exact Nat.le_refl _⟩
  refine ⟨_, ps_wp, hbody cdv A outer s H E F ds hl (good_body S hr) () _ F H _ st0 ?_⟩
  cases q : m ds with
  | ok p =>
    obtain ⟨fl, u⟩ := p
    rw [q] at hp
    cases fl with
    | nx a => exact fun σ F' H' _ st' => hp .non F' H' st'.step st'.sub (.of .non)
    | rt d => exact fun v σ F' H' _ rv st' => hp v F' H' st'.step st'.sub rv
    | bk b => exact hp.elim
  | err c d =>
    rw [q] at hp
    exact fun σ cls dd F' H' eo st' => hp cls dd F' H' st'.step st'.sub eo
  | bad =>
    rw [q] at hp
    exact hp.elim
/-- a def whose first argument is a deal -/
theorem fn_okL {T : Txt} {x qual : Str} {st : Stmt} {f : Addr} {fd : FuncData} {N ps : List Str} {k : Nat} {m : List D → Deal → R (Fl Unit Unit × Deal)} (Fn : Fun T.K x qual st f fd) (S : FnScope N ps (defScope st)) (h0 : 0 < ps.length)
    (hbody : ∀ (cdv : Value) (A : Around) (outer : List Env) (s : Shared) (H : Hp) (E : XK) (F : Hp) (l1 l2 : Addr) (ds : List D), ds.length + 1 = ps.length →
      JB (bodyCtx T N qual st f cdv A outer s H E k F (onDeal l1 l2)) (fun dl : Deal => some (.deal l1 l2 dl.1 dl.2) :: startD N.tail ds) (defBody st) (fun _ dl => [some (.deal l1 l2 dl.1 dl.2)]) (fun _ _ => []) (fun dl => [some (.deal l1 l2 dl.1 dl.2)]) (m ds)) :
    FnG T.P T.w T.K T.mg T.base (L2.CX T.P T.w) (k + 1) f fd ps (SpL T (ps.length - 1) fun ds dl => finish (m ds dl)) := by
  refine fn_okG Fn S (fun vs H Q E ⟨F, l1, l2, dl, vs', ds, e, _, _, r, hl, _⟩ => by subst e; show vs'.length + 1 = ps.length; have := r.length; omega) (fun cdv A outer s H vs Q E hr ⟨F, l1, l2, dl, vs', ds, e, sub, da, r, hl, hp⟩ => ?_)
  subst e
  have hp : DPostL T l1 l2 F H Q E (finish (m ds dl)) := hp
  have hN := scope_le S
  obtain ⟨n0, N', eN⟩ : ∃ n0 N', N = n0 :: N' := by
    cases N with
    | nil => exact absurd (Nat.lt_of_lt_of_le h0 hN) (Nat.lt_irrefl 0)
    | cons a b => exact ⟨a, b, rfl⟩
  subst eN
  have hN' : ds.length ≤ N'.length := by rw [List.length_cons] at hN; omega
  have es : L2.start (n0 :: N') (V.ref l1 :: vs') = some (.ref l1) :: L2.start N' vs' := by
    unfold L2.start
    simp
  have st0 : St8 (bodyCtx T (n0 :: N') qual st f cdv A outer s H E k F (onDeal l1 l2)) (some (.deal l1 l2 dl.1 dl.2) :: startD (n0 :: N').tail ds) (L2.start (n0 :: N') (V.ref l1 :: vs')) F H := by
    refine ⟨Step.refl _ _ _, sub, ?_, ?_⟩
    · rw [es]
      obtain ⟨A, h1, h2⟩ := slots_start (T := T) (Fr := fun a => H a = none ∨ onDeal l1 l2 a) (H := H) (N := N') r
      refine ⟨fun i => if i = 0 then [l1, l2] else [], fun i => ?_, fun i j a ha hb => ?_⟩
      · cases i with
        | zero => exact ⟨rfl, rfl, da.h1, da.h2, da.f1, da.f2, .inr (.inl rfl), .inr (.inr rfl), da.ne⟩
        | succ i =>
          have q := startD_get (N := N') (ds := ds) (i := i)
          show SlotOk T _ F H ((startD N' ds)[i]?.join) ((L2.start N' vs')[i]?.join) []
          rw [q]
          cases z : ds[i]? with
          | none => rfl
          | some d =>
            obtain ⟨v, e1, e2⟩ := r.get z
            rw [start_get (List.getElem?_eq_some_iff.mp e1).1, e1]
            exact ⟨rfl, v, rfl, e2⟩
      · by_cases c : i = 0
        · by_cases c' : j = 0
          · rw [c, c']
          · simp [c'] at hb
        · simp [c] at ha
    · rw [es, List.length_cons, List.length_cons, List.tail_cons, startD_length hN', start_length (by rw [r.length]; exact hN')]
      exact Nat.le_refl _
  refine ⟨_, ps_wp, hbody cdv A outer s H E F l1 l2 ds (by omega) (good_body S hr) dl _ F H _ st0 ?_⟩
  have back : ∀ {σ : L2.St} {F' H' : Hp} {dl' : Deal}, St8 (bodyCtx T (n0 :: N') qual st f cdv A outer s H E k F (onDeal l1 l2)) [some (.deal l1 l2 dl'.1 dl'.2)] σ F' H' → DealAt F' H' l1 l2 dl' := fun {σ F' H' dl'} z => by
    obtain ⟨A, h1, _⟩ := z.env
    obtain ⟨_, _, q1, q2, q3, q4, _, _, q5⟩ := h1 0
    exact ⟨q1, q2, q3, q4, q5⟩
  cases q : m ds dl with
  | ok p =>
    obtain ⟨fl, dl'⟩ := p
    rw [q] at hp
    cases fl with
    | nx a => exact fun σ F' H' _ st' => hp .non F' H' st'.step st'.sub (.of .non) (back st')
    | rt d => exact fun v σ F' H' _ rv st' => hp v F' H' st'.step st'.sub rv (back st')
    | bk b => exact hp.elim
  | err c d =>
    rw [q] at hp
    exact fun σ cls dd F' H' eo st' => hp cls dd F' H' st'.step st'.sub eo
  | bad =>
    rw [q] at hp
    exact hp.elim

/-! ### calls -/
/-- what a caller must know of a def: x its name, n the values and ks the keywords that are written, pick: all arguments from these -/
structure Shape (T : Txt) (x : Str) (n : Nat) (ks : List Str) (j : Nat) (sp : Sp) (pick : List V → List V → List V) : Prop where
  ex : ∃ f fd ps g, FnG T.P T.w T.K T.mg T.base (L2.CX T.P T.w) j f fd ps sp ∧ T.mg x = some (.ref f) ∧ PySem.W.keepIn T.K (.ref f) = true ∧ KBn T.K fd ps n ks g pick
def CalleeD (T : Txt) (x : Str) (n : Nat) (ks : List Str) (j : Nat) (m : List D → List D → R D) : Prop := ∃ k mm pick, Shape T x n ks j (SpD T k mm) pick ∧
  (∀ (F : Hp) (vs zs : List V) (ds es : List D), Rps T F vs ds → Rps T F zs es → ds.length = n → es.length = ks.length → ∃ as, Rps T F (pick vs zs) as ∧ as.length = k ∧ mm as = m ds es) ∧ ∀ ds es, m ds es ≠ .bad → ds.length = n ∧ es.length = ks.length
def CalleeL (T : Txt) (x : Str) (n : Nat) (ks : List Str) (j : Nat) (m : List D → List D → Deal → R (D × Deal)) : Prop := ∃ k mm pick, Shape T x (n + 1) ks j (SpL T k mm) pick ∧
  (∀ (F : Hp) (l1 : Addr) (vs zs : List V) (ds es : List D), Rps T F vs ds → Rps T F zs es → ds.length = n → es.length = ks.length → ∃ ws as, pick (.ref l1 :: vs) zs = .ref l1 :: ws ∧ Rps T F ws as ∧ as.length = k ∧ mm as = m ds es) ∧ ∀ ds es dl, m ds es dl ≠ .bad → ds.length = n ∧ es.length = ks.length
def JKw (C : Ctx) {τ : Type} (φ : τ → Slots) (kws : List Keyword) (m : τ → R (List D × τ)) : Prop := Good C → ∀ (s : τ) (σ : L2.St) (F H : Hp) (Q : List V → Hp → Prop), St8 C (φ s) σ F H →
  Srv C (m s) (fun ds s' => ∀ vs F' H', Same F F' → Rps C.T F' vs ds → St8 C (φ s') σ F' H' → Q vs H') → ∃ t, PK C.X kws t ∧ t σ H Q
def wpK (X : Cx) (kws : List Keyword) : TA := fun σ H Q => ∃ t, PK X kws t ∧ t σ H Q
theorem pk_wp {X : Cx} {kws : List Keyword} : PK X kws (wpK X kws) := ⟨fun pos pins s σ H Q I ⟨t, h, q⟩ => h.run pos pins s σ H Q I q⟩
section
variable {C : Ctx} {τ : Type} {φ : τ → Slots}
theorem jkw_nil : JKw C φ [] (fun s => .ok ([], s)) := fun gd s σ F H Q st hs => ⟨_, pk_nil, hs [] F H (Same.refl F) .nil st⟩
theorem jkw_cons {e : Expr} {nm : Option Str} {kp : Pos} {kws : List Keyword} {m : τ → R (D × τ)} {n : τ → R (List D × τ)} (h : JE C φ e m) (k : JKw C φ kws n) :
    JKw C φ (⟨nm, e, kp⟩ :: kws) (fun s => (m s).bind fun p => (n p.2).bind fun q => .ok (p.1 :: q.1, q.2)) := fun gd s σ F H Q st hs => by
  refine ⟨_, pk_cons pe_wp pk_wp, ?_⟩
  refine h gd s σ F H _ st (hs.bind.mono fun d s1 h1 v F1 H1 e1 r1 st1 => ?_)
  exact k gd s1 σ F1 H1 _ st1 (h1.bind.mono fun ds s2 h2 vs F2 H2 e2 r2 st2 => h2 (v :: vs) F2 H2 (e1.trans e2) (.cons (r1.mono e2) r2) st2)
end
/-- f(es, kws), at the values -/
def tCallG (sp : Sp) (n : Nat) (ks : List Str) (pick : List V → List V → List V) (E : L2.St → XK) (t tk : TA) : TE := fun σ H Q => t σ H fun vs H1 => tk σ H1 fun zs H2 => vs.length = n ∧ zs.length = ks.length ∧ sp (pick vs zs) H2 Q (E σ)
theorem run_call {X : Cx} {CX : CXT} {k n : Nat} {f : Addr} {fd : FuncData} {ps ks : List Str} {sp : Sp} {E : XK} {pick : List V → List V → List V} {g : List Value → List Value → List Value} {pins : List (Addr × Obj)} {σ : L2.St} {H : Hp} {s : Shared} {Q : VK} {us ws : List Value} {vs zs : List V}
    (Fo : FnG X.prog X.w X.K X.mg X.base CX k f fd ps sp) (hr : RoomG k X.A) (hb : KBn X.K fd ps n ks g pick) (hx : PassesAt CX X σ E) (I : Inv X pins σ H s) (r : Vals vs us) (rz : Vals zs ws) (l1 : vs.length = n) (l2 : zs.length = ks.length) (h : sp (pick vs zs) H Q E) :
    wpAny (model X.prog X.w) X.A (call (.ref f) us (ks.zip ws)) (EP X pins σ Q) X.xe s := by
  have l3 : us.length = n := by rw [← r.length]; exact l1
  have l4 : ws.length = ks.length := by rw [← rz.length]; exact l2
  refine wpAny_call (codeAny_mono (Fo.run X.A X.stack s H ⟨us, ks.zip ws⟩ (g us ws) (pick vs zs) Q E hr I.env0 (hb.to s us ws I.kIn l3 l4) (hb.rel r rz) h) fun o s' hq => ?_)
  cases o with
  | error e => exact hx pins H s e s' I hq
  | ok fl =>
    cases fl with
    | ret u => exact I.after hq
    | next => exact False.elim hq
    | brk => exact False.elim hq
    | cont => exact False.elim hq
section
variable {X : Cx} {CX : CXT} {k n : Nat} {f : Addr} {fd : FuncData} {ps ks : List Str} {sp : Sp} {E : L2.St → XK} {pick : List V → List V → List V} {g : List Value → List Value → List Value} {x : Str} {p pos : Pos} {e : Expr} {es : List Expr} {kws : List Keyword} {t tk : TA}
theorem pe_callPos (Fo : FnG X.prog X.w X.K X.mg X.base CX k f fd ps sp) (hr : RoomG k X.A) (hg : Gl X x) (hm : X.mg x = some (.ref f)) (hk : PySem.W.keepIn X.K (.ref f) = true) (hb : KBn X.K fd ps n [] g pick) (hx : ∀ σ, PassesAt CX X σ (E σ)) (ha : PA X (e :: es) t)
    (hdb : (x == ("__debug__" : Str)) = false) (he : starEach (e :: es) X.env = (false, eval e X.env) :: starEach es X.env) (hpl : (backTo pos (starEach es X.env)).any (·.1) = false) :
    PE X (.Call (.Name x p) (e :: es) [] pos) (tCallG sp n [] pick E t tNil) := by
  refine ⟨fun pins s σ H Q I h => ?_⟩
  refine wpAny_Call_Name_kw (ld_glob I hg hm ?_ hdb)
  refine PySem.W.callWith_K (h₀ := X.base) I.ok.mod.kin hk (thn (ha.run pos pins s σ H _ I h) fun us s1 ⟨vs, H1, I1, r, l1, l2, q⟩ => ⟨I1.kIn, ?_⟩) he hpl
  exact run_call (ws := []) Fo hr hb (hx σ) I1 r .nil l1 l2 q
theorem pe_callNone (Fo : FnG X.prog X.w X.K X.mg X.base CX k f fd ps sp) (hr : RoomG k X.A) (hg : Gl X x) (hm : X.mg x = some (.ref f)) (hk : PySem.W.keepIn X.K (.ref f) = true) (hb : KBn X.K fd ps 0 [] g pick) (hx : ∀ σ, PassesAt CX X σ (E σ))
    (hdb : (x == ("__debug__" : Str)) = false) : PE X (.Call (.Name x p) [] [] pos) (tCallG sp 0 [] pick E tNil tNil) := by
  refine ⟨fun pins s σ H Q I h => ?_⟩
  obtain ⟨l1, l2, q⟩ := h
  refine wpAny_Call_Name_kw (ld_glob I hg hm ?_ hdb)
  exact PySem.W.callWith_K0 I.kIn hk (run_call (us := []) (ws := []) Fo hr hb (hx σ) I .nil .nil l1 l2 q)
theorem pe_callKw0 (Fo : FnG X.prog X.w X.K X.mg X.base CX k f fd ps sp) (hr : RoomG k X.A) (hg : Gl X x) (hm : X.mg x = some (.ref f)) (hk : PySem.W.keepIn X.K (.ref f) = true) (hb : KBn X.K fd ps 0 ks g pick) (hx : ∀ σ, PassesAt CX X σ (E σ)) (hkw : PK X kws tk)
    (hall : (backToKw pos (keywordEach kws X.env)).all (·.1.isSome) = true) (hks : (backToKw pos (keywordEach kws X.env)).filterMap (·.1) = ks) (hdb : (x == ("__debug__" : Str)) = false)
    (hpl : ((backTo pos (starEach [] X.env)).any (·.1) || (backToKw pos (keywordEach kws X.env)).any (·.1.isNone)) = false) :
    PE X (.Call (.Name x p) [] kws pos) (tCallG sp 0 ks pick E tNil tk) := by
  refine ⟨fun pins s σ H Q I h => ?_⟩
  refine wpAny_Call_Name_kw (ld_glob I hg hm ?_ hdb)
  refine PySem.W.callWith_KW0 (h₀ := X.base) I.ok.mod.kin hk hall ?_ hpl
  refine thn (hkw.run pos pins s σ H _ I h) fun ws s2 ⟨zs, H2, I2, rz, l1, l2, q2⟩ => ⟨I2.kIn, ?_⟩
  rw [hks]
  exact run_call (us := []) Fo hr hb (hx σ) I2 .nil rz l1 l2 q2
theorem pe_callKw (Fo : FnG X.prog X.w X.K X.mg X.base CX k f fd ps sp) (hr : RoomG k X.A) (hg : Gl X x) (hm : X.mg x = some (.ref f)) (hk : PySem.W.keepIn X.K (.ref f) = true) (hb : KBn X.K fd ps n ks g pick) (hx : ∀ σ, PassesAt CX X σ (E σ)) (ha : PA X (e :: es) t) (hkw : PK X kws tk)
    (hall : (backToKw pos (keywordEach kws X.env)).all (·.1.isSome) = true) (hks : (backToKw pos (keywordEach kws X.env)).filterMap (·.1) = ks)
    (hdb : (x == ("__debug__" : Str)) = false) (he : starEach (e :: es) X.env = (false, eval e X.env) :: starEach es X.env)
    (hpl : ((backTo pos (starEach (e :: es) X.env)).any (·.1) || (backToKw pos (keywordEach kws X.env)).any (·.1.isNone)) = false) :
    PE X (.Call (.Name x p) (e :: es) kws pos) (tCallG sp n ks pick E t tk) := by
  refine ⟨fun pins s σ H Q I h => ?_⟩
  refine wpAny_Call_Name_kw (ld_glob I hg hm ?_ hdb)
  refine PySem.W.callWith_KW (h₀ := X.base) I.ok.mod.kin hk hall (thn (ha.run pos pins s σ H _ I h) fun us s1 ⟨vs, H1, I1, r, q⟩ => ?_) hpl he
  refine thn (hkw.run pos pins s1 σ H1 _ I1 q) fun ws s2 ⟨zs, H2, I2, rz, l1, l2, q2⟩ => ⟨I2.kIn, ?_⟩
  rw [hks]
  exact run_call Fo hr hb (hx σ) I2 r rz l1 l2 q2
end
end Pv
set_option Elab.async false
set_option linter.all false
set_option maxRecDepth 100000
/-! Pv4: calls as expressions; raise. -/
namespace Pv
open PySem PySem.Spec PyProof.Rows L2

def LeAll (C : Ctx) {τ : Type} (φ : τ → Slots) : Prop := ∀ s, SlotsLe C.eh (φ s) ∧ C.eh.length ≤ (φ s).length
theorem le0 {C : Ctx} {τ : Type} {φ : τ → Slots} (h : C.eh = []) : LeAll C φ := fun s => by
  rw [h]
  exact ⟨SlotsLe.nil _, Nat.zero_le _⟩
theorem Step.onDeal {M : Addr → Prop} {F0 H0 F H F' H' : Hp} {l1 l2 : Addr} (a : Step M F0 H0 F H) (b : Step (Pv.onDeal l1 l2) F H F' H') (f1 : H0 l1 = none ∨ M l1) (f2 : H0 l2 = none ∨ M l2) : Step M F0 H0 F' H' where
  fz := a.fz.trans b.fz
  new := fun x o h => by
    rcases b.new x o h with h | h | h
    · exact a.new x o h
    · exact .inr (.inl (a.dom x h))
    · exact .inr (h.elim (fun e => by rw [e]; exact f1) fun e => by rw [e]; exact f2)
  keep := fun x o h m => b.keep x o (a.keep x o h m) fun z => by
    rcases z with rfl | rfl
    · rcases f1 with f | f
      · rw [f] at h; cases h
      · exact m f
    · rcases f2 with f | f
      · rw [f] at h; cases h
      · exact m f
  dom := fun x h => a.dom x (b.dom x h)
theorem SlotsOk.deal {T : Txt} {Fr : Addr → Prop} {F H F' H' : Hp} {e : Slots} {σ : L2.St} {i : Nat} {l1 l2 : Addr} {dl dl' : Deal} (h : SlotsOk T Fr F H e σ) (hi : e[i]?.join = some (.deal l1 l2 dl.1 dl.2)) (b : Step (Pv.onDeal l1 l2) F H F' H') (da : DealAt F' H' l1 l2 dl') :
    SlotsOk T Fr F' H' (e.set i (some (.deal l1 l2 dl'.1 dl'.2))) σ := by
  obtain ⟨A, h1, h2⟩ := h
  have q := h1 i
  rw [hi] at q
  obtain ⟨ea, ev, q1, q2, q3, q4, q5, q6, q7⟩ := q
  have he : i < e.length := by
    by_cases c : i < e.length
    · exact c
    · rw [List.getElem?_eq_none (by simpa using c)] at hi; cases hi
  refine ⟨A, fun j => ?_, h2⟩
  by_cases c : j = i
  · subst c
    rw [join_set_self he, ev, ea]
    exact ⟨rfl, rfl, da.h1, da.h2, da.f1, da.f2, q5, q6, q7⟩
  · rw [join_set_ne (Ne.symm c)]
    refine (h1 j).move b.fz fun a ha => ?_
    obtain ⟨⟨o, e1⟩, e2, _⟩ := (h1 j).own_some a ha
    have n1 : a ≠ l1 := fun z => c (h2 j i a ha (by rw [ea, z]; simp))
    have n2 : a ≠ l2 := fun z => c (h2 j i a ha (by rw [ea, z]; simp))
    refine ⟨by rw [b.keep a o e1 (fun z => z.elim n1 n2), e1], ?_⟩
    cases q : F' a with
    | none => rfl
    | some u =>
      rcases b.new a u q with z | z | z
      · rw [e2] at z; cases z
      · rw [e1] at z; cases z
      · exact (z.elim n1 n2).elim
theorem St8.deal {C : Ctx} {e : Slots} {σ : L2.St} {F H F' H' : Hp} {i : Nat} {l1 l2 : Addr} {dl dl' : Deal} (st : St8 C e σ F H) (hi : e[i]?.join = some (.deal l1 l2 dl.1 dl.2)) (b : Step (Pv.onDeal l1 l2) F H F' H') (sub : Same F' H') (da : DealAt F' H' l1 l2 dl') :
    St8 C (e.set i (some (.deal l1 l2 dl'.1 dl'.2))) σ F' H' := by
  obtain ⟨A, h1, _⟩ := id st.env
  have q := h1 i
  rw [hi] at q
  obtain ⟨_, _, _, _, _, _, q5, q6, _⟩ := q
  exact ⟨st.step.onDeal b q5 q6, sub, st.env.deal hi b da, by rw [List.length_set]; exact st.len⟩

/-- a deal that nobody tells of any more -/
theorem St8.noDeal {C : Ctx} {e : Slots} {σ : L2.St} {F H F' H' : Hp} {i : Nat} {l1 l2 : Addr} {dl : Deal} (st : St8 C e σ F H) (hi : e[i]?.join = some (.deal l1 l2 dl.1 dl.2)) (b : Step (Pv.onDeal l1 l2) F H F' H') (sub : Same F' H') : St8 C (e.set i none) σ F' H' := by
  obtain ⟨A, h1, h2⟩ := id st.env
  have q := h1 i
  rw [hi] at q
  obtain ⟨ea, _, _, _, _, _, q5, q6, _⟩ := q
  refine ⟨st.step.onDeal b q5 q6, sub, ⟨fun j => if j = i then [] else A j, fun j => ?_, fun j k a ha hb => ?_⟩, by rw [List.length_set]; exact st.len⟩
  · by_cases c : j = i
    · subst c
      rw [if_pos rfl]
      by_cases l : j < e.length
      · rw [join_set_self l]; rfl
      · rw [List.getElem?_eq_none (by simpa using l)]; rfl
    · rw [join_set_ne (Ne.symm c), if_neg c]
      refine (h1 j).move b.fz fun a ha => ?_
      obtain ⟨⟨o, e1⟩, e2, _⟩ := (h1 j).own_some a ha
      have n1 : a ≠ l1 := fun z => c (h2 j i a ha (by rw [ea, z]; simp))
      have n2 : a ≠ l2 := fun z => c (h2 j i a ha (by rw [ea, z]; simp))
      refine ⟨by rw [b.keep a o e1 (fun z => z.elim n1 n2), e1], ?_⟩
      cases q : F' a with
      | none => rfl
      | some u =>
        rcases b.new a u q with z | z | z
        · rw [e2] at z; cases z
        · rw [e1] at z; cases z
        · exact (z.elim n1 n2).elim
  · by_cases c : j = i
    · simp [c] at ha
    · by_cases c' : k = i
      · simp [c'] at hb
      · rw [if_neg c] at ha
        rw [if_neg c'] at hb
        exact h2 j k a ha hb

section
variable {C : Ctx} {τ : Type} {φ : τ → Slots} {x : Str} {p pos : Pos}
theorem passW (g : Good C) (σ : L2.St) : PassesAt (L2.CX C.T.P C.T.w) C.X σ (WE C.W σ) := by
  rw [← g.pr, ← g.w]
  exact passAt g.tk σ
theorem fnX {j : Nat} {f : Addr} {fd : FuncData} {ps : List Str} {sp : Sp} (g : Good C) (Fo : FnG C.T.P C.T.w C.T.K C.T.mg C.T.base (L2.CX C.T.P C.T.w) j f fd ps sp) : FnG C.X.prog C.X.w C.X.K C.X.mg C.X.base (L2.CX C.T.P C.T.w) j f fd ps sp := by
  rw [g.pr, g.w, g.K, g.mg, g.base]
  exact Fo
/-- what a call of a def leaves, for any way that its values came -/
theorem call_done {σ : L2.St} {F H : Hp} {Q : VK} {env : Slots} {k : Nat} {mm : List D → R D} {as : List D} {vs : List V} (st : St8 C env σ F H) (r : Rps C.T F vs as) (hl : as.length = k) (le : SlotsLe C.eh env) (ll : C.eh.length ≤ env.length)
    (h : Srv1 C (mm as) (fun d => ∀ v F' H', Same F F' → Rp C.T F' v (unfre d) → St8 C env σ F' H' → Q v H')) : SpD C.T k mm vs H Q (WE C.W σ) := by
  refine ⟨F, as, st.sub, r, hl, ?_⟩
  cases q : mm as with
  | ok d =>
    rw [q] at h
    intro v F' H' gr sub rv
    obtain ⟨F2, g2, _, s2, r2, _⟩ := rv.frz gr sub
    exact h v F2 H' g2.fz r2 (st.grow g2 s2)
  | err c d => rw [q] at h; exact fun cls dd F' H' gr sub eo => h σ cls dd F' H' eo ((st.grow gr sub).le le ll)
  | bad => rw [q] at h; exact h
theorem je_call {n j : Nat} {m : List D → List D → R D} {e : Expr} {es : List Expr} {na : τ → R (List D × τ)} (Ca : CalleeD C.T x n [] j m) (hj : j ≤ C.k) (ha : JA C φ (e :: es) na) (hle : LeAll C φ := by exact le0 rfl)
    (hh : C.hot = false := by rfl) (hg : Gl C.X x := by rfl) (hdb : (x == ("__debug__" : Str)) = false := by decide) (he : starEach (e :: es) C.X.env = (false, eval e C.X.env) :: starEach es C.X.env := by rfl) (hpl : (backTo pos (starEach es C.X.env)).any (·.1) = false := by rfl) :
    JE C φ (.Call (.Name x p) (e :: es) [] pos) (fun s => (na s).bind fun q => (m q.1 []).bind fun d => .ok (unfre d, q.2)) := fun g s σ F H Q st h => by
  obtain ⟨k, mm, pick, ⟨f, fd, ps, gg, Fo, hm, hk, hb⟩, hp, hlen⟩ := Ca
  refine ⟨_, pe_callPos (fnX g Fo) ((g.room hh).mono hj) hg (by rw [g.mg]; exact hm) (by rw [g.K]; exact hk) (by rw [g.K]; exact hb) (fun σ => passW g σ) pa_wp hdb he hpl, ?_⟩
  refine ha g s σ F H _ st (h.bind.mono fun ds s1 h1 vs F1 H1 e1 r1 st1 => ?_)
  have h2 := h1.bind1
  have l1 : m ds [] ≠ .bad := fun z => by rw [z] at h2; exact h2
  obtain ⟨as, ra, la, ea⟩ := hp F1 vs [] ds [] r1 .nil (hlen _ _ l1).1 rfl
  refine ⟨by rw [r1.length]; exact (hlen _ _ l1).1, rfl, call_done st1 ra la (hle s1).1 (hle s1).2 ?_⟩
  rw [ea]
  cases q : m ds [] with
  | ok d => rw [q] at h2; exact fun v F' H' ee rv st' => h2 v F' H' (e1.trans ee) rv st'
  | err c d => rw [q] at h2; exact h2
  | bad => exact absurd q l1
theorem je_call0 {j : Nat} {m : List D → List D → R D} (Ca : CalleeD C.T x 0 [] j m) (hj : j ≤ C.k) (hle : LeAll C φ := by exact le0 rfl)
    (hh : C.hot = false := by rfl) (hg : Gl C.X x := by rfl) (hdb : (x == ("__debug__" : Str)) = false := by decide) : JE C φ (.Call (.Name x p) [] [] pos) (fun s => (m [] []).bind fun d => .ok (unfre d, s)) := fun g s σ F H Q st h => by
  obtain ⟨k, mm, pick, ⟨f, fd, ps, gg, Fo, hm, hk, hb⟩, hp, hlen⟩ := Ca
  refine ⟨_, pe_callNone (fnX g Fo) ((g.room hh).mono hj) hg (by rw [g.mg]; exact hm) (by rw [g.K]; exact hk) (by rw [g.K]; exact hb) (fun σ => passW g σ) hdb, ?_⟩
  have h2 := h.bind1
  obtain ⟨as, ra, la, ea⟩ := hp F [] [] [] [] .nil .nil rfl rfl
  refine ⟨rfl, rfl, call_done st ra la (hle s).1 (hle s).2 ?_⟩
  rw [ea]
  exact h2
theorem je_callKw {n j : Nat} {ks : List Str} {m : List D → List D → R D} {e : Expr} {es : List Expr} {kws : List Keyword} {na nk : τ → R (List D × τ)} (Ca : CalleeD C.T x n ks j m) (hj : j ≤ C.k) (ha : JA C φ (e :: es) na) (hkw : JKw C φ kws nk) (hle : LeAll C φ := by exact le0 rfl)
    (hh : C.hot = false := by rfl) (hg : Gl C.X x := by rfl) (hall : (backToKw pos (keywordEach kws C.X.env)).all (·.1.isSome) = true := by rfl) (hks : (backToKw pos (keywordEach kws C.X.env)).filterMap (·.1) = ks := by rfl)
    (hdb : (x == ("__debug__" : Str)) = false := by decide) (he : starEach (e :: es) C.X.env = (false, eval e C.X.env) :: starEach es C.X.env := by rfl)
    (hpl : ((backTo pos (starEach (e :: es) C.X.env)).any (·.1) || (backToKw pos (keywordEach kws C.X.env)).any (·.1.isNone)) = false := by rfl) :
    JE C φ (.Call (.Name x p) (e :: es) kws pos) (fun s => (na s).bind fun q => (nk q.2).bind fun q2 => (m q.1 q2.1).bind fun d => .ok (unfre d, q2.2)) := fun g s σ F H Q st h => by
  obtain ⟨k, mm, pick, ⟨f, fd, ps, gg, Fo, hm, hk, hb⟩, hp, hlen⟩ := Ca
  refine ⟨_, pe_callKw (fnX g Fo) ((g.room hh).mono hj) hg (by rw [g.mg]; exact hm) (by rw [g.K]; exact hk) (by rw [g.K]; exact hb) (fun σ => passW g σ) pa_wp pk_wp hall hks hdb he hpl, ?_⟩
  refine ha g s σ F H _ st (h.bind.mono fun ds s1 h1 vs F1 H1 e1 r1 st1 => ?_)
  refine hkw g s1 σ F1 H1 _ st1 (h1.bind.mono fun es' s2 h2' zs F2 H2 e2 r2 st2 => ?_)
  have h2 := h2'.bind1
  have l1 : m ds es' ≠ .bad := fun z => by rw [z] at h2; exact h2
  obtain ⟨as, ra, la, ea⟩ := hp F2 vs zs ds es' (r1.mono e2) r2 (hlen _ _ l1).1 (hlen _ _ l1).2
  refine ⟨by rw [r1.length]; exact (hlen _ _ l1).1, by rw [r2.length]; exact (hlen _ _ l1).2, call_done st2 ra la (hle s2).1 (hle s2).2 ?_⟩
  rw [ea]
  cases q : m ds es' with
  | ok d => rw [q] at h2; exact fun v F' H' ee rv st' => h2 v F' H' ((e1.trans e2).trans ee) rv st'
  | err c d => rw [q] at h2; exact h2
  | bad => exact absurd q l1
theorem je_callKw0 {j : Nat} {ks : List Str} {m : List D → List D → R D} {kws : List Keyword} {nk : τ → R (List D × τ)} (Ca : CalleeD C.T x 0 ks j m) (hj : j ≤ C.k) (hkw : JKw C φ kws nk) (hle : LeAll C φ := by exact le0 rfl)
    (hh : C.hot = false := by rfl) (hg : Gl C.X x := by rfl) (hall : (backToKw pos (keywordEach kws C.X.env)).all (·.1.isSome) = true := by rfl) (hks : (backToKw pos (keywordEach kws C.X.env)).filterMap (·.1) = ks := by rfl)
    (hdb : (x == ("__debug__" : Str)) = false := by decide) (hpl : ((backTo pos (starEach [] C.X.env)).any (·.1) || (backToKw pos (keywordEach kws C.X.env)).any (·.1.isNone)) = false := by rfl) :
    JE C φ (.Call (.Name x p) [] kws pos) (fun s => (nk s).bind fun q2 => (m [] q2.1).bind fun d => .ok (unfre d, q2.2)) := fun g s σ F H Q st h => by
  obtain ⟨k, mm, pick, ⟨f, fd, ps, gg, Fo, hm, hk, hb⟩, hp, hlen⟩ := Ca
  refine ⟨_, pe_callKw0 (fnX g Fo) ((g.room hh).mono hj) hg (by rw [g.mg]; exact hm) (by rw [g.K]; exact hk) (by rw [g.K]; exact hb) (fun σ => passW g σ) pk_wp hall hks hdb hpl, ?_⟩
  refine hkw g s σ F H _ st (h.bind.mono fun es' s2 h2' zs F2 H2 e2 r2 st2 => ?_)
  have h2 := h2'.bind1
  have l1 : m [] es' ≠ .bad := fun z => by rw [z] at h2; exact h2
  obtain ⟨as, ra, la, ea⟩ := hp F2 [] zs [] es' .nil r2 rfl (hlen _ _ l1).2
  refine ⟨rfl, by rw [r2.length]; exact (hlen _ _ l1).2, call_done st2 ra la (hle s2).1 (hle s2).2 ?_⟩
  rw [ea]
  cases q : m [] es' with
  | ok d => rw [q] at h2; exact fun v F' H' ee rv st' => h2 v F' H' (e2.trans ee) rv st'
  | err c d => rw [q] at h2; exact h2
  | bad => exact absurd q l1
/-- f(deal, es) -/
theorem SlotsOk.dealAt {T : Txt} {Fr : Addr → Prop} {F H : Hp} {e : Slots} {σ : L2.St} {i : Nat} {l1 l2 : Addr} {dl : Deal} (h : SlotsOk T Fr F H e σ) (hi : e[i]?.join = some (.deal l1 l2 dl.1 dl.2)) : σ[i]? = some (some (.ref l1)) ∧ DealAt F H l1 l2 dl := by
  obtain ⟨A, h1, _⟩ := h
  have q := h1 i
  rw [hi] at q
  obtain ⟨_, ev, q1, q2, q3, q4, _, _, q7⟩ := q
  refine ⟨?_, q1, q2, q3, q4, q7⟩
  cases z : σ[i]? with
  | none => rw [z] at ev; cases ev
  | some o => rw [z] at ev; rw [show o = some (V.ref l1) from ev]
theorem je_callL {φ : Deal → Slots} (i : Nat) {l1 l2 : Addr} {n j : Nat} {m : List D → List D → Deal → R (D × Deal)} {dn : Str} {dp : Pos} {es : List Expr} {na : Deal → R (List D × Deal)} (Ca : CalleeL C.T x n [] j m) (hj : j ≤ C.k) (ha : JA C φ es na)
    (hd : ∀ dl, (φ dl)[i]?.join = some (.deal l1 l2 dl.1 dl.2) := by intro _; rfl) (hput : ∀ dl dl' : Deal, (φ dl).set i (some (.deal l1 l2 dl'.1 dl'.2)) = φ dl' := by intro _ _; rfl)
    (hN : C.X.N[i]? = some dn := by rfl) (hs : Vis C.X.env.scope dn := by first | exact Or.inl rfl | exact Or.inr (Or.inl rfl) | exact Or.inr (Or.inr rfl))
    (hdb1 : (dn == ("__debug__" : Str)) = false := by decide) (hcd : (dn == ("__classdict__" : Str)) = false := by decide) (hle : LeAll C (fun s => (φ s).set i none) := by exact le0 rfl)
    (hh : C.hot = false := by rfl) (hg : Gl C.X x := by rfl) (hdb : (x == ("__debug__" : Str)) = false := by decide) (he : starEach (.Name dn dp :: es) C.X.env = (false, eval (.Name dn dp) C.X.env) :: starEach es C.X.env := by rfl)
    (hpl : (backTo pos (starEach es C.X.env)).any (·.1) = false := by rfl) :
    JE C φ (.Call (.Name x p) (.Name dn dp :: es) [] pos) (fun dl => (na dl).bind fun q => (m q.1 [] q.2).bind fun r => .ok (unfre r.1, r.2)) := fun g dl σ F H Q st h => by
  obtain ⟨k, mm, pick, ⟨f, fd, ps, gg, Fo, hm, hk, hb⟩, hp, hlen⟩ := Ca
  refine ⟨_, pe_callPos (fnX g Fo) ((g.room hh).mono hj) hg (by rw [g.mg]; exact hm) (by rw [g.K]; exact hk) (by rw [g.K]; exact hb) (fun σ => passW g σ) (pa_cons (pe_var hN hs hdb1 hcd) pa_wp he) hdb he hpl, ?_⟩
  refine ⟨_, (st.env.dealAt (hd dl)).1, ?_⟩
  refine ha g dl σ F H _ st (h.bind.mono fun ds dl1 h1 vs F1 H1 e1 r1 st1 => ?_)
  have h2 := (show Srv C ((m ds [] dl1).bind fun r => .ok (unfre r.1, r.2)) _ from h1).bind
  have l1' : m ds [] dl1 ≠ .bad := fun z => by rw [z] at h2; exact h2
  obtain ⟨ws, as, ew, ra, la, ea⟩ := hp F1 l1 vs [] ds [] r1 .nil (hlen _ _ _ l1').1 rfl
  refine ⟨by rw [List.length_cons, r1.length, (hlen _ _ _ l1').1], rfl, F1, l1, l2, dl1, ws, as, ew, st1.sub, (st1.env.dealAt (hd dl1)).2, ra, la, ?_⟩
  rw [ea]
  cases q : m ds [] dl1 with
  | ok r =>
    obtain ⟨d, dl2⟩ := r
    rw [q] at h2
    intro v F' H' stp sub rv da
    obtain ⟨F2, g2, s3, s2, r2, n2⟩ := rv.frz stp sub
    have da1 := (st1.env.dealAt (hd dl1)).2
    have same : ∀ {a : Addr} {o : HO}, H1 a = some o → F2 a = F' a := fun {a o} e => by
      by_cases c : F2 a = F' a
      · exact c
      · have := n2 a c
        rw [e] at this
        cases this
    exact (show ∀ v F' H', Same F F' → Rp C.T F' v (unfre d) → St8 C (φ dl2) σ F' H' → Q v H' from h2) v F2 H' (e1.trans g2.fz) r2 (by
      have z := st1.deal (hd dl1) g2 s2 ⟨da.h1, da.h2, by rw [same da1.h1]; exact da.f1, by rw [same da1.h2]; exact da.f2, da.ne⟩
      rw [hput] at z
      exact z)
  | err c d =>
    rw [q] at h2
    exact fun cls dd F' H' stp sub eo => h2 σ cls dd F' H' eo ((st1.noDeal (hd dl1) stp sub).le (hle dl1).1 (hle dl1).2)
  | bad => exact absurd q l1'
end
end Pv
set_option Elab.async false
set_option linter.all false
set_option maxRecDepth 100000
/-! Pv5: raise, fields, instances that are made. -/
namespace Pv
open PySem PySem.Spec PyProof.Rows L2

section
variable {C : Ctx} {τ α β : Type} {φ : τ → Slots} {ψ : α → τ → Slots} {χ : β → τ → Slots} {ρ : τ → Slots} {rest : List Stmt} {pos pos2 p : Pos}
/-- raise c(e) -/
theorem jb_raise {c : Str} {e : Expr} {me : τ → R (D × τ)} (hC : ErrC C.T c) (he : JE C φ e me) (hk : 0 ≤ C.k := by exact Nat.zero_le _) (hle : LeAll C φ := by exact le0 rfl) (hh : C.hot = false := by rfl) (hg : Gl C.X c := by rfl) (hdb : (c == ("__debug__" : Str)) = false := by decide)
    (hst : starEach (e :: []) C.X.env = (false, eval e C.X.env) :: starEach [] C.X.env := by rfl) (hpl : (backTo pos (starEach [] C.X.env)).any (·.1) = false := by rfl) :
    JB C φ (.Raise (some (.Call (.Name c p) [e] [] pos)) none pos2 :: rest) ψ χ ρ (fun s => (me s).bind fun q => .err c q.1) := fun g s σ F H Dn st h => by
  obtain ⟨Ca, fI, qual, e1, sup⟩ := hC.ex
  have sup' : PySem.SupX.SupTxt C.X.prog C.X.K C.X.mg c qual Ca fI := by
    rw [g.pr, g.K, g.mg]
    exact sup
  refine ⟨_, pss_cons (ps_raise (g.calm hh) g.tk (pmk_sup sup' (g.room hh).r (pa_cons pe_wp pa_nil hst) hg hdb hst hpl)) pss_never, ?_⟩
  refine he g s σ F H _ st (h.bind.mono fun d s1 h1 v F1 H1 ee r1 st1 => ?_)
  refine ⟨v, rfl, fun a ha => ?_⟩
  have gr := grow_new (o := .xd [(("at" : Str), v)]) st1.sub ha
  exact (show Werr C c d from h1) σ (.ref Ca) (some a) _ _ ⟨hC, Ca, a, v, e1, rfl, rfl, upd_same, r1.mono gr.fz⟩ ((st1.new ha).le (hle s1).1 (hle s1).2)

/-! ### fields -/
structure ClsC (T : Txt) (c f : Str) : Prop where
  ex : ∃ Ca, T.cls c = some Ca ∧ Cls T.K Ca ∧ NoAttr T.K Ca f
def attrD (c f : Str) : D → R D
  | .obj c' fs => if c' = c then (match fs.lookup f with | some d => .ok d | none => .bad) else .bad
  | _ => .bad
theorem attrD_obj (c f c' : Str) (fs : List (Str × D)) : attrD c f (.obj c' fs) = if c' = c then (match fs.lookup f with | some d => .ok d | none => .bad) else .bad := rfl
theorem look_rel {T : Txt} {F : Hp} {f : Str} {d : D} : ∀ {fv : List (Str × V)} {fs : List (Str × D)}, fv.map (·.1) = fs.map (·.1) → Rps T F (fv.map (·.2)) (fs.map (·.2)) → fs.lookup f = some d → ∃ v, fv.lookup f = some v ∧ Rp T F v d
  | [], [], _, _, h => by simp at h
  | [], _ :: _, h, _, _ => by simp at h
  | _ :: _, [], h, _, _ => by simp at h
  | (k, v) :: fv, (k', d') :: fs, hn, r, h => by
    have h1 : k = k' := by simpa using (List.cons.inj hn).1
    subst h1
    cases r with
    | cons rv rr =>
      by_cases c : (f == k) = true
      · rw [List.lookup_cons, c] at h ⊢
        cases h
        exact ⟨v, rfl, rv⟩
      · have c' : (f == k) = false := by simpa using c
        rw [List.lookup_cons, c'] at h ⊢
        exact look_rel (List.cons.inj hn).2 rr h
theorem je_attr (c : Str) {f : Str} {e : Expr} {me : τ → R (D × τ)} (hC : ClsC C.T c f) (he : JE C φ e me) (hb : attributeBase e f C.X.env (eval e C.X.env) = eval e C.X.env := by rfl) :
    JE C φ (.Attribute e f pos) (fun s => (me s).bind fun q => (attrD c f q.1).bind fun d => .ok (d, q.2)) := fun g s σ F H Q st h => by
  obtain ⟨Ca, e1, hcl, hno⟩ := hC.ex
  refine ⟨_, pe_fld pe_wp hb, ?_⟩
  refine he g s σ F H _ st (h.bind.mono fun d s1 h1 v F1 H1 ee r1 st1 => ?_)
  have h2 := h1.bind1
  cases r1 with
  | @obj a C' dx c' fv fs hc hF hn hr =>
    by_cases ec : c' = c
    · subst ec
      rw [e1] at hc
      cases hc
      cases q : fs.lookup f with
      | none =>
        rw [show attrD c' f (.obj c' fs) = .bad by rw [attrD_obj, if_pos rfl, q]] at h2
        exact h2.elim
      | some d =>
        rw [show attrD c' f (.obj c' fs) = .ok d by rw [attrD_obj, if_pos rfl, q]] at h2
        obtain ⟨v, hv, rv⟩ := look_rel hn hr q
        exact ⟨a, _, dx, fv, v, rfl, st1.sub _ _ hF, by rw [g.K]; exact hcl, by rw [g.K]; exact hno, hv, h2 v F1 H1 ee rv st1⟩
    · rw [show attrD c f (.obj c' fs) = .bad by rw [attrD_obj, if_neg ec]] at h2
      exact h2.elim
  | _ => exact h2.elim
/-- self.f = e, self an instance that is being made -/
def putD (f : Str) (d : D) : List (Str × D) → List (Str × D)
  | [] => [(f, d)]
  | (k, x) :: r => if k = f then (k, d) :: r else (k, x) :: putD f d r
theorem putF_names {f : Str} {v : V} {d : D} : ∀ {fv : List (Str × V)} {fs : List (Str × D)}, fv.map (·.1) = fs.map (·.1) → (putF f v fv).map (·.1) = (putD f d fs).map (·.1)
  | [], [], _ => rfl
  | [], _ :: _, h => by simp at h
  | _ :: _, [], h => by simp at h
  | (k, x) :: fv, (k', y) :: fs, h => by
    have h1 : k = k' := by simpa using (List.cons.inj h).1
    subst h1
    have h2 := (List.cons.inj h).2
    unfold putF putD
    by_cases c : k = f
    · rw [if_pos c, if_pos c]
      simp only [List.map_cons]
      exact congrArg _ h2
    · rw [if_neg c, if_neg c]
      simp only [List.map_cons]
      exact congrArg _ (putF_names h2)
theorem putF_vals {T : Txt} {F : Hp} {f : Str} {v : V} {d : D} (r : Rp T F v d) : ∀ {fv : List (Str × V)} {fs : List (Str × D)}, fv.map (·.1) = fs.map (·.1) → Rps T F (fv.map (·.2)) (fs.map (·.2)) → Rps T F ((putF f v fv).map (·.2)) ((putD f d fs).map (·.2))
  | [], [], _, _ => .cons r .nil
  | [], _ :: _, h, _ => by simp at h
  | _ :: _, [], h, _ => by simp at h
  | (k, x) :: fv, (k', y) :: fs, h, rr => by
    have h1 : k = k' := by simpa using (List.cons.inj h).1
    subst h1
    have h2 := (List.cons.inj h).2
    cases rr with
    | cons r0 r1 =>
      unfold putF putD
      by_cases c : k = f
      · rw [if_pos c, if_pos c]
        exact .cons r r1
      · rw [if_neg c, if_neg c]
        exact .cons r0 (putF_vals r h2 r1)
theorem jb_fld (i : Nat) {pp dx : Addr} {c f x : Str} {p1 pos' : Pos} {e : Expr} {fs : τ → List (Str × D)} {me : τ → R (D × τ)} {k : D → τ → R (Fl α β × τ)} (hC : ClsC C.T c f) (he : JE C φ e me) (hi : ∀ s, (φ s)[i]?.join = some (.ins pp dx c (fs s)))
    (hz : ∀ s, (fs s).length < 1000) (hk : ∀ d, JB C (fun s => (φ s).set i (some (.ins pp dx c (putD f d (fs s))))) rest ψ χ ρ (k d))
    (hN : C.X.N[i]? = some x := by rfl) (hs : Vis C.X.env.scope x := by first | exact Or.inl rfl | exact Or.inr (Or.inl rfl) | exact Or.inr (Or.inr rfl)) (hd : (x == ("__debug__" : Str)) = false := by decide) (hcd : (x == ("__classdict__" : Str)) = false := by decide)
    (hsw : swapsWith e (some (.Attribute (.Name x p1) f pos')) pos.line C.X.env = pure false := by rfl) :
    JB C φ (.Assign [.Attribute (.Name x p1) f pos'] e pos :: rest) ψ χ ρ (fun s => (me s).bind fun q => k q.1 q.2) := fun g s σ F H Dn st h => by
  obtain ⟨Ca, e1, hcl, hno⟩ := hC.ex
  refine ⟨_, pss_cons (ps_fld (pe_var hN hs hd hcd) pe_wp hsw) ps_wp, ?_⟩
  refine he g s σ F H _ st (h.bind.mono fun d s1 h1 v F1 H1 ee r1 st1 => ?_)
  obtain ⟨A, ha, _⟩ := id st1.env
  have q := ha i
  rw [hi s1] at q
  obtain ⟨Cb, fv, eA, ev, ec, hH, hn, hr, hF, hFr⟩ := q
  rw [e1] at ec
  cases ec
  have ev' : σ[i]? = some (some (.ref pp)) := by
    cases z : σ[i]? with
    | none => rw [z] at ev; cases ev
    | some o => rw [z] at ev; rw [show o = some (V.ref pp) from ev]
  have hlen : fv.length < 1000 := by
    have := congrArg List.length hn
    rw [List.length_map, List.length_map] at this
    rw [this]
    exact hz s1
  refine ⟨_, ev', pp, Ca, dx, fv, rfl, hH, by rw [g.K]; exact hcl, by rw [g.K]; exact hno, hlen, ?_⟩
  have st2 : St8 C ((φ s1).set i (some (.ins pp dx c (putD f d (fs s1))))) σ F1 (upd H1 pp (.ins Ca dx (putF f v fv))) := by
    refine ⟨⟨st1.step.fz, st1.step.new, fun a o ha hm => ?_, fun a ha => ?_⟩, fun a o ha => ?_, ?_, by rw [List.length_set]; exact st1.len⟩
    · have ne : a ≠ pp := fun z => by
        rcases hFr with z' | z'
        · rw [z, z'] at ha; cases ha
        · exact hm (by rw [z]; exact z')
      rw [upd_ne ne]
      exact st1.step.keep a o ha hm
    · by_cases c : a = pp
      · rw [c, upd_same] at ha; cases ha
      · rw [upd_ne c] at ha
        exact st1.step.dom a ha
    · have ne : a ≠ pp := fun z => by rw [z, hF] at ha; cases ha
      rw [upd_ne ne]
      exact st1.sub a o ha
    · refine st1.env.upd1 (hi s1) ev (fun as z => ?_) (fun _ => ?_)
      · obtain ⟨_, _, z1, _⟩ := z
        exact z1
      · exact ⟨Ca, putF f v fv, rfl, rfl, e1, upd_same, putF_names hn, putF_vals r1 hn hr, hF, hFr⟩
  exact hk d g s1 σ F1 _ Dn st2 (h1.mono fun fl s2 => FlPost.mono ee)
end

/-! ### an instance is made: __init__'s promise, the call -/
def IPost (T : Txt) (p Ca dx : Addr) (F H : Hp) (Q : VK) (E : XK) : R (List (Str × D)) → Prop
  | .ok fs => ∀ fv F' H', Step (fun a => a = p) F H F' H' → Same F' H' → F' p = none → H' p = some (.ins Ca dx fv) → fv.map (·.1) = fs.map (·.1) → Rps T F' (fv.map (·.2)) (fs.map (·.2)) → Q .non H'
  | .err c d => ∀ cls dd F' H', Step (fun a => a = p) F H F' H' → Same F' H' → ErrOk T c d cls dd F' H' → E cls dd H'
  | .bad => False
def SpI (T : Txt) (c : Str) (n : Nat) (m : List D → R (List (Str × D))) : Sp := fun vs H Q E => ∃ F p Ca dx vs' ds, vs = .ref p :: vs' ∧ T.cls c = some Ca ∧ Same F H ∧ F p = none ∧ H p = some (.ins Ca dx []) ∧ Rps T F vs' ds ∧ ds.length = n ∧ IPost T p Ca dx F H Q E (m ds)
def finishI {α β : Type} (r : R (Fl α β × Unit)) (fs : α → List (Str × D)) : R (List (Str × D)) := r.bind fun p => match p.1 with
  | .nx a => .ok (fs a)
  | _ => .bad
theorem fn_okI {T : Txt} {x qual c : Str} {st : Stmt} {f : Addr} {fd : FuncData} {N ps : List Str} {k : Nat} {α : Type} {fs : α → List (Str × D)} {m : List D → R (Fl α Unit × Unit)} (Fn : Fun T.K x qual st f fd) (S : FnScope N ps (defScope st)) (h0 : 0 < ps.length)
    (hbody : ∀ (cdv : Value) (A : Around) (outer : List Env) (s : Shared) (H : Hp) (E : XK) (F : Hp) (p dx : Addr) (ds : List D), ds.length + 1 = ps.length →
      JB (bodyCtx T N qual st f cdv A outer s H E k F (fun a => a = p)) (fun _ : Unit => some (.ins p dx c []) :: startD N.tail ds) (defBody st) (fun a _ => [some (.ins p dx c (fs a))]) (fun _ _ => []) (fun _ => []) (fun _ => m ds)) :
    FnG T.P T.w T.K T.mg T.base (L2.CX T.P T.w) (k + 1) f fd ps (SpI T c (ps.length - 1) fun ds => finishI (m ds) fs) := by
  refine fn_okG Fn S (fun vs H Q E ⟨F, p, Ca, dx, vs', ds, e, _, _, _, _, r, hl, _⟩ => by subst e; show vs'.length + 1 = ps.length; have := r.length; omega) (fun cdv A outer s H vs Q E hr ⟨F, p, Ca, dx, vs', ds, e, hc, sub, hF, hH, r, hl, hp⟩ => ?_)
  subst e
  have hp : IPost T p Ca dx F H Q E (finishI (m ds) fs) := hp
  have hN := scope_le S
  obtain ⟨n0, N', eN⟩ : ∃ n0 N', N = n0 :: N' := by
    cases N with
    | nil => exact absurd (Nat.lt_of_lt_of_le h0 hN) (Nat.lt_irrefl 0)
    | cons a b => exact ⟨a, b, rfl⟩
  subst eN
  have hN' : ds.length ≤ N'.length := by rw [List.length_cons] at hN; omega
  have es : L2.start (n0 :: N') (V.ref p :: vs') = some (.ref p) :: L2.start N' vs' := by
    unfold L2.start
    simp
  have st0 : St8 (bodyCtx T (n0 :: N') qual st f cdv A outer s H E k F (fun a => a = p)) (some (.ins p dx c []) :: startD (n0 :: N').tail ds) (L2.start (n0 :: N') (V.ref p :: vs')) F H := by
    refine ⟨Step.refl _ _ _, sub, ?_, ?_⟩
    · rw [es]
      refine ⟨fun i => if i = 0 then [p] else [], fun i => ?_, fun i j a ha hb => ?_⟩
      · cases i with
        | zero => exact ⟨Ca, [], rfl, rfl, hc, hH, rfl, .nil, hF, .inr rfl⟩
        | succ i =>
          have q := startD_get (N := N') (ds := ds) (i := i)
          show SlotOk T _ F H ((startD N' ds)[i]?.join) ((L2.start N' vs')[i]?.join) []
          rw [q]
          cases z : ds[i]? with
          | none => rfl
          | some d =>
            obtain ⟨v, e1, e2⟩ := r.get z
            rw [start_get (List.getElem?_eq_some_iff.mp e1).1, e1]
            exact ⟨rfl, v, rfl, e2⟩
      · by_cases c : i = 0
        · by_cases c' : j = 0
          · rw [c, c']
          · simp [c'] at hb
        · simp [c] at ha
    · rw [es, List.length_cons, List.length_cons, List.tail_cons, startD_length hN', start_length (by rw [r.length]; exact hN')]
      exact Nat.le_refl _
  refine ⟨_, ps_wp, hbody cdv A outer s H E F p dx ds (by omega) (good_body S hr) () _ F H _ st0 ?_⟩
  cases q : m ds with
  | ok r =>
    obtain ⟨fl, u⟩ := r
    rw [q] at hp
    cases fl with
    | nx a =>
      intro σ F' H' _ st'
      obtain ⟨A', h1, _⟩ := id st'.env
      obtain ⟨Cb, fv, eA, ev, ec, hH', hn, hr', hF', hFr⟩ := h1 0
      rw [hc] at ec
      cases ec
      exact hp fv F' H' st'.step st'.sub hF' hH' hn hr'
    | rt d => exact hp.elim
    | bk b => exact hp.elim
  | err c' d =>
    rw [q] at hp
    exact fun σ cls dd F' H' eo st' => hp cls dd F' H' st'.step st'.sub eo
  | bad =>
    rw [q] at hp
    exact hp.elim
end Pv
set_option Elab.async false
set_option linter.all false
set_option maxRecDepth 100000
/-! Pv6: a class is called; try; what a clause catches. -/
namespace Pv
open PySem PySem.Spec PyProof.Rows L2
theorem run_makeG {X : Cx} {CX : CXT} {k n : Nat} {f Ca : Addr} {fd : FuncData} {ps ks : List Str} {sp : Sp} {E : XK} {pick : List V → List V → List V} {g : List Value → List Value → List Value} {pins : List (Addr × Obj)} {σ : L2.St} {H : Hp} {s : Shared} {Q : VK} {us ws : List Value} {vs zs : List V}
    (M : Mk X.K Ca f) (Fo : FnG X.prog X.w X.K X.mg X.base CX k f fd ps sp) (hr : RoomG (k + 1) X.A) (hb : KBn X.K fd ps (n + 1) ks g pick) (hx : PassesAt CX X σ E) (I : Inv X pins σ H s) (r : Vals vs us) (rz : Vals zs ws) (l1 : vs.length = n) (l2 : zs.length = ks.length)
    (h : ∀ x dx, H x = none → H dx = none → dx ≠ x → sp (pick (.ref x :: vs) zs) (upd (upd H dx (.own x)) x (.ins Ca dx [])) (fun v H2 => v = .non ∧ Q (.ref x) H2) E) :
    wpAny (model X.prog X.w) X.A (call (.ref Ca) us (ks.zip ws)) (EP X pins σ Q) X.xe s := by
  have hq := h (s.heap.objs.size + 1) s.heap.objs.size (I.hok.fresh (Nat.le_succ _)) (I.hok.fresh (Nat.le_refl _)) (Nat.ne_of_lt (Nat.lt_succ_self _))
  have I2 := Inv.made (C := Ca) I
  have rr : Vals (V.ref (s.heap.objs.size + 1) :: vs) (Value.ref (s.heap.objs.size + 1) :: us) := .cons rfl r
  have l3 : (Value.ref (s.heap.objs.size + 1) :: us).length = n + 1 := by rw [List.length_cons, ← r.length, l1]
  have l4 : ws.length = ks.length := by rw [← rz.length]; exact l2
  refine wpAny_call (make_map (f := f) I.kIn M.makes M.init (beq_iff_eq.mp M.fn) (codeAny_mono (Fo.run _ X.stack _ _ ⟨Value.ref (s.heap.objs.size + 1) :: us, ks.zip ws⟩ (g (Value.ref (s.heap.objs.size + 1) :: us) ws) (pick (.ref (s.heap.objs.size + 1) :: vs) zs) _ E (hr.make Ca us (ks.zip ws))
    (I2.env0.make Ca us (ks.zip ws)) (hb.to _ _ ws I2.kIn l3 l4) (hb.rel rr rz) hq) fun o s' hq' => ?_))
  cases o with
  | error e => exact hx pins _ _ e s' I2 hq'
  | ok fl =>
    cases fl with
    | ret u =>
      obtain ⟨v, H', I3, rv, ev, q3⟩ := I2.after hq'
      subst ev
      exact ⟨rv, ⟨V.ref (s.heap.objs.size + 1), H', I3, rfl, q3⟩⟩
    | next => exact False.elim hq'
    | brk => exact False.elim hq'
    | cont => exact False.elim hq'
def tMakeG (Ca : Addr) (sp : Sp) (n : Nat) (ks : List Str) (pick : List V → List V → List V) (E : L2.St → XK) (t tk : TA) : TE := fun σ H Q => t σ H fun vs H1 => tk σ H1 fun zs H2 => vs.length = n ∧ zs.length = ks.length ∧
  ∀ x dx, H2 x = none → H2 dx = none → dx ≠ x → sp (pick (.ref x :: vs) zs) (upd (upd H2 dx (.own x)) x (.ins Ca dx [])) (fun v H3 => v = .non ∧ Q (.ref x) H3) (E σ)
section
variable {X : Cx} {CX : CXT} {k n : Nat} {f Ca : Addr} {fd : FuncData} {ps ks : List Str} {sp : Sp} {E : L2.St → XK} {pick : List V → List V → List V} {g : List Value → List Value → List Value} {x : Str} {p pos : Pos} {e : Expr} {es : List Expr} {kws : List Keyword} {t tk : TA}
theorem pe_makePos (M : Mk X.K Ca f) (Fo : FnG X.prog X.w X.K X.mg X.base CX k f fd ps sp) (hr : RoomG (k + 1) X.A) (hg : Gl X x) (hm : X.mg x = some (.ref Ca)) (hb : KBn X.K fd ps (n + 1) [] g pick) (hx : ∀ σ, PassesAt CX X σ (E σ)) (ha : PA X (e :: es) t)
    (hdb : (x == ("__debug__" : Str)) = false) (he : starEach (e :: es) X.env = (false, eval e X.env) :: starEach es X.env) (hpl : (backTo pos (starEach es X.env)).any (·.1) = false) :
    PE X (.Call (.Name x p) (e :: es) [] pos) (tMakeG Ca sp n [] pick E t tNil) := by
  refine ⟨fun pins s σ H Q I h => ?_⟩
  refine wpAny_Call_Name_kw (ld_glob I hg hm ?_ hdb)
  refine PySem.W.callWith_K (h₀ := X.base) I.ok.mod.kin M.kp (thn (ha.run pos pins s σ H _ I h) fun us s1 ⟨vs, H1, I1, r, l1, l2, q⟩ => ⟨I1.kIn, ?_⟩) he hpl
  exact run_makeG (ws := []) M Fo hr hb (hx σ) I1 r .nil l1 l2 q
theorem pe_makeKw0 (M : Mk X.K Ca f) (Fo : FnG X.prog X.w X.K X.mg X.base CX k f fd ps sp) (hr : RoomG (k + 1) X.A) (hg : Gl X x) (hm : X.mg x = some (.ref Ca)) (hb : KBn X.K fd ps (0 + 1) ks g pick) (hx : ∀ σ, PassesAt CX X σ (E σ)) (hkw : PK X kws tk)
    (hall : (backToKw pos (keywordEach kws X.env)).all (·.1.isSome) = true) (hks : (backToKw pos (keywordEach kws X.env)).filterMap (·.1) = ks) (hdb : (x == ("__debug__" : Str)) = false)
    (hpl : ((backTo pos (starEach [] X.env)).any (·.1) || (backToKw pos (keywordEach kws X.env)).any (·.1.isNone)) = false) :
    PE X (.Call (.Name x p) [] kws pos) (tMakeG Ca sp 0 ks pick E tNil tk) := by
  refine ⟨fun pins s σ H Q I h => ?_⟩
  refine wpAny_Call_Name_kw (ld_glob I hg hm ?_ hdb)
  refine PySem.W.callWith_KW0 (h₀ := X.base) I.ok.mod.kin M.kp hall ?_ hpl
  refine thn (hkw.run pos pins s σ H _ I h) fun ws s2 ⟨zs, H2, I2, rz, l1, l2, q2⟩ => ⟨I2.kIn, ?_⟩
  rw [hks]
  exact run_makeG (us := []) M Fo hr hb (hx σ) I2 .nil rz l1 l2 q2
end
def CalleeI (T : Txt) (c : Str) (n : Nat) (ks : List Str) (j : Nat) (m : List D → List D → R (List (Str × D))) : Prop := ∃ k mm pick Ca f fd ps g, T.cls c = some Ca ∧ T.mg c = some (.ref Ca) ∧ Mk T.K Ca f ∧ FnG T.P T.w T.K T.mg T.base (L2.CX T.P T.w) j f fd ps (SpI T c k mm) ∧ KBn T.K fd ps (n + 1) ks g pick ∧
  (∀ (F : Hp) (p : Addr) (vs zs : List V) (ds es : List D), Rps T F vs ds → Rps T F zs es → ds.length = n → es.length = ks.length → ∃ ws as, pick (.ref p :: vs) zs = .ref p :: ws ∧ Rps T F ws as ∧ as.length = k ∧ mm as = m ds es) ∧ ∀ ds es, m ds es ≠ .bad → ds.length = n ∧ es.length = ks.length
section
variable {C : Ctx} {τ : Type} {φ : τ → Slots} {c : Str} {p pos : Pos}
theorem make_done {σ : L2.St} {F H : Hp} {Q : VK} {env : Slots} {k : Nat} {Ca : Addr} {mm : List D → R (List (Str × D))} {as : List D} {ws : List V} (hc : C.T.cls c = some Ca) (st : St8 C env σ F H) (r : Rps C.T F ws as) (hl : as.length = k) (le : SlotsLe C.eh env) (ll : C.eh.length ≤ env.length)
    (h : Srv1 C (mm as) (fun fs => ∀ v F' H', Same F F' → Rp C.T F' v (.obj c fs) → St8 C env σ F' H' → Q v H')) {x dx : Addr} (hx : H x = none) (hdx : H dx = none) (hne : dx ≠ x) :
    SpI C.T c k mm (.ref x :: ws) (upd (upd H dx (.own x)) x (.ins Ca dx [])) (fun v H2 => v = .non ∧ Q (.ref x) H2) (WE C.W σ) := by
  have s0 : Same H (upd (upd H dx (.own x)) x (.ins Ca dx [])) := fun b o e => by
    rw [upd_ne (ne_of_none e hx), upd_ne (ne_of_none e hdx)]
    exact e
  have fx : F x = none := by
    cases q : F x with
    | none => rfl
    | some o => have z := st.sub _ _ q; rw [hx] at z; cases z
  refine ⟨F, x, Ca, dx, ws, as, rfl, hc, fun b o e => s0 b o (st.sub b o e), fx, upd_same, r, hl, ?_⟩
  have hnone : ∀ {b : Addr}, upd (upd H dx (.own x)) x (.ins Ca dx []) b = none → H b = none := fun {b} e => by
    by_cases c1 : b = x
    · rw [c1]; exact hx
    · by_cases c2 : b = dx
      · rw [c2]; exact hdx
      · rw [upd_ne c1, upd_ne c2] at e
        exact e
  have back : ∀ {F' H' : Hp}, Step (fun a => a = x) F (upd (upd H dx (.own x)) x (.ins Ca dx [])) F' H' → Grow F H F' H' := fun {F' H'} b =>
    ⟨b.fz, fun a o e => (b.new a o e).imp (fun z => z) fun z => .inl (z.elim hnone fun z => by rw [z]; exact hx), fun a o e _ => b.keep a o (s0 a o e) (fun z => by rw [z, hx] at e; cases e), fun a e => hnone (b.dom a e)⟩
  cases q : mm as with
  | ok fs =>
    rw [q] at h
    intro fv F' H' b sub hF hH hn hr
    have gr := back b
    have s1 : Same F' (upd F' x (.ins Ca dx fv)) := fun a o e => by rw [upd_ne (ne_of_none e hF)]; exact e
    have gr2 : Grow F H (upd F' x (.ins Ca dx fv)) H' := ⟨gr.fz.trans s1, fun a o e => by
      by_cases c1 : a = x
      · exact .inr (.inl (by rw [c1]; exact hx))
      · rw [upd_ne c1] at e
        exact gr.new a o e, gr.keep, gr.dom⟩
    have sub2 : Same (upd F' x (.ins Ca dx fv)) H' := fun a o e => by
      by_cases c1 : a = x
      · subst c1
        rw [upd_same] at e
        cases e
        exact hH
      · rw [upd_ne c1] at e
        exact sub a o e
    exact ⟨rfl, h (.ref x) _ H' gr2.fz (.obj hc upd_same hn (hr.mono s1)) (st.grow gr2 sub2)⟩
  | err c' d =>
    rw [q] at h
    exact fun cls dd F' H' b sub eo => h σ cls dd F' H' eo ((st.grow (back b) sub).le le ll)
  | bad => rw [q] at h; exact h
theorem je_make {n j : Nat} {m : List D → List D → R (List (Str × D))} {e : Expr} {es : List Expr} {na : τ → R (List D × τ)} (Ca : CalleeI C.T c n [] j m) (hj : j + 1 ≤ C.k) (ha : JA C φ (e :: es) na) (hle : LeAll C φ := by exact le0 rfl)
    (hh : C.hot = false := by rfl) (hg : Gl C.X c := by rfl) (hdb : (c == ("__debug__" : Str)) = false := by decide) (he : starEach (e :: es) C.X.env = (false, eval e C.X.env) :: starEach es C.X.env := by rfl) (hpl : (backTo pos (starEach es C.X.env)).any (·.1) = false := by rfl) :
    JE C φ (.Call (.Name c p) (e :: es) [] pos) (fun s => (na s).bind fun q => (m q.1 []).bind fun fs => .ok (.obj c fs, q.2)) := fun g s σ F H Q st h => by
  obtain ⟨k, mm, pick, Cc, f, fd, ps, gg, hc, hm, M, Fo, hb, hp, hlen⟩ := Ca
  refine ⟨_, pe_makePos (by rw [g.K]; exact M) (fnX g Fo) ((g.room hh).mono hj) hg (by rw [g.mg]; exact hm) (by rw [g.K]; exact hb) (fun σ => passW g σ) pa_wp hdb he hpl, ?_⟩
  refine ha g s σ F H _ st (h.bind.mono fun ds s1 h1 vs F1 H1 e1 r1 st1 => ?_)
  have h2 := h1.bind1
  have l1 : m ds [] ≠ .bad := fun z => by rw [z] at h2; exact h2
  refine ⟨by rw [r1.length]; exact (hlen _ _ l1).1, rfl, fun x dx hx hdx hne => ?_⟩
  obtain ⟨ws, as, ew, ra, la, ea⟩ := hp F1 x vs [] ds [] r1 .nil (hlen _ _ l1).1 rfl
  rw [ew]
  refine make_done hc st1 ra la (hle s1).1 (hle s1).2 ?_ hx hdx hne
  rw [ea]
  cases q : m ds [] with
  | ok fs => rw [q] at h2; exact fun v F' H' ee rv st' => h2 v F' H' (e1.trans ee) rv st'
  | err c' d => rw [q] at h2; exact h2
  | bad => exact absurd q l1
theorem je_makeKw0 {j : Nat} {ks : List Str} {m : List D → List D → R (List (Str × D))} {kws : List Keyword} {nk : τ → R (List D × τ)} (Ca : CalleeI C.T c 0 ks j m) (hj : j + 1 ≤ C.k) (hkw : JKw C φ kws nk) (hle : LeAll C φ := by exact le0 rfl)
    (hh : C.hot = false := by rfl) (hg : Gl C.X c := by rfl) (hall : (backToKw pos (keywordEach kws C.X.env)).all (·.1.isSome) = true := by rfl) (hks : (backToKw pos (keywordEach kws C.X.env)).filterMap (·.1) = ks := by rfl)
    (hdb : (c == ("__debug__" : Str)) = false := by decide) (hpl : ((backTo pos (starEach [] C.X.env)).any (·.1) || (backToKw pos (keywordEach kws C.X.env)).any (·.1.isNone)) = false := by rfl) :
    JE C φ (.Call (.Name c p) [] kws pos) (fun s => (nk s).bind fun q => (m [] q.1).bind fun fs => .ok (.obj c fs, q.2)) := fun g s σ F H Q st h => by
  obtain ⟨k, mm, pick, Cc, f, fd, ps, gg, hc, hm, M, Fo, hb, hp, hlen⟩ := Ca
  refine ⟨_, pe_makeKw0 (by rw [g.K]; exact M) (fnX g Fo) ((g.room hh).mono hj) hg (by rw [g.mg]; exact hm) (by rw [g.K]; exact hb) (fun σ => passW g σ) pk_wp hall hks hdb hpl, ?_⟩
  refine hkw g s σ F H _ st (h.bind.mono fun es s1 h1 zs F1 H1 e1 r1 st1 => ?_)
  have h2 := h1.bind1
  have l1 : m [] es ≠ .bad := fun z => by rw [z] at h2; exact h2
  refine ⟨rfl, by rw [r1.length]; exact (hlen _ _ l1).2, fun x dx hx hdx hne => ?_⟩
  obtain ⟨ws, as, ew, ra, la, ea⟩ := hp F1 x [] zs [] es .nil r1 rfl (hlen _ _ l1).2
  rw [ew]
  refine make_done hc st1 ra la (hle s1).1 (hle s1).2 ?_ hx hdx hne
  rw [ea]
  cases q : m [] es with
  | ok fs => rw [q] at h2; exact fun v F' H' ee rv st' => h2 v F' H' (e1.trans ee) rv st'
  | err c' d => rw [q] at h2; exact h2
  | bad => exact absurd q l1
end

/-! ### try -/
def excSub (c k : Str) : Bool := c == k || k == ("SlipsError" : Str)
/-- what a clause names: an own class of error -/
structure ExcN (T : Txt) (k : Str) : Prop where
  ex : ∃ Ca, T.mg k = some (.ref Ca) ∧ ∀ c Cc, T.cls c = some Cc → ErrC T c → PySem.W.exmOne T.K (.ref Cc) (.ref Ca) = some (excSub c k)
/-- a clause: the class, the slot of its name, what its suite does with the kept argument -/
structure Hd (α β : Type) where
  k : Str
  f : D → R (Fl α β × Unit)
def noErr {α : Type} : R α → R α
  | .ok a => .ok a
  | _ => .bad
def handle {α β : Type} : List (Hd α β) → Str → D → R (Fl α β × Unit)
  | [], c, d => .err c d
  | h :: r, c, d => if excSub c h.k = true then noErr (h.f d) else handle r c d
def tryR {α β τ : Type} (b : R (Fl α β × Unit)) (hs : List (Hd α β)) (s : τ) : R (Fl α β × τ) :=
  (match b with | .err c d => handle hs c d | r => r).bind fun p => .ok (p.1, s)
abbrev trCtx (C : Ctx) (pn : List (Addr × Obj)) (xe : Value → Shared → Prop) (W : WX) (ε : Slots) (F H : Hp) : Ctx := { C with X := C.X.tr pn xe, W := W, eh := ε, M := C.Fr, F0 := F, H0 := H, loose := false }
abbrev suiteCtx (C : Ctx) (a : Addr) (oe : Obj) (pn : List (Addr × Obj)) : Ctx := { C with X := C.X.suite a ((a, oe) :: pn), W := fun _ _ _ _ => False, eh := [], hot := true, loose := false }
theorem Good.suite {C : Ctx} (g : Good C) (a : Addr) (oe : Obj) (pn : List (Addr × Obj)) : Good (suiteCtx C a oe pn) :=
  ⟨g.K, g.mg, g.pr, g.w, g.base, fun z => (by cases z), g.nd, fun z => (by cases z), PassesOwn.never, fun _ _ ⟨_, _, _, _, _, _, _, _, _, _, _, _, _, _, _, _, z⟩ => z.elim⟩
theorem Good.tr {C : Ctx} (g : Good C) {pn : List (Addr × Obj)} {xe : Value → Shared → Prop} {W : WX} {ε : Slots} {F H : Hp} (tk : Takes (C.X.tr pn xe) W) (ow : PassesOwn (model C.X.prog C.X.w) C.X.A C.X.env xe) : Good (trCtx C pn xe W ε F H) :=
  ⟨g.K, g.mg, g.pr, g.w, g.base, g.calm, g.nd, g.room, ow, tk⟩
theorem St8.restart {C : Ctx} {e : Slots} {σ : L2.St} {F H : Hp} (st : St8 C e σ F H) {pn : List (Addr × Obj)} {xe : Value → Shared → Prop} {W : WX} {ε : Slots} : St8 (trCtx C pn xe W ε F H) e σ F H := by
  obtain ⟨A, h1, h2⟩ := st.env
  refine ⟨Step.refl _ _ _, st.sub, ⟨A, fun i => ?_, h2⟩, st.len⟩
  have z := h1 i
  cases q : e[i]?.join with
  | none => rw [q] at z; exact z
  | some sv =>
    rw [q] at z
    cases sv with
    | val d => exact z
    | exc _ _ _ _ => exact z
    | own ds =>
      obtain ⟨l, xs, z1, z2, z3, z4, z5, z6⟩ := z
      exact ⟨l, xs, z1, z2, z3, z4, z5, .inr z6⟩
    | deal l1 l2 cs b =>
      obtain ⟨z1, z2, z3, z4, z5, z6, z7, z8, z9⟩ := z
      exact ⟨z1, z2, z3, z4, z5, z6, .inr z7, .inr z8, z9⟩
    | owk ds =>
      obtain ⟨l, xs, z1, z2, z3, zn, z4, z5, z6⟩ := z
      exact ⟨l, xs, z1, z2, z3, zn, z4, z5, .inr z6⟩
    | owt ds =>
      obtain ⟨l, xs, z1, z2, z3, zn, z4, z5, z6⟩ := z
      exact ⟨l, xs, z1, z2, z3, zn, z4, z5, .inr z6⟩
    | ins p dx c fs =>
      obtain ⟨Ca, fv, z1, z2, z3, z4, z5, z6, z7, z8⟩ := z
      exact ⟨Ca, fv, z1, z2, z3, z4, z5, z6, z7, .inr z8⟩
theorem St8.back {C : Ctx} {e0 e : Slots} {σ0 σ : L2.St} {F H F' H' : Hp} (st0 : St8 C e0 σ0 F H) {pn : List (Addr × Obj)} {xe : Value → Shared → Prop} {W : WX} {ε : Slots} (st : St8 (trCtx C pn xe W ε F H) e σ F' H') : St8 C e σ F' H' := by
  have fr : ∀ {a : Addr}, (trCtx C pn xe W ε F H).Fr a → C.Fr a := fun {a} z => by
    rcases z with z | z
    · exact .inl (st0.step.dom a z)
    · exact z
  obtain ⟨A, h1, h2⟩ := st.env
  refine ⟨⟨st0.step.fz.trans st.step.fz, fun a o h => ?_, fun a o h m => ?_, fun a h => st0.step.dom a (st.step.dom a h)⟩, st.sub, ⟨A, fun i => ?_, h2⟩, st.len⟩
  · rcases st.step.new a o h with h | h | h
    · exact st0.step.new a o h
    · exact .inr (.inl (st0.step.dom a h))
    · exact .inr h
  · exact st.step.keep a o (st0.step.keep a o h m) fun z => by
      rcases z with z | z
      · rw [z] at h; cases h
      · exact m z
  · have z := h1 i
    cases q : e[i]?.join with
    | none => rw [q] at z; exact z
    | some sv =>
      rw [q] at z
      cases sv with
      | val d => exact z
      | exc _ _ _ _ => exact z
      | own ds =>
        obtain ⟨l, xs, z1, z2, z3, z4, z5, z6⟩ := z
        exact ⟨l, xs, z1, z2, z3, z4, z5, fr z6⟩
      | deal l1 l2 cs b =>
        obtain ⟨z1, z2, z3, z4, z5, z6, z7, z8, z9⟩ := z
        exact ⟨z1, z2, z3, z4, z5, z6, fr z7, fr z8, z9⟩
      | owk ds =>
        obtain ⟨l, xs, z1, z2, z3, zn, z4, z5, z6⟩ := z
        exact ⟨l, xs, z1, z2, z3, zn, z4, z5, fr z6⟩
      | owt ds =>
        obtain ⟨l, xs, z1, z2, z3, zn, z4, z5, z6⟩ := z
        exact ⟨l, xs, z1, z2, z3, zn, z4, z5, fr z6⟩
      | ins p dx c fs =>
        obtain ⟨Ca, fv, z1, z2, z3, z4, z5, z6, z7, z8⟩ := z
        exact ⟨Ca, fv, z1, z2, z3, z4, z5, z6, z7, fr z8⟩
def FlPost0 (C : Ctx) {τ α β : Type} (F : Hp) (ψ : α → τ → Slots) (χ : β → τ → Slots) (ρ : τ → Slots) (Dn : Ends) : Fl α β → τ → Prop
  | .nx a, s => ∀ σ F' H', Same F F' → St8 C (ψ a s) σ F' H' → Dn.nx σ H'
  | .bk b, s => ∀ σ F' H', Same F F' → St8 C (χ b s) σ F' H' → Dn.bk σ H'
  | .rt d, s => ∀ v σ F' H', Same F F' → RtV C.T C.H0 F' H' v d → St8 C (ρ s) σ F' H' → Dn.rt v H'
/-- the clauses, ε what stands in the slots where they begin -/
def JH (C : Ctx) {α β : Type} (ε : Slots) (ψ : α → Slots) (χ : β → Slots) (ρ : Slots) (hds : List ExceptHandler) (l : List (Hd α β)) : Prop := Good C → ∃ cl : List Cl, ClsOk C.X hds cl ∧
  ∀ (Dn : Ends) (Fb : Hp) (c : Str) (d : D), Srv C (handle l c d) (FlPost0 C Fb (fun a (_ : Unit) => ψ a) (fun b _ => χ b) (fun _ => ρ) Dn) →
    ∀ (σ : L2.St) (cls : Value) (dd : Option Addr) (F H : Hp), Same Fb F → ErrOk C.T c d cls dd F H → St8 C ε σ F H → wCls C.X.K C.W Dn cl cls dd σ H
section
variable {C : Ctx} {α β : Type} {ε : Slots} {ψ : α → Slots} {χ : β → Slots} {ρ : Slots}
theorem jh_nil (h : SlotsLe C.eh ε) (hl : C.eh.length ≤ ε.length) : JH C ε ψ χ ρ [] [] := fun g => ⟨[], .nil, fun Dn Fb c d hs σ cls dd F H _ eo st => hs σ cls dd F H eo (st.le h hl)⟩
theorem St8.ofSuite {C : Ctx} {a : Addr} {oe : Obj} {pn : List (Addr × Obj)} {e : Slots} {σ : L2.St} {F H : Hp} (st : St8 (suiteCtx C a oe pn) e σ F H) : St8 C e σ F H := ⟨st.step, st.sub, st.env, st.len⟩
theorem jh_as (i : Nat) {k n : Str} {np p : Pos} {b : Stmt} {suite : List Stmt} {hds : List ExceptHandler} {l : List (Hd α β)} {f : D → Unit → R (Fl α β × Unit)} (hk : ExcN C.T k)
    (hsu : ∀ c d a dd oe pn, ErrC C.T c → (∀ Ca, C.T.cls c = some Ca → Zc (.ref Ca) (some dd) oe) → (∃ vs, oe.data = .fields vs) → JB (suiteCtx C a oe pn) (fun _ : Unit => ε.set i (some (.exc a dd c d))) (b :: suite) (fun a _ => ψ a) (fun b _ => χ b) (fun _ => ρ) (f d))
    (hψ : ∀ a, (ψ a)[i]?.join = none) (hχ : ∀ b, (χ b)[i]?.join = none) (r : JH C ε ψ χ ρ hds l) (hi : C.X.N[i]? = some n := by rfl) (hln : C.X.env.kindOf n = some .local := by rfl) (hg : Gl C.X k := by rfl) (hdb : (k == ("__debug__" : Str)) = false := by decide) :
    JH C ε ψ χ ρ (.ExceptHandler (some (.Name k np)) (some n) (b :: suite) p :: hds) (⟨k, fun d => f d ()⟩ :: l) := fun g => by
  obtain ⟨Ck, hm, hx⟩ := hk.ex
  obtain ⟨cl, h1, h2⟩ := r g
  refine ⟨⟨.ref Ck, some i, fun a cls d => fun Dn σ H => ∀ oe pn, Zc cls d oe → (∃ vs, oe.data = .fields vs) → wpS (C.X.suite a ((a, oe) :: pn)) (b :: suite) Dn σ H⟩ :: cl,
    .named ⟨hg, hdb, .inl (by rw [g.mg]; exact hm)⟩ hi hln (fun a oe cls d pn hz hf => ⟨fun pins s σ H Dn I h => ps_wp.run pins s σ H Dn I (h oe pn hz hf)⟩) h1, fun Dn Fb c d hs σ cls dd F H sm eo st => ?_⟩
  obtain ⟨he, Ca, ad, v, e1, e2, e3, e4, e5⟩ := id eo
  refine ⟨excSub c k, by rw [e2, g.K]; exact hx c Ca e1 he, fun yes a ha oe pn hz hf => ?_, fun no => h2 Dn Fb c d (by
    have z := hs
    unfold handle at z
    rw [if_neg (by rw [no]; decide)] at z
    exact z) σ cls dd F H sm eo st⟩
  have hs' : Srv C (noErr (f d ())) (FlPost0 C Fb (fun a (_ : Unit) => ψ a) (fun b _ => χ b) (fun _ => ρ) Dn) := by
    have z := hs
    unfold handle at z
    rw [if_pos yes] at z
    exact z
  have st' : St8 (suiteCtx C a oe pn) (ε.set i (some (.exc a ad c d))) (σ.set i (some (.ref a))) F H := by
    refine ⟨st.step, st.sub, ?_, by rw [List.length_set, List.length_set]; exact st.len⟩
    obtain ⟨A, q1, q2⟩ := st.env
    refine ⟨fun j => if j = i then [] else A j, fun j => ?_, fun j k a ha hb => ?_⟩
    · by_cases c' : j = i
      · subst c'
        rw [if_pos rfl]
        by_cases hlt : j < ε.length
        · rw [join_set_self hlt, join_set_self (Nat.lt_of_lt_of_le hlt st.len)]
          exact ⟨rfl, rfl, v, e4, e5⟩
        · rw [List.getElem?_eq_none (by simpa using hlt)]
          rfl
      · rw [join_set_ne (Ne.symm c'), join_set_ne (Ne.symm c'), if_neg c']
        exact q1 j
    · by_cases c' : j = i
      · simp [c'] at ha
      · by_cases c'' : k = i
        · simp [c''] at hb
        · rw [if_neg c'] at ha
          rw [if_neg c''] at hb
          exact q2 j k a ha hb
  have gone : ∀ {e : Slots} {σ' : L2.St} {F' H' : Hp}, e[i]?.join = none → St8 (suiteCtx C a oe pn) e σ' F' H' → St8 C e (σ'.set i none) F' H' := fun {e σ' F' H'} hn z => by
    refine ⟨z.step, z.sub, (z.env.setAny (i := i) (v := none)).le fun j sv hj => ?_, by rw [List.length_set]; exact z.len⟩
    by_cases c' : i = j
    · subst c'
      rw [hn] at hj
      cases hj
    · rw [join_set_ne c']
      exact hj
  refine hsu c d a ad oe pn he (fun Cb hb => ?_) hf (g.suite a oe pn) () _ F H _ st' ?_
  · rw [e1] at hb
    cases hb
    rw [e2, e3] at hz
    exact hz
  · cases q : f d () with
    | ok r =>
      obtain ⟨fl, ⟨⟩⟩ := r
      rw [q] at hs'
      cases fl with
      | nx x => exact fun σ' F' H' ee z => (show FlPost0 C Fb (fun a (_ : Unit) => ψ a) (fun b _ => χ b) (fun _ => ρ) Dn (.nx x) () from hs') _ F' H' (sm.trans (show Same F F' from ee)) (gone (hψ x) z)
      | bk x => exact fun σ' F' H' ee z => (show FlPost0 C Fb (fun a (_ : Unit) => ψ a) (fun b _ => χ b) (fun _ => ρ) Dn (.bk x) () from hs') _ F' H' (sm.trans (show Same F F' from ee)) (gone (hχ x) z)
      | rt x => exact fun w σ' F' H' ee rw' z => (show FlPost0 C Fb (fun a (_ : Unit) => ψ a) (fun b _ => χ b) (fun _ => ρ) Dn (.rt x) () from hs') w σ' F' H' (sm.trans (show Same F F' from ee)) rw' z.ofSuite
    | err c' d' => rw [q] at hs'; exact hs'.elim
    | bad => rw [q] at hs'; exact hs'.elim
theorem jh_bare {k : Str} {np p : Pos} {b : Stmt} {suite : List Stmt} {hds : List ExceptHandler} {l : List (Hd α β)} {f : Unit → R (Fl α β × Unit)} (hk : ExcN C.T k)
    (hsu : ∀ a oe pn, JB (suiteCtx C a oe pn) (fun _ : Unit => ε) (b :: suite) (fun a _ => ψ a) (fun b _ => χ b) (fun _ => ρ) f) (r : JH C ε ψ χ ρ hds l) (hg : Gl C.X k := by rfl) (hdb : (k == ("__debug__" : Str)) = false := by decide) :
    JH C ε ψ χ ρ (.ExceptHandler (some (.Name k np)) none (b :: suite) p :: hds) (⟨k, fun _ => f ()⟩ :: l) := fun g => by
  obtain ⟨Ck, hm, hx⟩ := hk.ex
  obtain ⟨cl, h1, h2⟩ := r g
  refine ⟨⟨.ref Ck, none, fun a cls d => fun Dn σ H => ∀ oe pn, wpS (C.X.suite a ((a, oe) :: pn)) (b :: suite) Dn σ H⟩ :: cl,
    .bare ⟨hg, hdb, .inl (by rw [g.mg]; exact hm)⟩ (fun a oe cls d pn hz hf => ⟨fun pins s σ H Dn I h => ps_wp.run pins s σ H Dn I (h oe pn)⟩) h1, fun Dn Fb c d hs σ cls dd F H sm eo st => ?_⟩
  obtain ⟨he, Ca, ad, v, e1, e2, e3, e4, e5⟩ := id eo
  refine ⟨excSub c k, by rw [e2, g.K]; exact hx c Ca e1 he, fun yes a ha oe pn => ?_, fun no => h2 Dn Fb c d (by
    have z := hs
    unfold handle at z
    rw [if_neg (by rw [no]; decide)] at z
    exact z) σ cls dd F H sm eo st⟩
  have hs' : Srv C (noErr (f ())) (FlPost0 C Fb (fun a (_ : Unit) => ψ a) (fun b _ => χ b) (fun _ => ρ) Dn) := by
    have z := hs
    unfold handle at z
    rw [if_pos yes] at z
    exact z
  refine hsu a oe pn (g.suite a oe pn) () σ F H Dn ⟨st.step, st.sub, st.env, st.len⟩ ?_
  cases q : f () with
  | ok r =>
    obtain ⟨fl, ⟨⟩⟩ := r
    rw [q] at hs'
    cases fl with
    | nx x => exact fun σ' F' H' ee z => (show FlPost0 C Fb (fun a (_ : Unit) => ψ a) (fun b _ => χ b) (fun _ => ρ) Dn (.nx x) () from hs') _ F' H' (sm.trans (show Same F F' from ee)) z.ofSuite
    | bk x => exact fun σ' F' H' ee z => (show FlPost0 C Fb (fun a (_ : Unit) => ψ a) (fun b _ => χ b) (fun _ => ρ) Dn (.bk x) () from hs') _ F' H' (sm.trans (show Same F F' from ee)) z.ofSuite
    | rt x => exact fun w σ' F' H' ee rw' z => (show FlPost0 C Fb (fun a (_ : Unit) => ψ a) (fun b _ => χ b) (fun _ => ρ) Dn (.rt x) () from hs') w σ' F' H' (sm.trans (show Same F F' from ee)) rw' z.ofSuite
  | err c' d' => rw [q] at hs'; exact hs'.elim
  | bad => rw [q] at hs'; exact hs'.elim
/-- err.at within a clause -/
theorem je_at (i : Nat) {τ : Type} {φ : τ → Slots} {a dd : Addr} {oe : Obj} {pn : List (Addr × Obj)} {c n : Str} {d : D} {p1 pos : Pos} (he : ErrC C.T c) (hz : ∀ Ca, C.T.cls c = some Ca → Zc (.ref Ca) (some dd) oe) (hf : ∃ vs, oe.data = .fields vs)
    (hi : ∀ s, (φ s)[i]?.join = some (.exc a dd c d) := by intro _; rfl) (hN : C.X.N[i]? = some n := by rfl) (hs : Vis C.X.env.scope n := by first | exact Or.inl rfl | exact Or.inr (Or.inl rfl) | exact Or.inr (Or.inr rfl)) (hd : (n == ("__debug__" : Str)) = false := by decide) (hcd : (n == ("__classdict__" : Str)) = false := by decide)
    (hb : attributeBase (.Name n p1) "at" C.X.env (eval (.Name n p1) C.X.env) = eval (.Name n p1) C.X.env := by rfl) : JE (suiteCtx C a oe pn) φ (.Attribute (.Name n p1) "at" pos) (fun s => .ok (d, s)) := fun g s σ F H Q st h => by
  obtain ⟨Ca, fI, qual, e1, sup⟩ := he.ex
  have sup' : PySem.SupX.SupTxt C.X.prog C.X.K C.X.mg c qual Ca fI := by
    have k1 : C.X.prog = C.T.P := g.pr
    have k2 : C.X.K = C.T.K := g.K
    have k3 : C.X.mg = C.T.mg := g.mg
    rw [k1, k2, k3]
    exact sup
  obtain ⟨A, q1, _⟩ := id st.env
  have q := q1 i
  rw [hi s] at q
  obtain ⟨_, ev, y, hF, ry⟩ := q
  have ev' : σ[i]? = some (some (.ref a)) := by
    cases z : σ[i]? with
    | none => rw [z] at ev; cases ev
    | some o => rw [z] at ev; rw [show o = some (V.ref a) from ev]
  exact ⟨_, pe_at sup' (hz Ca e1) hf (pe_var hN hs hd hcd) hb, _, ev', rfl, rfl, dd, y, rfl, st.sub _ _ hF, h y F H (Same.refl F) ry st⟩
end
theorem jb_try {C : Ctx} {τ α α' β : Type} {φ : τ → Slots} {ψ : α → τ → Slots} {χ : β → τ → Slots} {ρ : τ → Slots} {rest body : List Stmt} {pos : Pos} {hd0 : ExceptHandler} {hds : List ExceptHandler} (ε : τ → Slots) (ψ1 : α' → τ → Slots) {mb : τ → Unit → R (Fl α' β × Unit)} {hs : τ → List (Hd α' β)} {k : α' → τ → R (Fl α β × τ)}
    (hb : ∀ s W pn xe F H, JB (trCtx C pn xe W (ε s) F H) (fun _ : Unit => φ s) body (fun a _ => ψ1 a s) (fun b _ => χ b s) (fun _ => ρ s) (mb s))
    (hh : ∀ s, JH C (ε s) (fun a => ψ1 a s) (fun b => χ b s) (ρ s) (hd0 :: hds) (hs s)) (hk : ∀ a, JB C (ψ1 a) rest ψ χ ρ (k a))
    (hst : C.X.stack = C.X.env :: C.X.outer := by rfl) (hf : C.X.env.frame = some C.X.env.locals := by rfl) :
    JB C φ (.Try body (hd0 :: hds) [] [] pos :: rest) ψ χ ρ (fun s => flb (tryR (mb s ()) (hs s) s) k) := fun g s σ F H Dn st h => by
  obtain ⟨cl, h1, h2⟩ := hh s g
  refine ⟨_, pss_cons (ps_try (tb := fun W => fun Dn σ H => ∀ pn xe, Takes (C.X.tr pn xe) W → PassesOwn (model C.X.prog C.X.w) C.X.A C.X.env xe → wpS (C.X.tr pn xe) body Dn σ H) hst hf g.nd g.tk
    (fun W pn xe tk ow => ⟨fun pins s σ H Dn I h => ps_wp.run pins s σ H Dn I (h pn xe tk ow)⟩) h1) ps_wp, fun pn xe tk ow => ?_⟩
  have hF := h.flb
  have nxt : ∀ a, Srv C (k a s) (FlPost C F ψ χ ρ Dn) → ∀ σ' F' H', Same F F' → St8 C (ψ1 a s) σ' F' H' → wpS C.X rest Dn σ' H' := fun a z σ' F' H' ee st' => hk a g s σ' F' H' Dn st' (z.mono fun _ _ y => FlPost.mono ee y)
  have post : ∀ fl : Fl α' β, FlK C k (FlPost C F ψ χ ρ Dn) fl s → FlPost0 C F (fun a (_ : Unit) => ψ1 a s) (fun b _ => χ b s) (fun _ => ρ s) { Dn with nx := wpS C.X rest Dn } fl () := fun fl z => by
    cases fl with
    | nx a => exact fun σ' F' H' ee st' => nxt a z σ' F' H' ee st'
    | bk b => exact fun σ' F' H' ee st' => (show FlPost C F ψ χ ρ Dn (.bk b) s from z) σ' F' H' (st.fx.trans ee) st'
    | rt d => exact fun v σ' F' H' ee rv st' => (show FlPost C F ψ χ ρ Dn (.rt d) s from z) v σ' F' H' (st.fx.trans ee) rv st'
  refine hb s _ pn xe F H (g.tr tk ow) () σ F H _ st.restart ?_
  cases q : mb s () with
  | ok r =>
    obtain ⟨fl, ⟨⟩⟩ := r
    rw [q] at hF
    have z := post fl hF
    cases fl with
    | nx a => exact fun σ' F' H' ee st' => z σ' F' H' (show Same F F' from ee) (st.back st')
    | bk b => exact fun σ' F' H' ee st' => z σ' F' H' (show Same F F' from ee) (st.back st')
    | rt d => exact fun v σ' F' H' ee rv st' => z v σ' F' H' (show Same F F' from ee) (rv.weak st.step.dom) (st.back st')
  | err c d =>
    rw [q] at hF
    have hh' : Srv C (handle (hs s) c d) (FlPost0 C F (fun a (_ : Unit) => ψ1 a s) (fun b _ => χ b s) (fun _ => ρ s) { Dn with nx := wpS C.X rest Dn }) := by
      have z : Srv C ((handle (hs s) c d).bind fun p => .ok (p.1, s)) (FlK C k (FlPost C F ψ χ ρ Dn)) := hF
      exact z.bind.mono fun fl _ y => post fl y
    exact fun σ' cls dd F' H' eo st' => h2 _ F c d hh' σ' cls dd F' H' st'.step.fz eo (st.back st')
  | bad => rw [q] at hF; exact hF.elim
end Pv
set_option Elab.async false
set_option linter.all false
set_option maxRecDepth 100000
/-! Pv7: operations and built-in functions on plain data. -/
namespace Pv
open PySem PySem.Spec PyProof.Rows L2

theorem opd_mk {C : Ctx} {op : Value → Value → Sem Value} {g : D → D → R D} (h : Good C → ∀ (F H : Hp) (Q : VK) (vx vy : V) (dx dy : D), Same F H → Rp C.T F vx dx → Rp C.T F vy dy →
    Srv1 C (g dx dy) (fun d => ∀ v F' H', Grow F H F' H' → Same F' H' → Rp C.T F' v d → Q v H') → ∃ r, OpR C.X op r ∧ r vx vy H Q) : OpD C op g := fun gd =>
  ⟨fun x y H Q => ∃ r, OpR C.X op r ∧ r x y H Q, fun pins s σ H x y v u Q I rx ry ⟨r, hr, q⟩ => hr pins s σ H x y v u Q I rx ry q, fun F H Q vx vy dx dy => h gd F H Q vx vy dx dy⟩
/-- what lies already -/
theorem now {C : Ctx} {d : D} {K : D → Prop} (h : Srv1 C (.ok d) K) : K d := h
theorem giveOld {C : Ctx} {F H : Hp} {Q : VK} {v : V} {d : D} (sub : Same F H) (h : ∀ v F' H', Grow F H F' H' → Same F' H' → Rp C.T F' v d → Q v H') (r : Rp C.T F v d) : Q v H := h v F H (Step.refl _ _ _) sub r
theorem giveNew {C : Ctx} {F H : Hp} {Q : VK} {p : Addr} {o : HO} {d : D} (sub : Same F H) (h : ∀ v F' H', Grow F H F' H' → Same F' H' → Rp C.T F' v d → Q v H') (hp : H p = none) (r : Same F (upd F p o) → (upd F p o) p = some o → Rp C.T (upd F p o) (.ref p) d) : Q (.ref p) (upd H p o) :=
  h _ _ _ (grow_new sub hp) (sub_new sub) (r (grow_new sub hp).fz upd_same)

/-- a value where a test stands -/
def chk {α : Type} (b : Bool) (a : α) : R α := if b = true then .ok a else .bad
theorem Srv1.chk {C : Ctx} {α : Type} {b : Bool} {a : α} {K : α → Prop} (h : Srv1 C (Pv.chk b a) K) : b = true ∧ K a := by
  unfold Pv.chk at h
  by_cases c : b = true
  · rw [if_pos c] at h
    exact ⟨c, h⟩
  · rw [if_neg c] at h
    exact h.elim
@[simp] theorem chk_true {α : Type} (a : α) : chk true a = .ok a := rfl
theorem chk_ok {α : Type} {b : Bool} {a : α} (h : b = true) : chk b a = .ok a := by rw [h]; rfl
theorem and2 {a b : Bool} (h : (a && b) = true) : a = true ∧ b = true := (Bool.and_eq_true _ _).mp h
/-! ### numbers -/
def smallI (i : Int) : Bool := decide (-(2 ^ 64) < i) && decide (i < 2 ^ 64)
def opAdd : D → D → R D
  | .int i, .int j => .ok (.int (i + j))
  | .str i, .str j => chk (decide (i.length + j.length ≤ 1000000)) (.str (i ++ j))
  | .lst xs, .lst ys => chk (decide (xs.length + ys.length ≤ 1000000)) (.lst (xs ++ ys))
  | .tup xs, .tup ys => chk (decide (xs.length + ys.length ≤ 1000000)) (.tup (xs ++ ys))
  | _, _ => .bad
def opSub : D → D → R D
  | .int i, .int j => .ok (.int (i - j))
  | _, _ => .bad
def opMul : D → D → R D
  | .int i, .int j => chk (smallI i || smallI j) (.int (i * j))
  | .lst xs, .int k => chk (decide (k < 1000000) && decide (0 ≤ k) && decide (xs.length * k.toNat ≤ 1000000)) (.lst (List.replicate k.toNat xs).flatten)
  | _, _ => .bad
def opDiv : D → D → R D
  | .int i, .int j => chk (decide (0 < j) && decide (j < 1073741824)) (.int (i / j))
  | _, _ => .bad
def opMod : D → D → R D
  | .int i, .int j => chk (decide (0 < j)) (.int (i % j))
  | _, _ => .bad
def opPow : D → D → R D
  | .int i, .int j => chk (decide (0 ≤ j) && decide (j ≤ 1000) && decide (i.natAbs < 2 ^ 64)) (.int (i ^ j.toNat))
  | _, _ => .bad
theorem rep_rps {T : Txt} {F : Hp} {xs : List V} {ds : List D} (r : Rps T F xs ds) : ∀ k : Nat, Rps T F (List.replicate k xs).flatten (List.replicate k ds).flatten
  | 0 => .nil
  | k + 1 => by
    rw [List.replicate_succ, List.replicate_succ, List.flatten_cons, List.flatten_cons]
    exact r.append (rep_rps r k)
section
variable {C : Ctx}
theorem od_add : OpD C (binaryOp .Add) opAdd := opd_mk fun g F H Q vx vy dx dy sub rx ry h => by
  cases rx with
  | int i =>
    cases ry with
    | int j => exact ⟨_, op_add, i, j, rfl, rfl, giveOld sub h (.int _)⟩
    | _ => exact h.elim
  | str i =>
    cases ry with
    | str j =>
      obtain ⟨c, h⟩ := (show Srv1 C (chk _ _) _ from h).chk
      exact ⟨_, op_add_str, i, j, rfl, rfl, sz_small (of_decide_eq_true c), giveOld sub h (.str _)⟩
    | _ => exact h.elim
  | @lst a xs ds ha ra =>
    cases ry with
    | @lst b ys es hb rb =>
      obtain ⟨c, h⟩ := (show Srv1 C (chk _ _) _ from h).chk
      exact ⟨_, op_cat, a, b, xs, ys, rfl, rfl, sub _ _ ha, sub _ _ hb, sz_small (by rw [ra.length, rb.length]; exact of_decide_eq_true c), fun p hp => giveNew sub h hp fun s e => .lst e ((ra.append rb).mono s)⟩
    | _ => exact h.elim
  | @tup a xs ds ha ra =>
    cases ry with
    | @tup b ys es hb rb =>
      obtain ⟨c, h⟩ := (show Srv1 C (chk _ _) _ from h).chk
      refine ⟨_, op_catA, a, b, xs, ys, rfl, rfl, .inl (.inl (sub _ _ ha)), .inl (.inl (sub _ _ hb)), sz_small (by rw [ra.length, rb.length]; exact of_decide_eq_true c), fun e => ?_, fun _ e => ?_, fun _ _ p hp => giveNew sub h hp fun s e => .tup e ((ra.append rb).mono s)⟩
      · subst e
        cases ra
        exact giveOld sub h (.tup hb rb)
      · subst e
        cases rb
        refine giveOld sub h ?_
        rw [List.append_nil]
        exact .tup ha ra
    | _ => exact h.elim
  | _ => exact h.elim
theorem od_sub : OpD C (binaryOp .Sub) opSub := opd_mk fun g F H Q vx vy dx dy sub rx ry h => by
  cases rx with
  | int i =>
    cases ry with
    | int j => exact ⟨_, op_sub, i, j, rfl, rfl, giveOld sub h (.int _)⟩
    | _ => exact h.elim
  | _ => exact h.elim
theorem smallI_of {i : Int} (h : smallI i = true) : -(2 ^ 64) < i ∧ i < 2 ^ 64 := ⟨of_decide_eq_true (and2 h).1, of_decide_eq_true (and2 h).2⟩
theorem od_mul : OpD C (binaryOp .Mult) opMul := opd_mk fun g F H Q vx vy dx dy sub rx ry h => by
  cases rx with
  | int i =>
    cases ry with
    | int j =>
      obtain ⟨c, h⟩ := (show Srv1 C (chk _ _) _ from h).chk
      exact ⟨_, op_mul, i, j, rfl, rfl, ((Bool.or_eq_true _ _).mp c).imp smallI_of smallI_of, giveOld sub h (.int _)⟩
    | _ => exact h.elim
  | @lst a xs ds ha ra =>
    cases ry with
    | int k =>
      obtain ⟨c, h⟩ := (show Srv1 C (chk _ _) _ from h).chk
      have c1 := of_decide_eq_true (and2 (and2 c).1).1
      have c2 := of_decide_eq_true (and2 (and2 c).1).2
      have c3 := of_decide_eq_true (and2 c).2
      exact ⟨_, op_rep, a, k, xs, rfl, rfl, sub _ _ ha, by omega, by omega, sz_small (by rw [ra.length]; exact c3), fun p hp => giveNew sub h hp fun s e => .lst e ((rep_rps ra _).mono s)⟩
    | _ => exact h.elim
  | _ => exact h.elim
theorem od_div : OpD C (binaryOp .FloorDiv) opDiv := opd_mk fun g F H Q vx vy dx dy sub rx ry h => by
  cases rx with
  | int i =>
    cases ry with
    | int j =>
      obtain ⟨c, h⟩ := (show Srv1 C (chk _ _) _ from h).chk
      exact ⟨_, op_fdiv, i, j, rfl, rfl, ⟨of_decide_eq_true (and2 c).1, of_decide_eq_true (and2 c).2⟩, giveOld sub h (.int _)⟩
    | _ => exact h.elim
  | _ => exact h.elim
theorem od_mod : OpD C (binaryOp .Mod) opMod := opd_mk fun g F H Q vx vy dx dy sub rx ry h => by
  cases rx with
  | int i =>
    cases ry with
    | int j =>
      obtain ⟨c, h⟩ := (show Srv1 C (chk _ _) _ from h).chk
      exact ⟨_, op_mod, i, j, rfl, rfl, of_decide_eq_true c, giveOld sub h (.int _)⟩
    | _ => exact h.elim
  | _ => exact h.elim
theorem od_pow : OpD C (binaryOp .Pow) opPow := opd_mk fun g F H Q vx vy dx dy sub rx ry h => by
  cases rx with
  | int i =>
    cases ry with
    | int j =>
      obtain ⟨c, h⟩ := (show Srv1 C (chk _ _) _ from h).chk
      exact ⟨_, op_pow, i, j, rfl, rfl, ⟨of_decide_eq_true (and2 (and2 c).1).1, Int.le_trans (of_decide_eq_true (and2 (and2 c).1).2) (by decide), of_decide_eq_true (and2 c).2⟩, giveOld sub h (.int _)⟩
    | _ => exact h.elim
  | _ => exact h.elim
/-! ### comparisons -/
def opLt : D → D → R D
  | .int i, .int j => .ok (.bl (decide (i < j)))
  | _, _ => .bad
def opLe : D → D → R D
  | .int i, .int j => .ok (.bl (decide (i ≤ j)))
  | _, _ => .bad
def opGt : D → D → R D
  | .int i, .int j => .ok (.bl (decide (j < i)))
  | _, _ => .bad
def opGe : D → D → R D
  | .int i, .int j => .ok (.bl (decide (j ≤ i)))
  | _, _ => .bad
theorem od_lt : OpD C (compareOp .Lt) opLt := opd_mk fun g F H Q vx vy dx dy sub rx ry h => by
  cases rx with
  | int i =>
    cases ry with
    | int j => exact ⟨_, op_lt, i, j, rfl, rfl, giveOld sub h (.bl _)⟩
    | _ => exact h.elim
  | _ => exact h.elim
theorem od_le : OpD C (compareOp .LtE) opLe := opd_mk fun g F H Q vx vy dx dy sub rx ry h => by
  cases rx with
  | int i =>
    cases ry with
    | int j => exact ⟨_, op_le, i, j, rfl, rfl, giveOld sub h (.bl _)⟩
    | _ => exact h.elim
  | _ => exact h.elim
theorem od_gt : OpD C (compareOp .Gt) opGt := opd_mk fun g F H Q vx vy dx dy sub rx ry h => by
  cases rx with
  | int i =>
    cases ry with
    | int j => exact ⟨_, op_gt, i, j, rfl, rfl, giveOld sub h (.bl _)⟩
    | _ => exact h.elim
  | _ => exact h.elim
theorem od_ge : OpD C (compareOp .GtE) opGe := opd_mk fun g F H Q vx vy dx dy sub rx ry h => by
  cases rx with
  | int i =>
    cases ry with
    | int j => exact ⟨_, op_ge, i, j, rfl, rfl, giveOld sub h (.bl _)⟩
    | _ => exact h.elim
  | _ => exact h.elim
def isNon : D → Bool
  | .non => true
  | _ => false
def opIs : D → D → R D
  | d, .non => .ok (.bl (isNon d))
  | _, _ => .bad
def opIsNot : D → D → R D
  | d, .non => .ok (.bl (!isNon d))
  | _, _ => .bad
theorem isNon_rp {T : Txt} {F : Hp} {v : V} {d : D} (r : Rp T F v d) : decide (v = V.non) = isNon d := by
  cases r <;> rfl
theorem od_is : OpD C (compareOp .Is) opIs := opd_mk fun g F H Q vx vy dx dy sub rx ry h => by
  cases ry with
  | non => exact ⟨_, op_isN, rfl, by rw [isNon_rp rx]; exact giveOld sub (by cases dx <;> exact h) (.bl _)⟩
  | _ => cases dx <;> exact h.elim
theorem od_isnot : OpD C (compareOp .IsNot) opIsNot := opd_mk fun g F H Q vx vy dx dy sub rx ry h => by
  cases ry with
  | non => exact ⟨_, op_notN, rfl, by rw [isNon_rp rx]; exact giveOld sub (by cases dx <;> exact h) (.bl _)⟩
  | _ => cases dx <;> exact h.elim

/-! ### == and != -/
end
mutual
def toP : D → Option PyData
  | .non => some .none
  | .bl b => some (.bool b)
  | .int i => some (.int i)
  | .str s => some (.str s)
  | .tup xs => (toPs xs).map .tuple
  | .lst xs => (toPs xs).map .list
  | .dct _ => none
  | .obj _ _ => none
  | .cache => none
  | .scr _ => none
  | .fre _ => none
def toPs : List D → Option (List PyData)
  | [] => some []
  | x :: xs => match toP x, toPs xs with
    | some p, some ps => some (p :: ps)
    | _, _ => none
end
theorem toP_tup {ds : List D} {p : PyData} (e : toP (.tup ds) = some p) : ∃ ps, toPs ds = some ps ∧ p = .tuple ps := by
  rw [toP] at e
  obtain ⟨ps, h1, h2⟩ := Option.map_eq_some_iff.mp e
  exact ⟨ps, h1, h2.symm⟩
theorem toP_lst {ds : List D} {p : PyData} (e : toP (.lst ds) = some p) : ∃ ps, toPs ds = some ps ∧ p = .list ps := by
  rw [toP] at e
  obtain ⟨ps, h1, h2⟩ := Option.map_eq_some_iff.mp e
  exact ⟨ps, h1, h2.symm⟩
theorem toPs_cons {d : D} {ds : List D} {ps : List PyData} (e : toPs (d :: ds) = some ps) : ∃ p r, toP d = some p ∧ toPs ds = some r ∧ ps = p :: r := by
  rw [toPs] at e
  cases q : toP d with
  | none => rw [q] at e; cases e
  | some p =>
    cases q' : toPs ds with
    | none => rw [q, q'] at e; cases e
    | some r => rw [q, q'] at e; cases e; exact ⟨p, r, rfl, rfl, rfl⟩
theorem dp_all {T : Txt} {F H : Hp} (sub : Same F H) {vs : List V} {ds : List D} : Rps T F vs ds → (∀ v d p, d ∈ ds → Rp T F v d → toP d = some p → Dp T.K H v p) → ∀ ps, toPs ds = some ps → DpAll T.K H vs ps := by
  induction ds generalizing vs with
  | nil =>
    intro r _ ps e
    cases r
    rw [toPs] at e
    cases e
    exact .nil
  | cons d ds ih =>
    intro r h ps e
    cases r with
    | cons rv rr =>
      obtain ⟨p, q, e1, e2, e3⟩ := toPs_cons e
      subst e3
      exact .cons (h _ d p (List.Mem.head _) rv e1) (ih rr (fun v d p hd => h v d p (List.Mem.tail _ hd)) q e2)
theorem Rp.dp {T : Txt} {F H : Hp} (sub : Same F H) : ∀ (d : D) {v : V} {p : PyData}, Rp T F v d → toP d = some p → Dp T.K H v p
  | .non, _, _, r, e => by cases r; rw [toP] at e; cases e; exact .non
  | .bl b, _, _, r, e => by cases r; rw [toP] at e; cases e; exact .bl b
  | .int b, _, _, r, e => by cases r; rw [toP] at e; cases e; exact .int b
  | .str b, _, _, r, e => by cases r; rw [toP] at e; cases e; exact .str b
  | .tup ds, _, _, r, e => by
    obtain ⟨ps, e1, e2⟩ := toP_tup e
    subst e2
    cases r with
    | tup h rr => exact .tup (.inl (.inl (sub _ _ h))) (dp_all sub rr (fun v d p hd rv ep => Rp.dp sub d rv ep) ps e1)
  | .lst ds, _, _, r, e => by
    obtain ⟨ps, e1, e2⟩ := toP_lst e
    subst e2
    cases r with
    | lst h rr => exact .lst (.inl (.inl (sub _ _ h))) (dp_all sub rr (fun v d p hd rv ep => Rp.dp sub d rv ep) ps e1)
  | .dct _, _, _, _, e => by rw [toP] at e; cases e
  | .obj _ _, _, _, _, e => by rw [toP] at e; cases e
  | .cache, _, _, _, e => by rw [toP] at e; cases e
  | .scr _, _, _, _, e => by rw [toP] at e; cases e
  | .fre _, _, _, _, e => by rw [toP] at e; cases e
termination_by d => sizeOf d
decreasing_by
  all_goals simp_wf
  all_goals (have := List.sizeOf_lt_of_mem hd; omega)
def opEq (a b : D) : R D := match a, b with
  | .str x, .str y => .ok (.bl (decide (x = y)))
  | a, b => match toP a, toP b with
  | some p, some q => chk (SeqAt.shaped p && SeqAt.shaped q) (.bl (PyData.eqv p q))
  | _, _ => .bad
def opNe (a b : D) : R D := match a, b with
  | .str x, .str y => .ok (.bl (!decide (x = y)))
  | a, b => match toP a, toP b with
  | some p, some q => chk (SeqAt.shaped p && SeqAt.shaped q) (.bl (!PyData.eqv p q))
  | _, _ => .bad
def flatD : D → Bool
  | .non => true
  | .bl _ => true
  | .int _ => true
  | .str _ => true
  | _ => false
def eqF : D → D → Bool
  | .non, .non => true
  | .bl a, .bl b => a == b
  | .bl a, .int b => (if a then 1 else 0) == b
  | .int a, .bl b => a == (if b then 1 else 0)
  | .int a, .int b => a == b
  | .str a, .str b => a == b
  | _, _ => false
def opIn (a b : D) : R D := (asItems b).bind fun ds => chk (flatD a && ds.all flatD) (.bl (ds.any fun y => eqF y a))
def opNotIn (a b : D) : R D := (asItems b).bind fun ds => chk (flatD a && ds.all flatD) (.bl (!ds.any fun y => eqF y a))
theorem flat_rp {T : Txt} {F : Hp} {v : V} {d : D} (r : Rp T F v d) (h : flatD d = true) : flatV v = true := by
  cases r <;> first | rfl | cases h
theorem flats_rp {T : Txt} {F : Hp} : ∀ {vs : List V} {ds : List D}, Rps T F vs ds → ds.all flatD = true → vs.all flatV = true
  | _, _, .nil, _ => rfl
  | _, _, .cons h r, e => by
    rw [List.all_cons, Bool.and_eq_true] at e
    rw [List.all_cons, flat_rp h e.1, flats_rp r e.2]
    rfl
theorem eqF_rp {T : Txt} {F : Hp} {v w : V} {d e : D} (r : Rp T F v d) (s : Rp T F w e) (h : flatD d = true) (k : flatD e = true) : eqV v w = eqF d e := by
  cases r <;> cases s <;> first | rfl | cases h | cases k
theorem inF_rp {T : Txt} {F : Hp} {w : V} {e : D} (s : Rp T F w e) (k : flatD e = true) : ∀ {vs : List V} {ds : List D}, Rps T F vs ds → ds.all flatD = true → inV w vs = ds.any fun y => eqF y e
  | _, _, .nil, _ => rfl
  | _, _, .cons (vs := vs) h r, q => by
    rw [List.all_cons, Bool.and_eq_true] at q
    rw [List.any_cons, ← eqF_rp h s q.1 k, ← inF_rp s k r q.2]
    rfl
section
variable {C : Ctx}
theorem Good.u64 {C : Ctx} (g : Good C) (hh : C.hot = false) : C.X.A.units + 64 < cLine := (g.room hh).r.units
theorem od_eq (hh : C.hot = false := by rfl) : OpD C (compareOp .Eq) opEq := opd_mk fun g F H Q vx vy dx dy sub rx ry h => by
  unfold opEq at h
  split at h
  · rename_i x y
    cases rx; cases ry
    exact ⟨_, op_eq, rfl, by rw [show decide (V.str x = V.str y) = decide (x = y) by simp]; exact giveOld sub h (.bl _)⟩
  · rename_i x1 x2 _
    skip
    cases q : toP dx with
    | none => rw [q] at h; exact h.elim
    | some p =>
      cases q' : toP dy with
      | none => rw [q, q'] at h; exact h.elim
      | some p' =>
        rw [q, q'] at h
        obtain ⟨c, h⟩ := (show Srv1 C (chk _ _) _ from h).chk
        exact ⟨_, op_eqD (g.u64 hh), p, p', by rw [g.K]; exact Rp.dp sub _ rx q, by rw [g.K]; exact Rp.dp sub _ ry q', (and2 c).1, (and2 c).2, giveOld sub h (.bl _)⟩
theorem od_ne (hh : C.hot = false := by rfl) : OpD C (compareOp .NotEq) opNe := opd_mk fun g F H Q vx vy dx dy sub rx ry h => by
  unfold opNe at h
  split at h
  · rename_i x y
    cases rx; cases ry
    exact ⟨_, op_ne, rfl, by rw [show decide (V.str x = V.str y) = decide (x = y) by simp]; exact giveOld sub h (.bl _)⟩
  · rename_i x1 x2 _
    skip
    cases q : toP dx with
    | none => rw [q] at h; exact h.elim
    | some p =>
      cases q' : toP dy with
      | none => rw [q, q'] at h; exact h.elim
      | some p' =>
        rw [q, q'] at h
        obtain ⟨c, h⟩ := (show Srv1 C (chk _ _) _ from h).chk
        exact ⟨_, op_neD (g.u64 hh), p, p', by rw [g.K]; exact Rp.dp sub _ rx q, by rw [g.K]; exact Rp.dp sub _ ry q', (and2 c).1, (and2 c).2, giveOld sub h (.bl _)⟩
theorem seq_items {T : Txt} {F H : Hp} {v : V} {d : D} {ds : List D} (sub : Same F H) (r : Rp T F v d) (e : asItems d = .ok ds) : ∃ p xs, v = .ref p ∧ (SqL T.K H p xs ∨ SqT T.K H p xs) ∧ Rps T F xs ds := by
  cases r with
  | tup h rr => cases e; exact ⟨_, _, rfl, .inr (.inl (.inl (sub _ _ h))), rr⟩
  | lst h rr => cases e; exact ⟨_, _, rfl, .inl (.inl (.inl (sub _ _ h))), rr⟩
  | scr h => cases e; exact ⟨_, _, rfl, .inl (sql_same sub h.sql), Rps.ints _⟩
  | _ => cases e
theorem Srv1.bind {α β : Type} {r : R α} {f : α → R β} {K : β → Prop} (h : Srv1 C (r.bind f) K) : Srv1 C r (fun a => Srv1 C (f a) K) := by
  cases r with
  | ok p => exact h
  | err c d => exact h
  | bad => exact h
theorem asItems_ne {d : D} {c : Str} {e : D} : asItems d ≠ .err c e := by cases d <;> exact fun z => nomatch z
theorem od_in : OpD C (compareOp .In) opIn := opd_mk fun g F H Q vx vy dx dy sub rx ry h => by
  have h := Srv1.bind h
  cases q : asItems dy with
  | bad => rw [q] at h; exact h.elim
  | err c e => exact absurd q asItems_ne
  | ok ds =>
    rw [q] at h
    obtain ⟨c, h⟩ := (show Srv1 C (chk _ _) _ from h).chk
    obtain ⟨p, xs, rfl, hs, rr⟩ := seq_items sub ry q
    exact ⟨_, op_in_seq, p, xs, rfl, by rw [g.K]; exact hs, flat_rp rx (and2 c).1, flats_rp rr (and2 c).2, by rw [inF_rp rx (and2 c).1 rr (and2 c).2]; exact giveOld sub h (.bl _)⟩
theorem od_notIn : OpD C (compareOp .NotIn) opNotIn := opd_mk fun g F H Q vx vy dx dy sub rx ry h => by
  have h := Srv1.bind h
  cases q : asItems dy with
  | bad => rw [q] at h; exact h.elim
  | err c e => exact absurd q asItems_ne
  | ok ds =>
    rw [q] at h
    obtain ⟨c, h⟩ := (show Srv1 C (chk _ _) _ from h).chk
    obtain ⟨p, xs, rfl, hs, rr⟩ := seq_items sub ry q
    exact ⟨_, op_notIn_seq, p, xs, rfl, by rw [g.K]; exact hs, flat_rp rx (and2 c).1, flats_rp rr (and2 c).2, by rw [inF_rp rx (and2 c).1 rr (and2 c).2]; exact giveOld sub h (.bl _)⟩
end
end Pv
set_option Elab.async false
set_option linter.all false
set_option maxRecDepth 100000
/-! Pv8: items, slices, built-in functions, isinstance, repr. -/
namespace Pv
open PySem PySem.Spec PyProof.Rows L2

/-! ### items -/
theorem atI_rps {T : Txt} {F : Hp} {xs : List V} {ds : List D} {i : Int} {d : D} (r : Rps T F xs ds) (h : atI ds i = some d) : ∃ v, atI xs i = some v ∧ Rp T F v d := by
  unfold atI at h ⊢
  rw [r.length]
  cases q : ixN ds.length i with
  | none => rw [q] at h; cases h
  | some j =>
    rw [q] at h
    exact r.get h
def opt {α : Type} : Option α → R α
  | some a => .ok a
  | none => .bad
theorem Srv1.opt {C : Ctx} {α : Type} {o : Option α} {K : α → Prop} (h : Srv1 C (Pv.opt o) K) : ∃ a, o = some a ∧ K a := by
  cases o with
  | none => exact h.elim
  | some a => exact ⟨a, rfl, h⟩
def opIx : D → D → R D
  | .lst xs, .int i => opt (atI xs i)
  | .tup xs, .int i => opt (atI xs i)
  | .scr ns, .int i => opt ((atI ns i).map .int)
  | .str z, .int i => (chk (decide (z.length ≤ 1000000)) ()).bind fun _ => opt ((atI z.cps.toList i).map fun c => D.str ⟨#[c]⟩)
  | _, _ => .bad
theorem atI_map {α β : Type} (f : α → β) (xs : List α) (i : Int) : atI (xs.map f) i = (atI xs i).map f := by
  unfold atI
  rw [List.length_map]
  cases ixN xs.length i with
  | none => rfl
  | some j => exact List.getElem?_map
section
variable {C : Ctx} {τ : Type} {φ : τ → Slots}
theorem ix_ok (g : Good C) {F H : Hp} {Q : VK} {vx vy : V} {dx dy : D} (sub : Same F H) (rx : Rp C.T F vx dx) (ry : Rp C.T F vy dy) (h : Srv1 C (opIx dx dy) (fun d => ∀ v F' H', Grow F H F' H' → Same F' H' → Rp C.T F' v d → Q v H')) : rIx C.X.K vx vy H Q := by
  rw [g.K]
  cases ry with
  | int i =>
    cases rx with
    | lst hl rl =>
      obtain ⟨d, e, k⟩ := Srv1.opt (show Srv1 C (opt _) _ from h)
      obtain ⟨v, e', r⟩ := atI_rps rl e
      exact .inl ⟨_, _, i, v, rfl, rfl, .inl (.inl (sub _ _ hl)), e', giveOld sub k r⟩
    | tup hl rl =>
      obtain ⟨d, e, k⟩ := Srv1.opt (show Srv1 C (opt _) _ from h)
      obtain ⟨v, e', r⟩ := atI_rps rl e
      exact .inr (.inl ⟨_, _, i, v, rfl, rfl, .inl (.inl (sub _ _ hl)), e', giveOld sub k r⟩)
    | scr hl =>
      obtain ⟨d, e, k⟩ := Srv1.opt (show Srv1 C (opt _) _ from h)
      rw [← atI_map] at e
      obtain ⟨v, e', r⟩ := atI_rps (Rps.ints _) e
      exact .inl ⟨_, _, i, v, rfl, rfl, sql_same sub hl.sql, e', giveOld sub k r⟩
    | str z =>
      obtain ⟨c, k⟩ := (Srv1.bind (show Srv1 C (R.bind _ _) _ from h)).chk
      obtain ⟨d, e, k⟩ := Srv1.opt k
      obtain ⟨ch, e', rfl⟩ := Option.map_eq_some_iff.mp e
      exact .inr (.inr ⟨z, i, ch, rfl, rfl, sz_small (of_decide_eq_true c), e', giveOld sub k (.str _)⟩)
    | _ => exact h.elim
  | _ => cases rx <;> exact h.elim
theorem je_ix {a b : Expr} {pos : Pos} {ma mb : τ → R (D × τ)} (ha : JE C φ a ma) (hb : JE C φ b mb) (hs : PlainIx b := by intro _ _; rfl) :
    JE C φ (.Subscript a b pos) (fun s => (ma s).bind fun p => (mb p.2).bind fun q => (opIx p.1 q.1).bind fun d => .ok (d, q.2)) := fun gd s σ F H Q st h => by
  refine ⟨_, pe_ix ix_seq pe_wp pe_wp hs, ?_⟩
  refine ha gd s σ F H _ st (h.bind.mono fun dx s1 h1 vx F1 H1 e1 r1 st1 => ?_)
  refine hb gd s1 σ F1 H1 _ st1 (h1.bind.mono fun dy s2 h2 vy F2 H2 e2 r2 st2 => ?_)
  refine ix_ok gd st2.sub (r1.mono e2) r2 ?_
  have h3 := h2.bind1
  cases q : opIx dx dy with
  | ok d => rw [q] at h3; exact fun v F' H' gr sub rv => h3 v F' H' ((e1.trans e2).trans gr.fz) rv (st2.grow gr sub)
  | err c d => rw [q] at h3; exact h3
  | bad => rw [q] at h3; exact h3

/-! ### slices -/
def JO (C : Ctx) {τ : Type} (φ : τ → Slots) (e : Option Expr) (m : τ → R (Option Int × τ)) : Prop := Good C → ∀ (s : τ) (σ : L2.St) (F H : Hp) (Q : Option Int → Hp → Prop), St8 C (φ s) σ F H →
  Srv C (m s) (fun o s' => ∀ F' H', Same F F' → St8 C (φ s') σ F' H' → Q o H') → ∃ t, PO C.X e t ∧ t σ H Q
def wpO (X : Cx) (e : Option Expr) : TO := fun σ H Q => ∃ t, PO X e t ∧ t σ H Q
theorem po_wp {X : Cx} {e : Option Expr} : PO X e (wpO X e) := ⟨fun pins s σ H Q I ⟨t, h, q⟩ => h.run pins s σ H Q I q⟩
theorem jo_none : JO C φ none (fun s => .ok (none, s)) := fun g s σ F H Q st h => ⟨_, po_none, h F H (Same.refl F) st⟩
def asInt : D → R Int
  | .int i => .ok i
  | _ => .bad
theorem jo_some {e : Expr} {m : τ → R (D × τ)} (he : JE C φ e m) : JO C φ (some e) (fun s => (m s).bind fun p => (asInt p.1).bind fun i => .ok (some i, p.2)) := fun g s σ F H Q st h => by
  refine ⟨_, po_some pe_wp, ?_⟩
  refine he g s σ F H _ st (h.bind.mono fun d s1 h1 v F1 H1 e1 r1 st1 => ?_)
  have h2 := h1.bind1
  cases r1 with
  | int i => exact ⟨i, rfl, h2 F1 H1 e1 st1⟩
  | _ => exact h2.elim
def cutL {α : Type} (xs : List α) (lo hi : Option Int) : List α := (xs.drop (HT.sIx xs.length 0 lo)).take (HT.sIx xs.length xs.length hi - HT.sIx xs.length 0 lo)
def opCut : D → Option Int → Option Int → R D
  | .lst xs, lo, hi => .ok (.lst (cutL xs lo hi))
  | .tup xs, lo, hi => .ok (.tup (cutL xs lo hi))
  | .scr ns, lo, hi => .ok (.lst ((cutL ns lo hi).map .int))
  | .str z, lo, hi => chk (decide (z.length ≤ 1000000)) (.str (cutS z lo hi))
  | _, _, _ => .bad
theorem cutL_rps {T : Txt} {F : Hp} {xs : List V} {ds : List D} (r : Rps T F xs ds) (lo hi : Option Int) : Rps T F (cutV xs lo hi) (cutL ds lo hi) := by
  unfold cutV cutL
  rw [r.length]
  exact (r.drop _).take _
theorem cutL_map {α β : Type} (f : α → β) (xs : List α) (lo hi : Option Int) : cutL (xs.map f) lo hi = (cutL xs lo hi).map f := by
  unfold cutL
  rw [List.length_map, List.map_take, List.map_drop]
theorem cutL_whole {α : Type} {xs : List α} {lo hi : Option Int} (h : HT.sIx xs.length 0 lo = 0 ∧ HT.sIx xs.length xs.length hi = xs.length) : cutL xs lo hi = xs := by
  unfold cutL
  rw [h.1, h.2, List.drop_zero, Nat.sub_zero, List.take_length]
def wpSl (X : Cx) : V → Option Int → Option Int → Hp → VK → Prop := fun x lo hi H Q => ∃ r, SlR X r ∧ r x lo hi H Q
theorem sl_wp {X : Cx} : SlR X (wpSl X) := fun pins s σ H x v vl vu lo hi sl Q I rx hs pl pu ⟨r, hr, q⟩ => hr pins s σ H x v vl vu lo hi sl Q I rx hs pl pu q
theorem cut_ok (g : Good C) {F H : Hp} {Q : VK} {vx : V} {dx : D} {lo hi : Option Int} (sub : Same F H) (rx : Rp C.T F vx dx) (h : Srv1 C (opCut dx lo hi) (fun d => ∀ v F' H', Grow F H F' H' → Same F' H' → Rp C.T F' v d → Q v H')) : wpSl C.X vx lo hi H Q := by
  cases rx with
  | lst hl rl => exact ⟨_, sl_list, _, _, rfl, .inl (.inl (sub _ _ hl)), fun p hp => giveNew sub h hp fun s e => .lst e ((cutL_rps rl lo hi).mono s)⟩
  | @tup a xs ds hl rl =>
    refine ⟨_, sl_tupA, _, _, rfl, .inl (.inl (sub _ _ hl)), fun hw => ?_, fun _ p hp => giveNew sub h hp fun s e => .tup e ((cutL_rps rl lo hi).mono s)⟩
    have hw' : cutL ds lo hi = ds := cutL_whole (by rw [← rl.length]; exact hw)
    have h' : ∀ v F' H', Grow F H F' H' → Same F' H' → Rp C.T F' v (.tup (cutL ds lo hi)) → Q v H' := h
    rw [hw'] at h'
    exact giveOld sub h' (.tup hl rl)
  | @scr a ns hl =>
    refine ⟨_, sl_list, _, _, rfl, by rw [g.K]; exact sql_same sub hl.sql, fun p hp => giveNew sub h hp fun s e => .lst e ?_⟩
    rw [← cutL_map]
    exact (cutL_rps (Rps.ints _) lo hi).mono s
  | str z =>
    obtain ⟨c, h⟩ := (show Srv1 C (chk _ _) _ from h).chk
    exact ⟨_, sl_str, z, rfl, sz_small (of_decide_eq_true c), giveOld sub h (.str _)⟩
  | _ => exact h.elim
theorem je_cut {a : Expr} {lo hi : Option Expr} {pos p2 : Pos} {ma : τ → R (D × τ)} {ml mh : τ → R (Option Int × τ)} (ha : JE C φ a ma) (hl : JO C φ lo ml) (hh : JO C φ hi mh) :
    JE C φ (.Subscript a (.Slice lo hi none p2) pos) (fun s => (ma s).bind fun p => (ml p.2).bind fun q => (mh q.2).bind fun r => (opCut p.1 q.1 r.1).bind fun d => .ok (d, r.2)) := fun gd s σ F H Q st h => by
  refine ⟨_, pe_slice sl_wp pe_wp po_wp po_wp, ?_⟩
  refine ha gd s σ F H _ st (h.bind.mono fun dx s1 h1 vx F1 H1 e1 r1 st1 => ?_)
  refine hl gd s1 σ F1 H1 _ st1 (h1.bind.mono fun l s2 h2 F2 H2 e2 st2 => ?_)
  refine hh gd s2 σ F2 H2 _ st2 (h2.bind.mono fun u s3 h3 F3 H3 e3 st3 => ?_)
  refine cut_ok gd st3.sub (r1.mono (e2.trans e3)) ?_
  have h4 := h3.bind1
  cases q : opCut dx l u with
  | ok d => rw [q] at h4; exact fun v F' H' gr sub rv => h4 v F' H' (((e1.trans e2).trans e3).trans gr.fz) rv (st3.grow gr sub)
  | err c d => rw [q] at h4; exact h4
  | bad => rw [q] at h4; exact h4
/-- xs[::-1], xs a list -/
def opRev : D → R D
  | .lst xs => .ok (.lst xs.reverse)
  | _ => .bad
theorem je_rev {a : Expr} {k : Nat} {p1 p2 p3 pos : Pos} {ma : τ → R (D × τ)} (ha : JE C φ a ma) :
    JE C φ (.Subscript a (.Slice none none (some (.UnaryOp .USub (.Constant (.int 1) k p1) p2)) p3) pos) (fun s => (ma s).bind fun p => (opRev p.1).bind fun d => .ok (d, p.2)) := fun gd s σ F H Q st h => by
  refine ⟨_, pe_revL pe_wp, ?_⟩
  refine ha gd s σ F H _ st (h.bind.mono fun dx s1 h1 vx F1 H1 e1 r1 st1 => ?_)
  have h2 := h1.bind1
  cases r1 with
  | @lst a xs ds hl rl =>
    refine ⟨a, xs, rfl, .inl (.inl (st1.sub _ _ hl)), fun p hp => ?_⟩
    have h3 : ∀ v F' H', Same F F' → Rp C.T F' v (.lst ds.reverse) → St8 C (φ s1) σ F' H' → Q v H' := h2
    have gr := grow_new (o := .lst xs.reverse) st1.sub hp
    exact h3 _ _ _ (e1.trans gr.fz) (.lst upd_same (rl.reverse.mono gr.fz)) (st1.new hp)
  | _ => exact h2.elim

/-! ### built-in functions -/
def CallD (C : Ctx) (f : Value) (g : List D → R D) : Prop := Good C → ∃ r, CallR C.X f r ∧ ∀ (F H : Hp) (Q : VK) (vs : List V) (ds : List D), Same F H → Rps C.T F vs ds →
  Srv1 C (g ds) (fun d => ∀ v F' H', Grow F H F' H' → Same F' H' → Rp C.T F' v d → Q v H') → r vs H Q
theorem cald_mk {f : Value} {g : List D → R D} (h : Good C → ∀ (F H : Hp) (Q : VK) (vs : List V) (ds : List D), Same F H → Rps C.T F vs ds →
    Srv1 C (g ds) (fun d => ∀ v F' H', Grow F H F' H' → Same F' H' → Rp C.T F' v d → Q v H') → ∃ r, CallR C.X f r ∧ r vs H Q) : CallD C f g := fun gd =>
  ⟨fun xs H Q => ∃ r, CallR C.X f r ∧ r xs H Q, fun pins s σ H xs us Q I rx ⟨r, hr, q⟩ => hr pins s σ H xs us Q I rx q, fun F H Q vs ds => h gd F H Q vs ds⟩
theorem bcall {X : Cx} {e : Expr} {es : List Expr} {pos p : Pos} {x : Str} {f : Value} {r : List V → Hp → VK → Prop} {t : TA} (hf : (∃ id, f = .builtin id) ∨ ∃ T, f = .type T) (hc : CallR X f r) (hg : Gl X x) (hm : X.mg x = none) (hv : bootBuiltins x = some f) (ha : PA X (e :: es) t)
    (hn : x ≠ "__name__") (hdb : (x == ("__debug__" : Str)) = false) (he : starEach (e :: es) X.env = (false, eval e X.env) :: starEach es X.env) (hpl : (backTo pos (starEach es X.env)).any (·.1) = false) : PE X (.Call (.Name x p) (e :: es) [] pos) (tCB r t) := by
  rcases hf with ⟨id, rfl⟩ | ⟨T, rfl⟩
  · exact pe_callB hc hg hm hv ha hn hdb he hpl
  · exact pe_callTy hc hg hm hv ha hn hdb he hpl
theorem je_blt {x : Str} {f : Value} {g : List D → R D} {p pos : Pos} {e : Expr} {es : List Expr} {na : τ → R (List D × τ)} (hm : C.T.mg x = none) (hc : CallD C f g) (ha : JA C φ (e :: es) na)
    (hf : (∃ id, f = .builtin id) ∨ ∃ T, f = .type T := by first | exact .inl ⟨_, rfl⟩ | exact .inr ⟨_, rfl⟩) (hv : bootBuiltins x = some f := by decide +kernel) (hg : Gl C.X x := by rfl) (hn : x ≠ "__name__" := by decide) (hdb : (x == ("__debug__" : Str)) = false := by decide)
    (he : starEach (e :: es) C.X.env = (false, eval e C.X.env) :: starEach es C.X.env := by rfl) (hpl : (backTo pos (starEach es C.X.env)).any (·.1) = false := by rfl) :
    JE C φ (.Call (.Name x p) (e :: es) [] pos) (fun s => (na s).bind fun q => (g q.1).bind fun d => .ok (d, q.2)) := fun gd s σ F H Q st h => by
  obtain ⟨r, hr, hv'⟩ := hc gd
  refine ⟨_, bcall hf hr hg (by rw [gd.mg]; exact hm) hv pa_wp hn hdb he hpl, ?_⟩
  refine ha gd s σ F H _ st (h.bind.mono fun ds s1 h1 vs F1 H1 e1 r1 st1 => ?_)
  refine hv' F1 H1 Q vs ds st1.sub r1 ?_
  have h2 := h1.bind1
  cases q : g ds with
  | ok d => rw [q] at h2; exact fun v F' H' gr sub rv => h2 v F' H' (e1.trans gr.fz) rv (st1.grow gr sub)
  | err c d => rw [q] at h2; exact h2
  | bad => rw [q] at h2; exact h2
def d1 (f : D → R D) : List D → R D
  | [d] => f d
  | _ => .bad
def d2 (f : D → D → R D) : List D → R D
  | [d, e] => f d e
  | _ => .bad
theorem cald1 {f : Value} {g : D → R D} (h : Good C → ∀ (F H : Hp) (Q : VK) (v : V) (d : D), Same F H → Rp C.T F v d →
    Srv1 C (g d) (fun d => ∀ v F' H', Grow F H F' H' → Same F' H' → Rp C.T F' v d → Q v H') → ∃ r, CallR C.X f r ∧ r [v] H Q) : CallD C f (d1 g) := cald_mk fun gd F H Q vs ds sub r hs => by
  cases r with
  | nil => exact hs.elim
  | cons rv rr =>
    cases rr with
    | nil => exact h gd F H Q _ _ sub rv hs
    | cons _ _ => exact hs.elim
theorem cald2 {f : Value} {g : D → D → R D} (h : Good C → ∀ (F H : Hp) (Q : VK) (v w : V) (d e : D), Same F H → Rp C.T F v d → Rp C.T F w e →
    Srv1 C (g d e) (fun d => ∀ v F' H', Grow F H F' H' → Same F' H' → Rp C.T F' v d → Q v H') → ∃ r, CallR C.X f r ∧ r [v, w] H Q) : CallD C f (d2 g) := cald_mk fun gd F H Q vs ds sub r hs => by
  cases r with
  | nil => exact hs.elim
  | cons rv rr =>
    cases rr with
    | nil => exact hs.elim
    | cons rw rr =>
      cases rr with
      | nil => exact h gd F H Q _ _ _ _ sub rv rw hs
      | cons _ _ => exact hs.elim
/-- len -/
def bLen : D → R D
  | .lst xs => .ok (.int xs.length)
  | .tup xs => .ok (.int xs.length)
  | .scr xs => .ok (.int xs.length)
  | .str z => chk (decide (z.length ≤ 1000000)) (.int z.length)
  | _ => .bad
theorem cd_len : CallD C (.builtin "len") (d1 bLen) := cald1 fun g F H Q v d sub r h => by
  cases r with
  | @lst a xs ds hl rl => exact ⟨_, call_len_seq, a, xs, rfl, .inl (.inl (.inl (sub _ _ hl))), by rw [rl.length]; exact giveOld sub h (.int _)⟩
  | @tup a xs ds hl rl => exact ⟨_, call_len_seq, a, xs, rfl, .inr (.inl (.inl (sub _ _ hl))), by rw [rl.length]; exact giveOld sub h (.int _)⟩
  | @scr a ns hl => exact ⟨_, call_len_seq, a, _, rfl, .inl (by rw [g.K]; exact sql_same sub hl.sql), by rw [List.length_map]; exact giveOld sub h (.int _)⟩
  | str z =>
    obtain ⟨c, h⟩ := (show Srv1 C (chk _ _) _ from h).chk
    exact ⟨_, call_len_str, z, rfl, sz_small (of_decide_eq_true c), giveOld sub h (.int _)⟩
  | _ => exact h.elim
def bAbs : D → R D
  | .int i => .ok (.int (if i < 0 then -i else i))
  | _ => .bad
theorem cd_abs : CallD C (.builtin "abs") (d1 bAbs) := cald1 fun g F H Q v d sub r h => by
  cases r with
  | int i => exact ⟨_, call_abs, i, rfl, giveOld sub h (.int _)⟩
  | _ => exact h.elim
def bInt : D → R D
  | .int i => .ok (.int i)
  | .bl b => .ok (.int (if b = true then 1 else 0))
  | _ => .bad
theorem cd_int : CallD C (.type "int") (d1 bInt) := cald1 fun g F H Q v d sub r h => by
  cases r with
  | int i => exact ⟨_, call_int1, .inl ⟨i, rfl, giveOld sub h (.int _)⟩⟩
  | bl b => exact ⟨_, call_int1, .inr ⟨b, rfl, giveOld sub h (.int _)⟩⟩
  | _ => exact h.elim
def bMax2 : D → D → R D
  | .int i, .int j => .ok (.int (if j > i then j else i))
  | _, _ => .bad
def bMin2 : D → D → R D
  | .int i, .int j => .ok (.int (if j < i then j else i))
  | _, _ => .bad
theorem cd_max2 (hh : C.hot = false := by rfl) : CallD C (.builtin "max") (d2 bMax2) := cald2 fun g F H Q v w d e sub r r' h => by
  cases r with
  | int i =>
    cases r' with
    | int j => exact ⟨_, call_max2 (g.calm hh), i, j, rfl, giveOld sub h (.int _)⟩
    | _ => exact h.elim
  | _ => exact h.elim
theorem cd_min2 (hh : C.hot = false := by rfl) : CallD C (.builtin "min") (d2 bMin2) := cald2 fun g F H Q v w d e sub r r' h => by
  cases r with
  | int i =>
    cases r' with
    | int j => exact ⟨_, call_min2 (g.calm hh), i, j, rfl, giveOld sub h (.int _)⟩
    | _ => exact h.elim
  | _ => exact h.elim
/-- tuple(xs), list(xs) -/
def bTuple : D → R D
  | .lst xs => .ok (.tup xs)
  | .tup xs => .ok (.tup xs)
  | .scr ns => .ok (.tup (ns.map .int))
  | _ => .bad
def bList : D → R D
  | .lst xs => .ok (.lst xs)
  | .tup xs => .ok (.lst xs)
  | .scr ns => .ok (.lst (ns.map .int))
  | _ => .bad
theorem cd_tuple : CallD C (.type "tuple") (d1 bTuple) := cald1 fun g F H Q v d sub r h => by
  cases r with
  | @lst a xs ds hl rl => exact ⟨_, call_tuple_of, a, xs, rfl, .inl ⟨.inl (.inl (sub _ _ hl)), fun p hp => giveNew sub h hp fun s e => .tup e (rl.mono s)⟩⟩
  | @tup a xs ds hl rl => exact ⟨_, call_tuple_of, a, xs, rfl, .inr ⟨.inl (.inl (sub _ _ hl)), giveOld sub h (.tup hl rl)⟩⟩
  | @scr a ns hl => exact ⟨_, call_tuple_of, a, _, rfl, .inl ⟨by rw [g.K]; exact sql_same sub hl.sql, fun p hp => giveNew sub h hp fun s e => .tup e (Rps.ints _)⟩⟩
  | _ => exact h.elim
theorem cd_list : CallD C (.type "list") (d1 bList) := cald1 fun g F H Q v d sub r h => by
  cases r with
  | @lst a xs ds hl rl => exact ⟨_, call_list_of, a, xs, rfl, .inl (.inl (.inl (sub _ _ hl))), fun p hp => giveNew sub h hp fun s e => .lst e (rl.mono s)⟩
  | @tup a xs ds hl rl => exact ⟨_, call_list_of, a, xs, rfl, .inr (.inl (.inl (sub _ _ hl))), fun p hp => giveNew sub h hp fun s e => .lst e (rl.mono s)⟩
  | @scr a ns hl => exact ⟨_, call_list_of, a, _, rfl, .inl (by rw [g.K]; exact sql_same sub hl.sql), fun p hp => giveNew sub h hp fun s e => .lst e (Rps.ints _)⟩
  | _ => exact h.elim
/-- all(xs), any(xs), sum(xs), xs a list -/
def asBools : List D → Option (List Bool)
  | [] => some []
  | .bl b :: r => (asBools r).map (b :: ·)
  | _ => none
def asInts : List D → Option (List Int)
  | [] => some []
  | .int b :: r => (asInts r).map (b :: ·)
  | _ => none
theorem bools_rps {T : Txt} {F : Hp} : ∀ {vs : List V} {ds : List D} {bs : List Bool}, Rps T F vs ds → asBools ds = some bs → vs = bs.map V.bl
  | _, [], _, .nil, e => by cases e; rfl
  | _, d :: ds, bs, .cons h r, e => by
    cases h with
    | bl b =>
      obtain ⟨q, e1, e2⟩ := Option.map_eq_some_iff.mp (show (asBools ds).map (b :: ·) = some bs from e)
      rw [← e2, List.map_cons, bools_rps r e1]
    | _ => cases e
theorem ints_rps {T : Txt} {F : Hp} : ∀ {vs : List V} {ds : List D} {bs : List Int}, Rps T F vs ds → asInts ds = some bs → vs = bs.map V.int
  | _, [], _, .nil, e => by cases e; rfl
  | _, d :: ds, bs, .cons h r, e => by
    cases h with
    | int b =>
      obtain ⟨q, e1, e2⟩ := Option.map_eq_some_iff.mp (show (asInts ds).map (b :: ·) = some bs from e)
      rw [← e2, List.map_cons, ints_rps r e1]
    | _ => cases e
def bAll : D → R D
  | .lst xs => (opt (asBools xs)).bind fun bs => .ok (.bl (bs.all id))
  | _ => .bad
def bAny : D → R D
  | .lst xs => (opt (asBools xs)).bind fun bs => .ok (.bl (bs.any id))
  | _ => .bad
def bSum : D → R D
  | .lst xs => (opt (asInts xs)).bind fun bs => .ok (.int bs.sum)
  | _ => .bad
theorem cd_all (hh : C.hot = false := by rfl) : CallD C (.builtin "all") (d1 bAll) := cald1 fun g F H Q v d sub r h => by
  cases r with
  | @lst a xs ds hl rl =>
    obtain ⟨bs, e, k⟩ := Srv1.opt (Srv1.bind h)
    exact ⟨_, cr_all (g.calm hh), a, bs, rfl, .inl (.inl (by rw [← bools_rps rl e]; exact sub _ _ hl)), giveOld sub k (.bl _)⟩
  | _ => exact h.elim
theorem cd_any (hh : C.hot = false := by rfl) : CallD C (.builtin "any") (d1 bAny) := cald1 fun g F H Q v d sub r h => by
  cases r with
  | @lst a xs ds hl rl =>
    obtain ⟨bs, e, k⟩ := Srv1.opt (Srv1.bind h)
    exact ⟨_, cr_any (g.calm hh), a, bs, rfl, .inl (.inl (by rw [← bools_rps rl e]; exact sub _ _ hl)), giveOld sub k (.bl _)⟩
  | _ => exact h.elim
theorem cd_sum (hh : C.hot = false := by rfl) : CallD C (.builtin "sum") (d1 bSum) := cald1 fun g F H Q v d sub r h => by
  cases r with
  | @lst a xs ds hl rl =>
    obtain ⟨bs, e, k⟩ := Srv1.opt (Srv1.bind h)
    exact ⟨_, cr_sum (g.calm hh), a, bs, rfl, .inl (.inl (by rw [← ints_rps rl e]; exact sub _ _ hl)), giveOld sub k (.int _)⟩
  | _ => exact h.elim
/-! ### repr -/
end
theorem shown_call {X : Cx} (hg : X.A.guards = some []) (hu : X.A.units + 64 < cLine) : CallR X (.builtin "repr") (fun xs H Q => ∃ v p, xs = [v] ∧ Dp X.K H v p ∧ p.showable = true ∧ p.hasDict = false ∧ p.depth ≤ 60 ∧ p.shown.length ≤ sizeLine ∧ Q (.str p.shown) H) := by
  intro pins s σ H xs us Q I r h
  obtain ⟨v, p, rfl, hd, hs, hn, hz, hl, q⟩ := h
  obtain ⟨u, rfl, ru⟩ := Vals.one r
  obtain ⟨as, rd⟩ := Dp.reads I p v u hd ru
  cases p with
  | none => cases hd; cases ru; exact PySem.P.repr_of_none ⟨.str _, H, I.tok _, ⟨_, rfl⟩, q⟩
  | bool b => cases hd; cases ru; exact PySem.P.repr_of_bool ⟨.str _, H, I.tok _, ⟨_, rfl⟩, q⟩
  | int i => cases hd; obtain ⟨t, rfl⟩ := ru; exact PySem.P.repr_of_int (of_decide_eq_true hs) ⟨.str _, H, I.tok _, ⟨_, rfl⟩, q⟩
  | str x => cases hd; obtain ⟨t, rfl⟩ := ru; exact PySem.P.repr_of_str ⟨.str _, H, I.tok _, ⟨_, rfl⟩, q⟩ hl
  | list ps =>
    cases hd
    cases ru
    exact repr_of_reads' rd hs (fun e => by rw [hn] at e; cases e) hg (by omega) (fun _ _ e => e) (fun h' u tk hk => ⟨.str _, H, I.kept hk, ⟨_, rfl⟩, q⟩) hl
  | tuple ps =>
    cases hd
    cases ru
    exact repr_of_reads' rd hs (fun e => by rw [hn] at e; cases e) hg (by omega) (fun _ _ e => e) (fun h' u tk hk => ⟨.str _, H, I.kept hk, ⟨_, rfl⟩, q⟩) hl
  | dict _ => cases hd
def reprOk (p : PyData) : Bool := p.showable && !p.hasDict && decide (p.depth ≤ 60) && decide (p.shown.length ≤ 1000000)
def bRepr (d : D) : R D := (opt (toP d)).bind fun p => chk (reprOk p) (.str p.shown)
theorem cd_repr {C : Ctx} (hh : C.hot = false := by rfl) : CallD C (.builtin "repr") (d1 bRepr) := cald1 fun g F H Q v d sub r h => by
  obtain ⟨p, e, k⟩ := Srv1.opt (Srv1.bind h)
  obtain ⟨c, k⟩ := Srv1.chk k
  have c1 := and2 c
  have c2 := and2 c1.1
  have c3 := and2 c2.1
  exact ⟨_, shown_call (g.room hh).g (g.u64 hh), v, p, rfl, by rw [g.K]; exact Rp.dp sub _ r e, c3.1, by simpa using c3.2, of_decide_eq_true c2.2, sz_small (of_decide_eq_true c1.2), giveOld sub k (.str _)⟩
end Pv
set_option Elab.async false
set_option linter.all false
set_option maxRecDepth 100000
/-! Pv9: lists and dicts of one's own. -/
namespace Pv
open PySem PySem.Spec PyProof.Rows L2

/-! ### an expression that makes a list that nobody has -/
def JEL (C : Ctx) {τ : Type} (φ : τ → Slots) (e : Expr) (m : τ → R (List D × τ)) : Prop := Good C → ∀ (s : τ) (σ : L2.St) (F H : Hp) (Q : VK), St8 C (φ s) σ F H →
  Srv C (m s) (fun ds s' => ∀ l xs F' H', Same F F' → H' l = none → Rps C.T F' xs ds → St8 C (φ s') σ F' H' → Q (.ref l) (upd H' l (.lst xs))) → wpE C.X e σ H Q
section
variable {C : Ctx} {τ α β : Type} {φ : τ → Slots} {ψ : α → τ → Slots} {χ : β → τ → Slots} {ρ : τ → Slots} {rest : List Stmt} {pos pos2 p : Pos}
theorem je_ofL {e : Expr} {m : τ → R (List D × τ)} (h : JEL C φ e m) : JE C φ e (fun s => (m s).bind fun q => .ok (.lst q.1, q.2)) := fun g s σ F H Q st hs =>
  h g s σ F H Q st (hs.bind.mono fun ds s1 h1 l xs F1 H1 e1 hn r st1 => by
    have gr := grow_new (o := .lst xs) st1.sub hn
    exact (show ∀ v F' H', Same F F' → Rp C.T F' v (.lst ds) → St8 C (φ s1) σ F' H' → Q v H' from h1) _ _ _ (e1.trans gr.fz) (.lst upd_same (r.mono gr.fz)) (st1.new hn))
theorem jel_lst {es : List Expr} {n : τ → R (List D × τ)} (h : JA C φ es n) : JEL C φ (.List es pos) (fun s => (n s).bind fun q => (chk (decide (q.1.length ≤ 1000000)) q.1).bind fun ds => .ok (ds, q.2)) := fun gd s σ F H Q st hs => by
  refine ⟨_, pe_lst pa_wp, ?_⟩
  refine h gd s σ F H _ st (hs.bind.mono fun ds s1 h1 vs F1 H1 e1 r1 st1 => ?_)
  obtain ⟨c, h2⟩ := h1.bind1.chk
  exact ⟨sz_small (by rw [r1.length]; exact of_decide_eq_true c), fun p hp => h2 p vs F1 H1 e1 hp r1 st1⟩
theorem jel_list {e : Expr} {m : τ → R (D × τ)} (hm : C.T.mg "list" = none) (h : JE C φ e m) (hg : Gl C.X "list" := by rfl) (he : starEach (e :: []) C.X.env = (false, eval e C.X.env) :: starEach [] C.X.env := by rfl) (hpl : (backTo pos (starEach [] C.X.env)).any (·.1) = false := by rfl) :
    JEL C φ (.Call (.Name "list" p) [e] [] pos) (fun s => (m s).bind fun q => (asItems q.1).bind fun ds => .ok (ds, q.2)) := fun gd s σ F H Q st hs => by
  refine ⟨_, pe_callTy call_list_of hg (by rw [gd.mg]; exact hm) boot_list (pa_cons pe_wp pa_nil he) (by decide) (by decide) he hpl, ?_⟩
  refine h gd s σ F H _ st (hs.bind.mono fun d s1 h1 v F1 H1 e1 r1 st1 => ?_)
  have h2 := h1.bind1
  cases q : asItems d with
  | bad => rw [q] at h2; exact h2.elim
  | err c e => exact absurd q asItems_ne
  | ok ds =>
    rw [q] at h2
    obtain ⟨a, xs, rfl, hs, rr⟩ := seq_items st1.sub r1 q
    exact ⟨a, xs, rfl, by rw [gd.K]; exact hs, fun l hl => h2 l xs F1 H1 e1 hl rr st1⟩
def rgD (a b : Int) : List D := (List.range (b - a).toNat).map fun i => D.int (a + (i : Nat))
theorem rg_rps {T : Txt} {F : Hp} (a b : Int) : Rps T F (rgV a b) (rgD a b) := by
  unfold rgV rgD
  induction List.range (b - a).toNat with
  | nil => exact .nil
  | cons i r ih => exact .cons (.int _) ih
def rgOk (a b : Int) : Bool := decide (-1000000 ≤ a) && decide (a ≤ 1000000) && decide (-1000000 ≤ b) && decide (b ≤ 1000000)
theorem rgOk_of {a b : Int} (h : rgOk a b = true) : RgOk a b := by
  have h1 := and2 h
  have h2 := and2 h1.1
  have h3 := and2 h2.1
  have a1 := of_decide_eq_true h1.2
  have a2 := of_decide_eq_true h2.2
  have a3 := of_decide_eq_true h3.1
  have a4 := of_decide_eq_true h3.2
  exact ⟨by omega, by omega, by omega, by omega, by omega⟩
theorem jel_rg1 {e : Expr} {p2 pos3 : Pos} {m : τ → R (D × τ)} (hm : C.T.mg "list" = none) (hm2 : C.T.mg "range" = none) (h : JE C φ e m) (hh : C.hot = false := by rfl) (hg : Gl C.X "list" := by rfl) (hg2 : Gl C.X "range" := by rfl) (he : starEach [e] C.X.env = (false, eval e C.X.env) :: starEach [] C.X.env := by rfl)
    (he2 : starEach [.Call (.Name "range" p2) [e] [] pos3] C.X.env = (false, eval (.Call (.Name "range" p2) [e] [] pos3) C.X.env) :: starEach [] C.X.env := by rfl) :
    JEL C φ (.Call (.Name "list" p) [.Call (.Name "range" p2) [e] [] pos3] [] pos) (fun s => (m s).bind fun q => (asInt q.1).bind fun i => (chk (rgOk 0 i) (rgD 0 i)).bind fun ds => .ok (ds, q.2)) := fun gd s σ F H Q st hs => by
  refine ⟨_, pe_listRg (gd.calm hh) hg (by rw [gd.mg]; exact hm) (prg_1 hg2 (by rw [gd.mg]; exact hm2) pe_wp he) he2, ?_⟩
  refine h gd s σ F H _ st (hs.bind.mono fun d s1 h1 v F1 H1 e1 r1 st1 => ?_)
  have h2 := h1.bind1
  cases r1 with
  | int i =>
    obtain ⟨c, k⟩ := (show Srv C ((chk (rgOk 0 i) (rgD 0 i)).bind fun ds => .ok (ds, s1)) _ from h2).bind1.chk
    exact ⟨i, rfl, rgOk_of c, fun l hl => k l _ F1 H1 e1 hl (rg_rps _ _) st1⟩
  | _ => exact h2.elim

/-! ### slots of one's own -/
theorem SlotsOk.newOwn {T : Txt} {Fr : Addr → Prop} {F H : Hp} {e : Slots} {σ : L2.St} {i : Nat} {l : Addr} {o : HO} {sv : SV} (h : SlotsOk T Fr F H e σ) (sub : Same F H) (hl : H l = none) (hlen : e.length ≤ σ.length)
    (ok : SlotOk T Fr F (upd H l o) (some sv) (some (.ref l)) [l]) : SlotsOk T Fr F (upd H l o) (e.set i (some sv)) (σ.set i (some (.ref l))) := by
  refine SlotsOk.setOwner (h.grow (grow_own hl)) ok (fun A hA j hm => ?_) hlen
  -- the slots were fine before l was laid, by the same owners or others: start from the old ones
  obtain ⟨⟨o', e1⟩, e2, e3⟩ := (hA.slot j).own_some l hm
  have z := hA.slot j
  obtain ⟨B, hB⟩ := h
  -- what slot j owns is told by its value alone
  have same : ∀ {sv : Option SV} {v : Option V} {as bs : List Addr} {G : Hp}, SlotOk T Fr F G sv v as → SlotOk T Fr F H sv v bs → (∀ a o, H a = some o → G a = some o) → as = bs := fun {sv v as bs G} ha hb hk => by
    cases sv with
    | none => rw [show as = [] from ha, show bs = [] from hb]
    | some s =>
      cases s with
      | val d => rw [ha.1, hb.1]
      | exc _ _ _ _ => rw [ha.1, hb.1]
      | own ds =>
        obtain ⟨l, _, rfl, e, _⟩ := ha
        obtain ⟨l', _, rfl, e', _⟩ := hb
        rw [e] at e'; cases e'; rfl
      | owk ds =>
        obtain ⟨l, _, rfl, e, _⟩ := ha
        obtain ⟨l', _, rfl, e', _⟩ := hb
        rw [e] at e'; cases e'; rfl
      | owt ds =>
        obtain ⟨l, _, rfl, e, _⟩ := ha
        obtain ⟨l', _, rfl, e', _⟩ := hb
        rw [e] at e'; cases e'; rfl
      | ins p dx c fs =>
        obtain ⟨_, _, rfl, _⟩ := ha
        obtain ⟨_, _, rfl, _⟩ := hb
        rfl
      | deal l1 l2 cs b => rw [ha.1, hb.1]
  have q := same z (hB.slot j) fun a o' e => by rw [upd_ne (ne_of_none e hl)]; exact e
  rw [q] at hm
  exact hB.notNew hl j hm
theorem St8.newOwn {env : Slots} {σ : L2.St} {F H : Hp} {i : Nat} {l : Addr} {xs : List V} {ds : List D} (st : St8 C env σ F H) (hl : H l = none) (r : Rps C.T F xs ds) : St8 C (env.set i (some (.own ds))) (σ.set i (some (.ref l))) F (upd H l (.lst xs)) := by
  have fl : F l = none := by
    cases q : F l with
    | none => rfl
    | some o => rw [st.sub _ _ q] at hl; cases hl
  refine ⟨st.step.trans ((grow_own hl).weak fun _ z => z.elim), fun a o e => by rw [upd_ne (ne_of_none (st.sub a o e) hl)]; exact st.sub a o e, st.env.newOwn st.sub hl st.len ⟨l, xs, rfl, rfl, upd_same, r, fl, .inl (st.step.dom l hl)⟩, by rw [List.length_set, List.length_set]; exact st.len⟩
theorem SlotsOk.ownAt {T : Txt} {Fr : Addr → Prop} {F H : Hp} {e : Slots} {σ : L2.St} {i : Nat} {ds : List D} (h : SlotsOk T Fr F H e σ) (hi : e[i]?.join = some (.own ds)) : ∃ l xs, σ[i]? = some (some (.ref l)) ∧ H l = some (.lst xs) ∧ Rps T F xs ds ∧ F l = none ∧ Fr l := by
  obtain ⟨A, h1, _⟩ := h
  have q := h1 i
  rw [hi] at q
  obtain ⟨l, xs, _, ev, h1, h2, h3, h4⟩ := q
  refine ⟨l, xs, ?_, h1, h2, h3, h4⟩
  cases z : σ[i]? with
  | none => rw [z] at ev; cases ev
  | some o => rw [z] at ev; rw [show o = some (V.ref l) from ev]
/-- a list of one's own changes -/
theorem St8.chOwn {env : Slots} {σ : L2.St} {F H : Hp} {i : Nat} {l : Addr} {xs ys : List V} {ds es : List D} (st : St8 C env σ F H) (hi : env[i]?.join = some (.own ds)) (hv : σ[i]? = some (some (.ref l))) (hl : H l = some (.lst xs)) (r : Rps C.T F ys es) :
    St8 C (env.set i (some (.own es))) σ F (upd H l (.lst ys)) := by
  obtain ⟨l', xs', e1, e2, _, e4, e5⟩ := st.env.ownAt hi
  rw [hv] at e1
  cases e1
  have hv' : σ[i]?.join = some (.ref l) := by rw [hv]; rfl
  refine ⟨⟨st.step.fz, st.step.new, fun a o ha hm => ?_, fun a ha => ?_⟩, fun a o ha => ?_, st.env.upd1 hi hv' (fun as z => ?_) (fun _ => ⟨l, ys, rfl, rfl, upd_same, r, e4, e5⟩), by rw [List.length_set]; exact st.len⟩
  · have ne : a ≠ l := fun z => by
      rcases e5 with z' | z'
      · rw [z, z'] at ha; cases ha
      · exact hm (by rw [z]; exact z')
    rw [upd_ne ne]
    exact st.step.keep a o ha hm
  · by_cases c : a = l
    · rw [c, upd_same] at ha; cases ha
    · rw [upd_ne c] at ha
      exact st.step.dom a ha
  · have ne : a ≠ l := fun z => by rw [z, e4] at ha; cases ha
    rw [upd_ne ne]
    exact st.sub a o ha
  · obtain ⟨l2, _, rfl, z2, _⟩ := z
    cases z2
    rfl
/-- x = [..] -/
theorem jb_setL (i : Nat) {x : Str} {e : Expr} {pos' : Pos} {me : τ → R (List D × τ)} {k : List D → τ → R (Fl α β × τ)} (he : JEL C φ e me) (hk : ∀ ds, JB C (fun s => (φ s).set i (some (.own ds))) rest ψ χ ρ (k ds))
    (hi : C.X.N[i]? = some x := by rfl) (hx : Loc C.X.env.scope x := by first | exact Or.inl rfl | exact Or.inr rfl) (hs : swapsWith e (some (.Name x pos')) pos.line C.X.env = pure false := by rfl)
    (hf : C.X.fn x = true ∨ C.X.env.scope.names.lookup x = some .local := by first | exact .inl rfl | exact .inr rfl) :
    JB C φ (.Assign [.Name x pos'] e pos :: rest) ψ χ ρ (fun s => (me s).bind fun p => k p.1 p.2) := fun g s σ F H Dn st h => by
  refine ⟨_, pss_cons (ps_set g.nd hi hx pe_wp hs hf) ps_wp, ?_⟩
  refine he g s σ F H _ st (h.bind.mono fun ds s1 h1 l xs F1 H1 e1 hl r1 st1 => ?_)
  exact hk ds g s1 _ F1 _ Dn (st1.newOwn hl r1) (h1.mono fun f s2 => FlPost.mono e1)
/-- nobody changes it any more -/
theorem jb_freeze (i : Nat) {f : τ → List D} {k : τ → R (Fl α β × τ)} (hk : JB C (fun s => (φ s).set i (some (.val (.lst (f s))))) rest ψ χ ρ k) (hi : ∀ s, (φ s)[i]?.join = some (.own (f s)) := by intro _; rfl) : JB C φ rest ψ χ ρ k := fun g s σ F H Dn st h => by
  obtain ⟨l, xs, e1, e2, e3, e4, e5, e6, e7, e8⟩ := st.env.freeze st.sub (hi s)
  refine hk g s σ _ H Dn ⟨⟨st.step.fz.trans e6, fun a o ha => ?_, st.step.keep, st.step.dom⟩, e7, e8, by rw [List.length_set]; exact st.len⟩ (h.mono fun f s2 => FlPost.mono e6)
  by_cases c : a = l
  · exact .inr (by rw [c]; exact e4)
  · rw [upd_ne c] at ha
    exact st.step.new a o ha

/-! ### what a list of one's own suffers -/
theorem jb_append (i : Nat) {f : τ → List D} {x : Str} {e : Expr} {p1 ap cp : Pos} {me : τ → R (D × τ)} {k : List D → τ → R (Fl α β × τ)} (he : JE C φ e me) (hk : ∀ ds, JB C (fun s => (φ s).set i (some (.own ds))) rest ψ χ ρ (k ds))
    (hi : ∀ s, (φ s)[i]?.join = some (.own (f s)) := by intro _; rfl) (hN : C.X.N[i]? = some x := by rfl) (hv : Vis C.X.env.scope x := by first | exact Or.inl rfl | exact Or.inr (Or.inl rfl) | exact Or.inr (Or.inr rfl)) (hd : (x == ("__debug__" : Str)) = false := by decide) (hcd : (x == ("__classdict__" : Str)) = false := by decide)
    (hs : swapsWith (.Call (.Attribute (.Name x p1) "append" ap) [e] [] cp) none pos.line C.X.env = pure false := by rfl) (hbase : attributeBase (.Name x p1) "append" C.X.env (eval (.Name x p1) C.X.env) = eval (.Name x p1) C.X.env := by rfl)
    (hfew : ((backTo cp (starEach (e :: []) C.X.env)).all (fun x => !x.1) && (backToKw cp (keywordEach [] C.X.env)).all (fun x => x.1.isSome) && decide ((e :: []).length + ([] : List Keyword).length + (if ([] : List Keyword).isEmpty then 0 else 1) < 30)) = true := by rfl)
    (hline : (ap.endLine == cp.line) = true := by rfl) (hst : starEach (e :: []) C.X.env = (false, eval e C.X.env) :: starEach [] C.X.env := by rfl) (hpl : (backTo cp (starEach [] C.X.env)).any (·.1) = false := by rfl) :
    JB C φ (.Expr (.Call (.Attribute (.Name x p1) "append" ap) [e] [] cp) pos :: rest) ψ χ ρ (fun s => (me s).bind fun p => (chk (decide ((f p.2).length < 1000000)) ()).bind fun _ => k (f p.2 ++ [p.1]) p.2) := fun g s σ F H Dn st h => by
  refine ⟨_, pss_cons (ps_expr (pe_bm PySem.F.plainAttrs_list PySem.F.slot_list_append PySem.F.type_list_append mt_append (pe_var hN hv hd hcd) (pa_cons pe_wp pa_nil hst) hbase hfew hline hst hpl) hs) ps_wp, ?_⟩
  obtain ⟨l, xs, e1, e2, _⟩ := st.env.ownAt (hi s)
  refine ⟨.ref l, e1, .inl ⟨rfl, xs, .inl (.inl e2)⟩, ?_⟩
  refine he g s σ F H _ st (h.bind.mono fun d s1 h1 v F1 H1 ee r1 st1 => ?_)
  obtain ⟨c, h2⟩ := h1.bind1.chk
  obtain ⟨l', ys, q1, q2, q3, _⟩ := st1.env.ownAt (hi s1)
  rw [e1] at q1
  cases q1
  refine ⟨l, ys, v, rfl, rfl, q2, Nat.lt_of_lt_of_le (by rw [q3.length]; exact of_decide_eq_true c) (sz_small (Nat.le_refl _)), ?_⟩
  exact hk _ g s1 _ F1 _ Dn (st1.chOwn (hi s1) e1 q2 (q3.append (Rps.one r1))) (h2.mono fun f s2 => FlPost.mono ee)
/-- x.pop(e), dropped -/
theorem jb_popAt (i : Nat) {f : τ → List D} {x : Str} {e : Expr} {p1 ap cp : Pos} {me : τ → R (D × τ)} {k : List D → τ → R (Fl α β × τ)} (he : JE C φ e me) (hk : ∀ ds, JB C (fun s => (φ s).set i (some (.own ds))) rest ψ χ ρ (k ds))
    (hi : ∀ s, (φ s)[i]?.join = some (.own (f s)) := by intro _; rfl) (hN : C.X.N[i]? = some x := by rfl) (hv : Vis C.X.env.scope x := by first | exact Or.inl rfl | exact Or.inr (Or.inl rfl) | exact Or.inr (Or.inr rfl)) (hd : (x == ("__debug__" : Str)) = false := by decide) (hcd : (x == ("__classdict__" : Str)) = false := by decide)
    (hs : swapsWith (.Call (.Attribute (.Name x p1) "pop" ap) [e] [] cp) none pos.line C.X.env = pure false := by rfl) (hbase : attributeBase (.Name x p1) "pop" C.X.env (eval (.Name x p1) C.X.env) = eval (.Name x p1) C.X.env := by rfl)
    (hfew : ((backTo cp (starEach (e :: []) C.X.env)).all (fun x => !x.1) && (backToKw cp (keywordEach [] C.X.env)).all (fun x => x.1.isSome) && decide ((e :: []).length + ([] : List Keyword).length + (if ([] : List Keyword).isEmpty then 0 else 1) < 30)) = true := by rfl)
    (hline : (ap.endLine == cp.line) = true := by rfl) (hst : starEach (e :: []) C.X.env = (false, eval e C.X.env) :: starEach [] C.X.env := by rfl) (hpl : (backTo cp (starEach [] C.X.env)).any (·.1) = false := by rfl) :
    JB C φ (.Expr (.Call (.Attribute (.Name x p1) "pop" ap) [e] [] cp) pos :: rest) ψ χ ρ (fun s => (me s).bind fun p => (asInt p.1).bind fun j => (chk (decide (-1000000 ≤ j) && decide (j ≤ 1000000)) ()).bind fun _ => (opt (ixN (f p.2).length j)).bind fun n => k ((f p.2).eraseIdx n) p.2) := fun g s σ F H Dn st h => by
  refine ⟨_, pss_cons (ps_expr (pe_bm PySem.F.plainAttrs_list PySem.F.slot_list_pop PySem.F.type_list_pop mt_popAt (pe_var hN hv hd hcd) (pa_cons pe_wp pa_nil hst) hbase hfew hline hst hpl) hs) ps_wp, ?_⟩
  obtain ⟨l, xs, e1, e2, _⟩ := st.env.ownAt (hi s)
  refine ⟨.ref l, e1, .inl ⟨rfl, xs, .inl (.inl e2)⟩, ?_⟩
  refine he g s σ F H _ st (h.bind.mono fun d s1 h1 v F1 H1 ee r1 st1 => ?_)
  have h2 := h1.bind1
  cases r1 with
  | int j =>
    obtain ⟨c, h3⟩ := (show Srv C ((chk (decide (-1000000 ≤ j) && decide (j ≤ 1000000)) ()).bind fun _ => _) _ from h2).bind1.chk
    obtain ⟨n, hn, h4⟩ := h3.bind1.opt
    have c1 := of_decide_eq_true (and2 c).1
    have c2 := of_decide_eq_true (and2 c).2
    obtain ⟨l', ys, q1, q2, q3, _⟩ := st1.env.ownAt (hi s1)
    rw [e1] at q1
    cases q1
    rw [← q3.length] at hn
    obtain ⟨z1, z2, _⟩ := ixN_seq hn
    refine ⟨l, ys, j, n, ys[n], rfl, rfl, q2, by omega, by omega, z1, by simp [z2], ?_⟩
    exact hk _ g s1 _ F1 _ Dn (st1.chOwn (hi s1) e1 q2 (q3.eraseIdx n)) (h4.mono fun f s2 => FlPost.mono ee)
  | _ => exact h2.elim
/-- x[a] = e -/
theorem jb_setItem (i : Nat) {f : τ → List D} {x : Str} {a e : Expr} {p1 p2 : Pos} {ma me : τ → R (D × τ)} {k : List D → τ → R (Fl α β × τ)} (he : JE C φ e me) (ha : JE C φ a ma) (hk : ∀ ds, JB C (fun s => (φ s).set i (some (.own ds))) rest ψ χ ρ (k ds))
    (hi : ∀ s, (φ s)[i]?.join = some (.own (f s)) := by intro _; rfl) (hN : C.X.N[i]? = some x := by rfl) (hv : Vis C.X.env.scope x := by first | exact Or.inl rfl | exact Or.inr (Or.inl rfl) | exact Or.inr (Or.inr rfl)) (hd : (x == ("__debug__" : Str)) = false := by decide) (hcd : (x == ("__classdict__" : Str)) = false := by decide)
    (hsub : ∀ v, assign (.Subscript (.Name x p1) a p2) C.X.env v = (do
      let ov ← holding [v] (eval (.Name x p1) C.X.env)
      let iv ← holding [v, ov] (eval a C.X.env)
      standAt p2
      holding [v, ov, iv] (setItem ov iv v)
      release [v, ov, iv] []) := by intro _; rfl)
    (hs : swapsWithSole [.Subscript (.Name x p1) a p2] e pos.line C.X.env = pure false := by rfl) (hw : swappedStores [.Subscript (.Name x p1) a p2] e C.X.env = pure none := by rfl)
    (h1 : (assignEach [.Subscript (.Name x p1) a p2] C.X.env).map (·.2) = [assign (.Subscript (.Name x p1) a p2) C.X.env] := by rfl) :
    JB C φ (.Assign [.Subscript (.Name x p1) a p2] e pos :: rest) ψ χ ρ (fun s => (me s).bind fun p => (ma p.2).bind fun q => (asInt q.1).bind fun j => (opt (ixN (f q.2).length j)).bind fun n => k ((f q.2).set n p.1) q.2) := fun g s σ F H Dn st h => by
  refine ⟨_, pss_cons (ps_asg pe_wp (pg_sub (pe_var hN hv hd hcd) pe_wp set_list hsub) hs hw h1) ps_wp, ?_⟩
  refine he g s σ F H _ st (h.bind.mono fun d s1 h1 v F1 H1 ee r1 st1 => ?_)
  obtain ⟨l, xs, e1, e2, _⟩ := st1.env.ownAt (hi s1)
  refine ⟨.ref l, e1, ?_⟩
  refine ha g s1 σ F1 H1 _ st1 (h1.bind.mono fun d2 s2 h2 v2 F2 H2 ee2 r2 st2 => ?_)
  have h3 := h2.bind1
  cases r2 with
  | int j =>
    obtain ⟨n, hn, h4⟩ := (show Srv C ((opt (ixN (f s2).length j)).bind fun _ => _) _ from h3).bind1.opt
    obtain ⟨l', ys, q1, q2, q3, _⟩ := st2.env.ownAt (hi s2)
    rw [e1] at q1
    cases q1
    refine ⟨l, ys, j, n, rfl, rfl, q2, by rw [q3.length]; exact hn, ?_⟩
    exact hk _ g s2 _ F2 _ Dn (st2.chOwn (hi s2) e1 q2 (Rps.set (r1.mono ee2) n q3)) (h4.mono fun f s2 => FlPost.mono (ee.trans ee2))
  | _ => exact h3.elim
/-! ### lists of one's own, read while nothing changes -/
def viewS : Option SV → Option SV
  | some (.own ds) => some (.val (.lst ds))
  | some (.val d) => some (.val d)
  | some (.deal _ _ cs b) => some (.val (.lst [.lst (cs.map .int), .int b]))
  | _ => none
def view (e : Slots) : Slots := e.map viewS
mutual
def noLst : D → Bool
  | .non => true
  | .bl _ => true
  | .int _ => true
  | .str _ => true
  | .tup xs => noLsts xs
  | .dct [] => true
  | .obj _ fs => noLstF fs
  | _ => false
def noLsts : List D → Bool
  | [] => true
  | x :: xs => noLst x && noLsts xs
def noLstF : List (Str × D) → Bool
  | [] => true
  | x :: xs => noLstP x && noLstF xs
def noLstP : Str × D → Bool
  | (_, d) => noLst d
end
theorem noLstF_all : ∀ {fs : List (Str × D)}, noLstF fs = true → ∀ d ∈ fs.map (·.2), noLst d = true
  | [], _, _, h => by simp at h
  | (x, d) :: fs, h, e, he => by
    rw [noLstF, noLstP] at h
    rcases List.mem_cons.mp he with z | z
    · rw [z]; exact (and2 h).1
    · exact noLstF_all (and2 h).2 e z
theorem sizeOf_fld {d : D} : ∀ {fs : List (Str × D)}, d ∈ fs.map (·.2) → sizeOf d < sizeOf fs
  | [], h => by simp at h
  | (x, e) :: fs, h => by
    rcases List.mem_cons.mp h with z | z
    · subst z; simp; omega
    · have := sizeOf_fld z
      simp; omega
theorem noLsts_all : ∀ {ds : List D}, noLsts ds = true → ∀ d ∈ ds, noLst d = true
  | d :: ds, h, e, he => by
    rw [noLsts] at h
    rcases List.mem_cons.mp he with z | z
    · rw [z]; exact (and2 h).1
    · exact noLsts_all (and2 h).2 e z
theorem rps_of {T : Txt} {F F' : Hp} : ∀ {vs : List V} {ds : List D}, Rps T F vs ds → (∀ v d, d ∈ ds → Rp T F v d → Rp T F' v d) → Rps T F' vs ds
  | _, [], .nil, _ => .nil
  | _, d :: ds, .cons h r, k => .cons (k _ _ (List.Mem.head _) h) (rps_of r fun v d hd => k v d (List.Mem.tail _ hd))
theorem rp_noLst {T : Txt} {F F' : Hp} (ht : ∀ a o, F a = some o → (∀ xs, o ≠ .lst xs) → F' a = some o) : ∀ (d : D) {v : V}, noLst d = true → Rp T F v d → Rp T F' v d
  | .non, _, _, .non => .non
  | .bl _, _, _, .bl _ => .bl _
  | .int _, _, _, .int _ => .int _
  | .str _, _, _, .str _ => .str _
  | .tup ds, _, n, .tup h r => .tup (ht _ _ h (fun _ => nofun)) (rps_of r fun v d hd rv => rp_noLst ht d (noLsts_all (by rw [noLst] at n; exact n) d hd) rv)
  | .dct [], _, _, .dct0 h => .dct0 (ht _ _ h (fun _ => nofun))
  | .obj c ds, _, n, .obj hc h hm r => .obj hc (ht _ _ h (fun _ => nofun)) hm (rps_of r fun v d hd rv => rp_noLst ht d (noLstF_all (by rw [noLst] at n; exact n) d hd) rv)
termination_by d => sizeOf d
decreasing_by
  all_goals simp_wf
  · have := List.sizeOf_lt_of_mem hd; omega
  · have := sizeOf_fld hd; omega
abbrev lookCtx (C : Ctx) (F H : Hp) : Ctx := { C with M := fun _ => False, F0 := F, H0 := H, eh := [], loose := false }
theorem Good.look (g : Good C) {F H : Hp} : Good (lookCtx C F H) := ⟨g.K, g.mg, g.pr, g.w, g.base, g.calm, g.nd, g.room, g.own, g.tk⟩
theorem borrow_core {e : Slots} {σ : L2.St} {F H : Hp} (st : St8 C e σ F H) : ∃ F1, Same F F1 ∧ St8 (lookCtx C F1 H) (view e) σ F1 H ∧
    ∀ F' H', Same F1 F' → St8 (lookCtx C F1 H) (view e) σ F' H' → ∃ F2, Same F F2 ∧ St8 C e σ F2 H' ∧ ∀ v d, noLst d = true → Rp C.T F' v d → Rp C.T F2 v d := by
  classical
  let L : Addr → Prop := fun a => (∃ (i : Nat) (ds : List D), e[i]?.join = some (SV.own ds) ∧ σ[i]? = some (some (V.ref a))) ∨ ∃ (i : Nat) (l1 l2 : Addr) (cs : List Int) (b : Int), e[i]?.join = some (SV.deal l1 l2 cs b) ∧ (a = l1 ∨ a = l2)
  have own : ∀ {a}, L a → F a = none ∧ ∃ xs, H a = some (.lst xs) := fun {a} ha => by
    rcases ha with ⟨i, ds, hi, hv⟩ | ⟨i, l1, l2, cs, b, hi, hv⟩
    · obtain ⟨l, xs, e1, e2, _, e4, _⟩ := st.env.ownAt hi
      rw [hv] at e1
      cases e1
      exact ⟨e4, xs, e2⟩
    · obtain ⟨A, h1, _⟩ := id st.env
      have q := h1 i
      rw [hi] at q
      obtain ⟨_, _, q1, q2, q3, q4, _⟩ := q
      rcases hv with rfl | rfl
      · exact ⟨q3, _, q1⟩
      · exact ⟨q4, _, q2⟩
  let F1 : Hp := fun a => if L a then H a else F a
  have sF : Same F F1 := fun a o h => by
    show (if L a then H a else F a) = some o
    rw [if_neg fun z => by rw [(own z).1] at h; cases h]
    exact h
  have sH : Same F1 H := fun a o h => by
    by_cases z : L a
    · rw [show F1 a = H a from if_pos z] at h
      exact h
    · rw [show F1 a = F a from if_neg z] at h
      exact st.sub a o h
  have s0 : St8 (lookCtx C F1 H) (view e) σ F1 H := by
    refine ⟨Step.refl _ _ _, sH, ⟨fun _ => [], fun i => ?_, fun i j a ha => by cases ha⟩, by rw [view, List.length_map]; exact st.len⟩
    obtain ⟨A, h1, _⟩ := id st.env
    have q := h1 i
    have ev : (view e)[i]?.join = viewS e[i]?.join := by
      rw [view, List.getElem?_map]
      cases e[i]? <;> rfl
    rw [ev]
    cases z : e[i]?.join with
    | none => rfl
    | some sv =>
      rw [z] at q
      cases sv with
      | val d =>
        obtain ⟨_, x, q2, q3⟩ := q
        exact ⟨rfl, x, q2, q3.mono sF⟩
      | own ds =>
        obtain ⟨l, xs, e1, e2, e3, _, _⟩ := st.env.ownAt z
        refine ⟨rfl, .ref l, by rw [e1]; rfl, .lst ?_ (e3.mono sF)⟩
        show (if L l then H l else F l) = some (.lst xs)
        rw [if_pos (Or.inl ⟨i, ds, z, e1⟩)]
        exact e2
      | deal l1 l2 cs b =>
        obtain ⟨_, q0, q1, q2, q3, q4, _⟩ := q
        have f1 : F1 l1 = some (.lst [.ref l2, .int b]) := by
          show (if L l1 then H l1 else F l1) = _
          rw [if_pos (Or.inr ⟨i, l1, l2, cs, b, z, .inl rfl⟩)]
          exact q1
        have f2 : F1 l2 = some (.lst (cs.map V.int)) := by
          show (if L l2 then H l2 else F l2) = _
          rw [if_pos (Or.inr ⟨i, l1, l2, cs, b, z, .inr rfl⟩)]
          exact q2
        exact ⟨rfl, .ref l1, q0, .lst f1 (.cons (.lst f2 (Rps.ints _)) (.cons (.int b) .nil))⟩
      | _ => rfl
  refine ⟨F1, sF, s0, fun F' H' ss s1 => ?_⟩
  let F2 : Hp := fun a => if L a then none else F' a
  have f2 : ∀ {a o}, F2 a = some o → ¬ L a ∧ F' a = some o := fun {a o} h => by
    by_cases z : L a
    · rw [show F2 a = none from if_pos z] at h
      cases h
    · rw [show F2 a = F' a from if_neg z] at h
      exact ⟨z, h⟩
  have hk : ∀ a o, H a = some o → H' a = some o := fun a o h => s1.step.keep a o h fun z => z
  have s2 : Same F F2 := fun a o h => by
    have nl : ¬ L a := fun z => by rw [(own z).1] at h; cases h
    show (if L a then none else F' a) = some o
    rw [if_neg nl]
    exact ss a o (sF a o h)
  refine ⟨F2, s2, ⟨⟨st.step.fz.trans s2, fun a o h => ?_, fun a o h m => hk a o (st.step.keep a o h m), fun a h => st.step.dom a (s1.step.dom a h)⟩, fun a o h => s1.sub a o (f2 h).2, ?_, st.len⟩, fun v d n r => rp_noLst (fun a o h hno => ?_) d n r⟩
  · obtain ⟨nl, h'⟩ := f2 h
    rcases s1.step.new a o h' with z | z | z
    · exact st.step.new a o ((show F1 a = F a from if_neg nl).symm.trans z)
    · exact .inr (.inl (st.step.dom a z))
    · exact z.elim
  · obtain ⟨A, h1, h2⟩ := id st.env
    refine ⟨A, fun i => (h1 i).move s2 fun a ha => ?_, h2⟩
    obtain ⟨⟨o, e1⟩, e2, _⟩ := (h1 i).own_some a ha
    refine ⟨by rw [hk a o e1, e1], ?_⟩
    by_cases z : L a
    · exact if_pos z
    · show (if L a then none else F' a) = none
      rw [if_neg z]
      cases q : F' a with
      | none => rfl
      | some u =>
        rcases s1.step.new a u q with y | y | y
        · have y' := (show F1 a = F a from if_neg z).symm.trans y
          rw [e2] at y'; cases y'
        · have y' : H a = none := y
          rw [e1] at y'; cases y'
        · exact y.elim
  · have nl : ¬ L a := fun z => by
      obtain ⟨_, ys, q⟩ := own z
      have := ss a _ (show F1 a = some (.lst ys) from (if_pos z).trans q)
      rw [h] at this
      cases this
      exact hno ys rfl
    show (if L a then none else F' a) = _
    rw [if_neg nl]
    exact h
theorem noErr_srv {α : Type} {r : R α} {K : α → Prop} (h : Srv1 C (noErr r) K) : ∃ a, r = .ok a ∧ K a := by
  cases r with
  | ok a => exact ⟨a, rfl, h⟩
  | err c d => exact h.elim
  | bad => exact h.elim
/-- e, in which lists of one's own are only read; what it gives holds no list -/
theorem je_borrow {e : Expr} {me : τ → Unit → R (D × Unit)} (h : ∀ s F0 H0, JE (lookCtx C F0 H0) (fun _ : Unit => view (φ s)) e (me s)) :
    JE C φ e (fun s => (noErr (me s ())).bind fun d => (chk (noLst d.1) d.1).bind fun d => .ok (d, s)) := fun g s σ F H Q st hs => by
  obtain ⟨⟨d, _⟩, e1, h2⟩ := noErr_srv hs.bind1
  obtain ⟨c, h3⟩ := h2.bind1.chk
  obtain ⟨F1, sF, s0, back⟩ := borrow_core st
  refine h s F1 H g.look () σ F1 H Q s0 ?_
  rw [e1]
  intro v F' H' ee r st1
  obtain ⟨F2, q1, q2, q3⟩ := back F' H' ee st1
  exact (show ∀ v F' H', Same F F' → Rp C.T F' v d → St8 C (φ s) σ F' H' → Q v H' from h3) v F2 H' q1 (q3 v d c r) q2
theorem jt_borrow {e : Expr} {me : τ → Unit → R (Bool × Unit)} (h : ∀ s F0 H0, JT (lookCtx C F0 H0) (fun _ : Unit => view (φ s)) e (me s)) :
    JT C φ e (fun s => (noErr (me s ())).bind fun d => .ok (d.1, s)) := fun g s σ F H Q st hs => by
  obtain ⟨⟨d, _⟩, e1, h3⟩ := noErr_srv hs.bind1
  obtain ⟨F1, sF, s0, back⟩ := borrow_core st
  refine h s F1 H g.look () σ F1 H Q s0 ?_
  rw [e1]
  intro F' H' ee st1
  obtain ⟨F2, q1, q2, _⟩ := back F' H' ee st1
  exact (show ∀ F' H', Same F F' → St8 C (φ s) σ F' H' → Q d H' from h3) F2 H' q1 q2
end
end Pv
set_option Elab.async false
set_option linter.all false
set_option maxRecDepth 100000
/-! PvA: pairs stored, isinstance, starred items, dicts of one's own. -/
namespace Pv
open PySem PySem.Spec PyProof.Rows L2
section
variable {C : Ctx} {τ α β : Type} {φ : τ → Slots} {ψ : α → τ → Slots} {χ : β → τ → Slots} {ρ : τ → Slots} {rest : List Stmt} {pos pos2 p : Pos}
theorem ja_star {e : Expr} {p : Pos} {es : List Expr} {m : τ → R (D × τ)} {n : τ → R (List D × τ)} (h : JE C φ e m) (k : JA C φ es n) (hst : starEach (.Starred e p :: es) C.X.env = (true, eval e C.X.env) :: starEach es C.X.env := by rfl) :
    JA C φ (.Starred e p :: es) (fun s => (m s).bind fun q => (asItems q.1).bind fun ds => (n q.2).bind fun r => .ok (ds ++ r.1, r.2)) := fun gd s σ F H Q st hs => by
  refine ⟨_, StX.pa_star pe_wp pa_wp hst, ?_⟩
  refine h gd s σ F H _ st (hs.bind.mono fun d s1 h1 v F1 H1 e1 r1 st1 => ?_)
  have h2 := h1.bind1
  cases q : asItems d with
  | bad => rw [q] at h2; exact h2.elim
  | err c e => exact absurd q asItems_ne
  | ok ds =>
    rw [q] at h2
    obtain ⟨a, xs, rfl, hq, rr⟩ := seq_items st1.sub r1 q
    refine ⟨a, xs, rfl, by rw [gd.K]; exact hq.symm, ?_⟩
    have h3 : Srv C ((n s1).bind fun r => .ok (ds ++ r.1, r.2)) (fun ds s' => ∀ vs F' H', Same F F' → Rps C.T F' vs ds → St8 C (φ s') σ F' H' → Q vs H') := h2
    exact k gd s1 σ F1 H1 _ st1 (h3.bind.mono fun es s2 h4 vs F2 H2 e2 r2 st2 => h4 (xs ++ vs) F2 H2 (e1.trans e2) ((rr.mono e2).append r2) st2)

/-! ### several names at once -/
def two : List D → R (D × D)
  | [d, e] => .ok (d, e)
  | _ => .bad
def three : List D → R (D × D × D)
  | [d, e, f] => .ok (d, e, f)
  | _ => .bad
theorem St8.set2 {env : Slots} {σ : L2.St} {F H : Hp} {i j : Nat} {v w : V} {d e : D} (st : St8 C env σ F H) (r : Rp C.T F v d) (q : Rp C.T F w e) : St8 C ((env.set i (some (.val d))).set j (some (.val e))) ((σ.set i (some v)).set j (some w)) F H := (st.setVal r).setVal q
theorem jb_par2 (i j : Nat) {x y : Str} {a b : Expr} {px py pt : Pos} {kt k2 pt2} {na : τ → R (List D × τ)} {k : D → D → τ → R (Fl α β × τ)} (ha : JA C φ [a, b] na) (hk : ∀ d e, JB C (fun s => ((φ s).set i (some (.val d))).set j (some (.val e))) rest ψ χ ρ (k d e)) (hh : C.hot = false := by rfl)
    (hi : C.X.N[i]? = some x := by rfl) (hj : C.X.N[j]? = some y := by rfl) (hij : i ≠ j := by decide) (hx : C.X.env.scope.names.lookup x = some .local := by rfl) (hy : C.X.env.scope.names.lookup y = some .local := by rfl)
    (hw : swappedStores [.Tuple [.Name x px, .Name y py] kt pt] (.Tuple [a, b] k2 pt2) C.X.env = pure (some [x, y]) := by rfl) (hs : swapsWithSole [.Tuple [.Name x px, .Name y py] kt pt] (.Tuple [a, b] k2 pt2) pos.line C.X.env = pure false := by rfl) :
    JB C φ (.Assign [.Tuple [.Name x px, .Name y py] kt pt] (.Tuple [a, b] k2 pt2) pos :: rest) ψ χ ρ (fun s => (na s).bind fun p => (two p.1).bind fun q => k q.1 q.2 p.2) := fun g s σ F H Dn st h => by
  refine ⟨_, pss_cons (ps_par (g.calm hh) g.nd hi hj hij hx hy pa_wp hw hs) ps_wp, ?_⟩
  refine ha g s σ F H _ st (h.bind.mono fun ds s1 h1 vs F1 H1 ee r st1 => ?_)
  have h2 := h1.bind1
  cases r with
  | nil => exact h2.elim
  | cons rv r =>
    cases r with
    | nil => exact h2.elim
    | cons rw r =>
      cases r with
      | nil => exact ⟨_, _, rfl, hk _ _ g s1 _ F1 _ Dn (st1.set2 rv rw) (Srv.mono h2 fun f s2 => FlPost.mono ee)⟩
      | cons _ _ => exact h2.elim
theorem jb_par3 (i j l : Nat) {x y z : Str} {a b c : Expr} {px py pz pt : Pos} {kt k2 pt2} {na : τ → R (List D × τ)} {k : D → D → D → τ → R (Fl α β × τ)} (ha : JA C φ [a, b, c] na) (hk : ∀ d e f, JB C (fun s => (((φ s).set i (some (.val d))).set j (some (.val e))).set l (some (.val f))) rest ψ χ ρ (k d e f)) (hh : C.hot = false := by rfl)
    (hi : C.X.N[i]? = some x := by rfl) (hj : C.X.N[j]? = some y := by rfl) (hl : C.X.N[l]? = some z := by rfl) (hij : i ≠ j := by decide) (hil : i ≠ l := by decide) (hjl : j ≠ l := by decide) (hx : C.X.env.scope.names.lookup x = some .local := by rfl) (hy : C.X.env.scope.names.lookup y = some .local := by rfl) (hz : C.X.env.scope.names.lookup z = some .local := by rfl)
    (hw : swappedStores [.Tuple [.Name x px, .Name y py, .Name z pz] kt pt] (.Tuple [a, b, c] k2 pt2) C.X.env = pure (some [x, y, z]) := by rfl) (hs : swapsWithSole [.Tuple [.Name x px, .Name y py, .Name z pz] kt pt] (.Tuple [a, b, c] k2 pt2) pos.line C.X.env = pure false := by rfl) :
    JB C φ (.Assign [.Tuple [.Name x px, .Name y py, .Name z pz] kt pt] (.Tuple [a, b, c] k2 pt2) pos :: rest) ψ χ ρ (fun s => (na s).bind fun p => (three p.1).bind fun q => k q.1 q.2.1 q.2.2 p.2) := fun g s σ F H Dn st h => by
  refine ⟨_, pss_cons (ps_par3 (g.calm hh) g.nd hi hj hl hij hil hjl hx hy hz pa_wp hw hs) ps_wp, ?_⟩
  refine ha g s σ F H _ st (h.bind.mono fun ds s1 h1 vs F1 H1 ee r st1 => ?_)
  have h2 := h1.bind1
  cases r with
  | nil => exact h2.elim
  | cons rv r =>
    cases r with
    | nil => exact h2.elim
    | cons rw r =>
      cases r with
      | nil => exact h2.elim
      | cons ru r =>
        cases r with
        | nil => exact ⟨_, _, _, rfl, hk _ _ _ g s1 _ F1 _ Dn ((st1.set2 rv rw).setVal ru) (Srv.mono h2 fun f s2 => FlPost.mono ee)⟩
        | cons _ _ => exact h2.elim
/-- a, b = e, [..] -/
theorem jb_par2vl (i j : Nat) {x y : Str} {a b : Expr} {px py pt : Pos} {kt k2 pt2} {ma : τ → R (D × τ)} {mb : τ → R (List D × τ)} {k : D → List D → τ → R (Fl α β × τ)} (ha : JE C φ a ma) (hb : JEL C φ b mb) (hk : ∀ d ds, JB C (fun s => ((φ s).set i (some (.val d))).set j (some (.own ds))) rest ψ χ ρ (k d ds)) (hh : C.hot = false := by rfl)
    (hi : C.X.N[i]? = some x := by rfl) (hj : C.X.N[j]? = some y := by rfl) (hij : i ≠ j := by decide) (hx : C.X.env.scope.names.lookup x = some .local := by rfl) (hy : C.X.env.scope.names.lookup y = some .local := by rfl)
    (hw : swappedStores [.Tuple [.Name x px, .Name y py] kt pt] (.Tuple [a, b] k2 pt2) C.X.env = pure (some [x, y]) := by rfl) (hs : swapsWithSole [.Tuple [.Name x px, .Name y py] kt pt] (.Tuple [a, b] k2 pt2) pos.line C.X.env = pure false := by rfl)
    (h1 : starEach [a, b] C.X.env = (false, eval a C.X.env) :: starEach [b] C.X.env := by rfl) (h2 : starEach [b] C.X.env = (false, eval b C.X.env) :: starEach [] C.X.env := by rfl) :
    JB C φ (.Assign [.Tuple [.Name x px, .Name y py] kt pt] (.Tuple [a, b] k2 pt2) pos :: rest) ψ χ ρ (fun s => (ma s).bind fun p => (mb p.2).bind fun q => k p.1 q.1 q.2) := fun g s σ F H Dn st h => by
  refine ⟨_, pss_cons (ps_par (g.calm hh) g.nd hi hj hij hx hy (pa_cons pe_wp (pa_cons pe_wp pa_nil h2) h1) hw hs) ps_wp, ?_⟩
  refine ha g s σ F H _ st (h.bind.mono fun d s1 h1 v F1 H1 e1 r1 st1 => ?_)
  refine hb g s1 σ F1 H1 _ st1 (h1.bind.mono fun ds s2 h2 l xs F2 H2 e2 hl r2 st2 => ?_)
  exact ⟨_, _, rfl, hk _ _ g s2 _ F2 _ Dn ((st2.setVal (r1.mono e2)).newOwn hl r2) (Srv.mono h2 fun f s2 => FlPost.mono (e1.trans e2))⟩
/-- a, b = [..], [] -/
theorem jb_par2ll (i j : Nat) {x y : Str} {a : Expr} {px py pt p0 : Pos} {kt k2 pt2} {ma : τ → R (List D × τ)} {k : List D → τ → R (Fl α β × τ)} (ha : JEL C φ a ma) (hk : ∀ ds, JB C (fun s => ((φ s).set i (some (.own ds))).set j (some (.own []))) rest ψ χ ρ (k ds)) (hh : C.hot = false := by rfl)
    (hi : C.X.N[i]? = some x := by rfl) (hj : C.X.N[j]? = some y := by rfl) (hij : i ≠ j := by decide) (hx : C.X.env.scope.names.lookup x = some .local := by rfl) (hy : C.X.env.scope.names.lookup y = some .local := by rfl)
    (hw : swappedStores [.Tuple [.Name x px, .Name y py] kt pt] (.Tuple [a, .List [] p0] k2 pt2) C.X.env = pure (some [x, y]) := by rfl) (hs : swapsWithSole [.Tuple [.Name x px, .Name y py] kt pt] (.Tuple [a, .List [] p0] k2 pt2) pos.line C.X.env = pure false := by rfl)
    (h1 : starEach [a, .List [] p0] C.X.env = (false, eval a C.X.env) :: starEach [.List [] p0] C.X.env := by rfl) (h2 : starEach [.List [] p0] C.X.env = (false, eval (.List [] p0) C.X.env) :: starEach [] C.X.env := by rfl) :
    JB C φ (.Assign [.Tuple [.Name x px, .Name y py] kt pt] (.Tuple [a, .List [] p0] k2 pt2) pos :: rest) ψ χ ρ (fun s => (ma s).bind fun p => k p.1 p.2) := fun g s σ F H Dn st h => by
  refine ⟨_, pss_cons (ps_par (g.calm hh) g.nd hi hj hij hx hy (pa_cons pe_wp (pa_cons (pe_lst pa_nil) pa_nil h2) h1) hw hs) ps_wp, ?_⟩
  refine ha g s σ F H _ st (h.bind.mono fun ds s1 h1 l xs F1 H1 e1 hl r1 st1 => ?_)
  exact ⟨Nat.zero_le _, fun q hq => ⟨_, _, rfl, hk _ g s1 _ F1 _ Dn ((st1.newOwn hl r1).newOwn hq .nil) (Srv.mono h1 fun f s2 => FlPost.mono e1)⟩⟩
/-- a, b = e, e a tuple of two -/
def tup2 : D → R (D × D)
  | .tup [d, e] => .ok (d, e)
  | _ => .bad
def tup3 : D → R (D × D × D)
  | .tup [d, e, f] => .ok (d, e, f)
  | _ => .bad
theorem jb_unp {tg e : Expr} {is : List Nat} {parts : D → Option (List D)} {me : τ → R (D × τ)} {k : List D → τ → R (Fl α β × τ)} (he : JE C φ e me) (hg : JG C tg is parts) (hk : ∀ ds, JB C (fun s => setMany (φ s) is ds) rest ψ χ ρ (k ds))
    (hs : swapsWithSole [tg] e pos.line C.X.env = pure false := by rfl) (hw : swappedStores [tg] e C.X.env = pure none := by rfl) (h1 : (assignEach [tg] C.X.env).map (·.2) = [assign tg C.X.env] := by rfl) :
    JB C φ (.Assign [tg] e pos :: rest) ψ χ ρ (fun s => (me s).bind fun p => (opt (parts p.1)).bind fun ds => k ds p.2) := fun g s σ F H Dn st h => by
  refine ⟨_, pss_cons (ps_asg pe_wp pg_wp hs hw h1) ps_wp, ?_⟩
  refine he g s σ F H _ st (h.bind.mono fun d s1 h1 v F1 H1 e1 r1 st1 => ?_)
  obtain ⟨ds, hp, h2⟩ := h1.bind1.opt
  exact hg g _ σ F1 H1 v d ds _ st1 r1 hp fun σ' _ st2 => hk ds g s1 σ' F1 H1 Dn st2 (Srv.mono h2 fun f s2 => FlPost.mono e1)

/-! ### isinstance -/
def tagD : D → Option String
  | .non => some "NoneType"
  | .bl _ => some "bool"
  | .int _ => some "int"
  | .str _ => some "str"
  | .tup _ => some "tuple"
  | .lst _ => some "list"
  | .scr _ => some "list"
  | .dct _ => some "dict"
  | _ => none
def isAB (t T : String) : Bool := t == T || (t == "bool" && T == "int")
def tags : List String := ["NoneType", "bool", "int", "str", "tuple", "list", "dict"]
theorem tag_ty {T : Txt} {F H : Hp} {v : V} {d : D} {t : String} (sub : Same F H) (r : Rp T F v d) (e : tagD d = some t) : TyX T.K H v (.type t) ∧ t ∈ tags := by
  cases r with
  | non => cases e; exact ⟨.base .non, by decide⟩
  | bl b => cases e; exact ⟨.base (.bl b), by decide⟩
  | int b => cases e; exact ⟨.base (.int b), by decide⟩
  | str b => cases e; exact ⟨.base (.str b), by decide⟩
  | tup h _ => cases e; exact ⟨.base (.tup (sub _ _ h)), by decide⟩
  | lst h _ => cases e; exact ⟨.base (.lst (sub _ _ h)), by decide⟩
  | dct0 h => cases e; exact ⟨.base (.dK (sub _ _ h)), by decide⟩
  | scr h =>
    cases e
    refine ⟨?_, by decide⟩
    rcases h with ⟨o, h⟩ | ⟨o, its, n, h, hc, _⟩
    · exact .base (.frz (sub _ _ h))
    · exact .kList h hc
  | _ => cases e
def KitB (T : String) : Prop := ∀ t ∈ tags, kitB t T = some (isAB t T)
theorem kit_int : KitB "int" := by unfold KitB; decide +kernel
theorem kit_bool : KitB "bool" := by unfold KitB; decide +kernel
theorem kit_str : KitB "str" := by unfold KitB; decide +kernel
theorem kit_tuple : KitB "tuple" := by unfold KitB; decide +kernel
theorem kit_list : KitB "list" := by unfold KitB; decide +kernel
theorem kit_dict : KitB "dict" := by unfold KitB; decide +kernel
/-- what the classes of the text are to isinstance: cs, those whose instances may come -/
structure TyC (T : Txt) (cs : List Str) : Prop where
  ty : ∀ c Ca, c ∈ cs → T.cls c = some Ca → Cls T.K Ca ∧ PySem.W.findIn T.K (.ref Ca) "__class__" = some (some (.builtin "object.__class__")) ∧ PySem.W.specialIn T.K (.builtin "object.__class__") "__get__" = some (some (.builtin "getset_descriptor.__get__")) ∧
    PySem.W.takesIn T.K (.builtin "object.__class__") = some true ∧ PySem.W.mroIn T.K Ca (.type "object") = some true
  no : ∀ c Ca, c ∈ cs → T.cls c = some Ca → ∀ t ∈ ["int", "bool", "str", "tuple", "list", "dict"], PySem.W.kitOne T.K (.ref Ca) (.type t) = some false
  own : ∀ c Ca c' Ca', c ∈ cs → c' ∈ cs → T.cls c = some Ca → T.cls c' = some Ca' → PySem.W.kitOne T.K (.ref Ca) (.ref Ca') = some (c == c')
  sys : ∀ c Ca, c ∈ cs → T.cls c = some Ca → ∀ t ∈ tags, PySem.W.kitOne T.K (.type t) (.ref Ca) = some false
def isTy (cs : List Str) (Ts : List String) (d : D) : R D := match d with
  | .obj c _ => chk (cs.contains c) (.bl false)
  | d => (opt (tagD d)).bind fun t => .ok (.bl (Ts.any (isAB t)))
theorem kitAny_sys {K : PySem.W.Frag} {t : String} (ht : t ∈ tags) : ∀ {Ts : List String}, (∀ T ∈ Ts, KitB T) → PySem.W.kitAny K (.type t) (Ts.map Value.type) = some (Ts.any (isAB t))
  | [], _ => rfl
  | T :: Ts, h => by
    rw [List.map_cons, List.any_cons]
    refine kitAny_cons (kit_ty (h T (List.Mem.head _) t ht)) (fun hb => ?_) (fun hb => by rw [hb]; rfl)
    rw [hb, Bool.false_or]
    exact kitAny_sys ht fun T' hT => h T' (List.Mem.tail _ hT)
theorem kitAny_no {K : PySem.W.Frag} {u : Value} : ∀ {Ts : List String}, (∀ T ∈ Ts, PySem.W.kitOne K u (.type T) = some false) → PySem.W.kitAny K u (Ts.map Value.type) = some false
  | [], _ => rfl
  | T :: Ts, h => kitAny_cons (h T (List.Mem.head _)) (fun _ => kitAny_no fun T' hT => h T' (List.Mem.tail _ hT)) (fun hb => by cases hb)
/-- the type of a value, and what it is of the types Ts -/
theorem isTy_kit {T : Txt} {cs : List Str} {Ts : List String} {F H : Hp} {v : V} {d : D} {K : D → Prop} {C : Ctx} (tc : TyC T cs) (hT : ∀ x ∈ Ts, KitB x ∧ x ∈ ["int", "bool", "str", "tuple", "list", "dict"]) (sub : Same F H) (r : Rp T F v d) (h : Srv1 C (isTy cs Ts d) K) :
    ∃ t b, TyX T.K H v t ∧ PySem.W.kitAny T.K t (Ts.map Value.type) = some b ∧ K (.bl b) := by
  have base : ∀ {t}, tagD d = some t → (∀ c fs, d ≠ .obj c fs) → K (.bl (Ts.any (isAB t))) → ∃ t b, TyX T.K H v t ∧ PySem.W.kitAny T.K t (Ts.map Value.type) = some b ∧ K (.bl b) := fun {t} e _ k =>
    ⟨_, _, (tag_ty sub r e).1, kitAny_sys (tag_ty sub r e).2 fun x hx => (hT x hx).1, k⟩
  cases d with
  | obj c fs =>
    obtain ⟨hc, k⟩ := (show Srv1 C (chk (cs.contains c) (D.bl false)) K from h).chk
    have hc' : c ∈ cs := by simpa using hc
    cases r with
    | obj ec hF hn hr =>
      obtain ⟨t1, t2, t3, t4, t5⟩ := tc.ty c _ hc' ec
      exact ⟨_, _, .base (.ins (sub _ _ hF) t1 t2 t3 t4 t5), kitAny_no fun x hx => tc.no c _ hc' ec x (hT x hx).2, k⟩
  | non => exact base rfl (fun _ _ z => nomatch z) h
  | bl b => exact base rfl (fun _ _ z => nomatch z) h
  | int b => exact base rfl (fun _ _ z => nomatch z) h
  | str b => exact base rfl (fun _ _ z => nomatch z) h
  | tup b => exact base rfl (fun _ _ z => nomatch z) h
  | lst b => exact base rfl (fun _ _ z => nomatch z) h
  | scr b => exact base rfl (fun _ _ z => nomatch z) h
  | dct b => exact base rfl (fun _ _ z => nomatch z) h
  | cache => exact h.elim
  | fre _ => exact h.elim
theorem je_isi {cs : List Str} {T : String} {x : Str} {e : Expr} {px pf : Pos} {me : τ → R (D × τ)} (tc : TyC C.T cs) (hT : KitB T ∧ T ∈ ["int", "bool", "str", "tuple", "list", "dict"]) (hm : C.T.mg "isinstance" = none) (hm2 : C.T.mg x = none) (he : JE C φ e me)
    (hv : bootBuiltins x = some (.type T) := by decide +kernel) (hg : Gl C.X "isinstance" := by rfl) (hg2 : Gl C.X x := by rfl) (hn : x ≠ "__name__" := by decide) (hdb : (x == ("__debug__" : Str)) = false := by decide)
    (h1 : starEach [e, .Name x px] C.X.env = (false, eval e C.X.env) :: starEach [.Name x px] C.X.env := by rfl) (h2 : starEach [.Name x px] C.X.env = (false, eval (.Name x px) C.X.env) :: starEach [] C.X.env := by rfl)
    (hpl : (backTo pos (starEach [.Name x px] C.X.env)).any (·.1) = false := by rfl) :
    JE C φ (.Call (.Name "isinstance" pf) [e, .Name x px] [] pos) (fun s => (me s).bind fun q => (isTy cs [T] q.1).bind fun d => .ok (d, q.2)) := fun gd s σ F H Q st hs => by
  refine ⟨_, pe_callB call_isi hg (by rw [gd.mg]; exact hm) boot_isinstance (pa_cons pe_wp (pa_cons (pe_bltn (v := .ty T) hg2 (by rw [gd.mg]; exact hm2) hv rfl hn hdb) pa_nil h2) h1) (by decide) (by decide) h1 hpl, ?_⟩
  refine he gd s σ F H _ st (hs.bind.mono fun d s1 h1 v F1 H1 e1 r1 st1 => ?_)
  obtain ⟨t, b, q1, q2, q3⟩ := isTy_kit tc (Ts := [T]) (fun x hx => by rw [List.mem_singleton.mp hx]; exact hT) st1.sub r1 h1.bind1
  refine ⟨v, .ty T, t, .type T, b, rfl, .ty T, by rw [gd.K]; exact q1, ?_, q3 _ F1 H1 e1 (.bl b) st1⟩
  rw [gd.K]
  have z : PySem.W.kitAny C.T.K t [.type T] = some b := q2
  unfold PySem.W.kitAny at z
  cases y : PySem.W.kitOne C.T.K t (.type T) with
  | none => rw [y] at z; cases z
  | some c =>
    rw [y] at z
    cases c with
    | true => cases z; rfl
    | false => cases z; rfl
theorem je_isi2 {cs : List Str} {T U : String} {x y : Str} {e : Expr} {px py pt pf : Pos} {kt : Nat} {me : τ → R (D × τ)} (tc : TyC C.T cs) (hT : KitB T ∧ T ∈ ["int", "bool", "str", "tuple", "list", "dict"]) (hU : KitB U ∧ U ∈ ["int", "bool", "str", "tuple", "list", "dict"]) (hm : C.T.mg "isinstance" = none) (hmx : C.T.mg x = none) (hmy : C.T.mg y = none) (he : JE C φ e me)
    (hv : bootBuiltins x = some (.type T) := by decide +kernel) (hv2 : bootBuiltins y = some (.type U) := by decide +kernel) (hg : Gl C.X "isinstance" := by rfl) (hgx : Gl C.X x := by rfl) (hgy : Gl C.X y := by rfl) (hn : x ≠ "__name__" := by decide) (hdb : (x == ("__debug__" : Str)) = false := by decide) (hn2 : y ≠ "__name__" := by decide) (hdb2 : (y == ("__debug__" : Str)) = false := by decide)
    (h1 : starEach [e, .Tuple [.Name x px, .Name y py] kt pt] C.X.env = (false, eval e C.X.env) :: starEach [.Tuple [.Name x px, .Name y py] kt pt] C.X.env := by rfl) (h2 : starEach [.Tuple [.Name x px, .Name y py] kt pt] C.X.env = (false, eval (.Tuple [.Name x px, .Name y py] kt pt) C.X.env) :: starEach [] C.X.env := by rfl)
    (h3 : starEach [.Name x px, .Name y py] C.X.env = (false, eval (.Name x px) C.X.env) :: starEach [.Name y py] C.X.env := by rfl) (h4 : starEach [.Name y py] C.X.env = (false, eval (.Name y py) C.X.env) :: starEach [] C.X.env := by rfl)
    (hpl : (backTo pos (starEach [.Tuple [.Name x px, .Name y py] kt pt] C.X.env)).any (·.1) = false := by rfl) :
    JE C φ (.Call (.Name "isinstance" pf) [e, .Tuple [.Name x px, .Name y py] kt pt] [] pos) (fun s => (me s).bind fun q => (isTy cs [T, U] q.1).bind fun d => .ok (d, q.2)) := fun gd s σ F H Q st hs => by
  refine ⟨_, pe_callB call_isiT hg (by rw [gd.mg]; exact hm) boot_isinstance (pa_cons pe_wp (pa_cons (pe_tup (pa_cons (pe_bltn (v := .ty T) hgx (by rw [gd.mg]; exact hmx) hv rfl hn hdb) (pa_cons (pe_bltn (v := .ty U) hgy (by rw [gd.mg]; exact hmy) hv2 rfl hn2 hdb2) pa_nil h4) h3)) pa_nil h2) h1) (by decide) (by decide) h1 hpl, ?_⟩
  refine he gd s σ F H _ st (hs.bind.mono fun d s1 h1 v F1 H1 e1 r1 st1 => ?_)
  refine ⟨sz_small (n := 2) (by decide), fun p hp => ?_⟩
  obtain ⟨t, b, q1, q2, q3⟩ := isTy_kit (H := upd H1 p (.tup [.ty T, .ty U])) tc (Ts := [T, U]) (fun x hx => by
    rcases List.mem_cons.mp hx with z | z
    · rw [z]; exact hT
    · rw [List.mem_singleton.mp z]; exact hU) (fun a o h => by rw [upd_ne (ne_of_none (st1.sub a o h) hp)]; exact st1.sub a o h) r1 h1.bind1
  refine ⟨v, p, [.ty T, .ty U], t, [.type T, .type U], b, rfl, upd_same, .cons (.ty T) (.cons (.ty U) .nil), by rw [gd.K]; exact q1, by rw [gd.K]; exact q2, ?_⟩
  exact q3 _ F1 _ e1 (.bl b) (st1.grow (grow_own hp) (fun a o h => by rw [upd_ne (ne_of_none (st1.sub a o h) hp)]; exact st1.sub a o h))
/-- isinstance(e, c), c an own class -/
def isCl (cs : List Str) (c : Str) (d : D) : R D := match d with
  | .obj c' _ => chk (cs.contains c') (.bl (c' == c))
  | d => (opt (tagD d)).bind fun _ => .ok (.bl false)
theorem je_isc {cs : List Str} {c : Str} {e : Expr} {px pf : Pos} {me : τ → R (D × τ)} (tc : TyC C.T cs) (hc : c ∈ cs) (hcl : ∃ Ca, C.T.cls c = some Ca ∧ C.T.mg c = some (.ref Ca)) (hm : C.T.mg "isinstance" = none) (he : JE C φ e me)
    (hg : Gl C.X "isinstance" := by rfl) (hg2 : Gl C.X c := by rfl) (hdb : (c == ("__debug__" : Str)) = false := by decide)
    (h1 : starEach [e, .Name c px] C.X.env = (false, eval e C.X.env) :: starEach [.Name c px] C.X.env := by rfl) (h2 : starEach [.Name c px] C.X.env = (false, eval (.Name c px) C.X.env) :: starEach [] C.X.env := by rfl)
    (hpl : (backTo pos (starEach [.Name c px] C.X.env)).any (·.1) = false := by rfl) :
    JE C φ (.Call (.Name "isinstance" pf) [e, .Name c px] [] pos) (fun s => (me s).bind fun q => (isCl cs c q.1).bind fun d => .ok (d, q.2)) := fun gd s σ F H Q st hs => by
  obtain ⟨Ca, ec, em⟩ := hcl
  refine ⟨_, pe_callB call_isi hg (by rw [gd.mg]; exact hm) boot_isinstance (pa_cons pe_wp (pa_cons (pe_glob (v := .ref Ca) hg2 (by rw [gd.mg]; exact em) rfl hdb) pa_nil h2) h1) (by decide) (by decide) h1 hpl, ?_⟩
  refine he gd s σ F H _ st (hs.bind.mono fun d s1 h1 v F1 H1 e1 r1 st1 => ?_)
  have h2 := h1.bind1
  have base : ∀ {t}, tagD d = some t → (∀ v F' H', Same F F' → Rp C.T F' v (.bl false) → St8 C (φ s1) σ F' H' → Q v H') → rIsi C.X.K [v, .ref Ca] H1 Q := fun {t} e k => by
    obtain ⟨q1, q2⟩ := tag_ty st1.sub r1 e
    exact ⟨v, .ref Ca, .type t, .ref Ca, false, rfl, .own Ca, by rw [gd.K]; exact q1, by rw [gd.K]; exact tc.sys c Ca hc ec t q2, k _ F1 H1 e1 (.bl _) st1⟩
  cases d with
  | obj c' fs =>
    obtain ⟨hc', k⟩ := (show Srv1 C (chk (cs.contains c') (D.bl (c' == c))) _ from h2).chk
    have hc'' : c' ∈ cs := by simpa using hc'
    cases r1 with
    | obj ec' hF hn hr =>
      obtain ⟨t1, t2, t3, t4, t5⟩ := tc.ty c' _ hc'' ec'
      exact ⟨_, .ref Ca, _, .ref Ca, _, rfl, .own Ca, by rw [gd.K]; exact .base (.ins (st1.sub _ _ hF) t1 t2 t3 t4 t5), by rw [gd.K]; exact tc.own c' _ c Ca hc'' hc ec' ec, k _ F1 H1 e1 (.bl _) st1⟩
  | non => exact base rfl h2
  | bl b => exact base rfl h2
  | int b => exact base rfl h2
  | str b => exact base rfl h2
  | tup b => exact base rfl h2
  | lst b => exact base rfl h2
  | scr b => exact base rfl h2
  | dct b => exact base rfl h2
  | cache => exact h2.elim
  | fre _ => exact h2.elim

/-! ### dicts of one's own -/
def keyD : D → Option Key
  | .int i => some (.inl i)
  | .str x => some (.inr x)
  | _ => none
theorem key_rp {T : Txt} {F : Hp} {v : V} {d : D} {k : Key} (r : Rp T F v d) (h : keyD d = some k) : v = kV k := by
  cases r <;> cases h <;> rfl
def valD (kvs : List (Key × D)) (k : Key) : Option D := (kvs.find? fun kv => decide (kv.1 = k)).map (·.2)
def putKD (kvs : List (Key × D)) (k : Key) (v : D) : List (Key × D) :=
  if (kvs.any fun kv => decide (kv.1 = k)) = true then kvs.map (fun kv => if kv.1 = k then (kv.1, v) else kv) else kvs ++ [(k, v)]
theorem val_rel {T : Txt} {F : Hp} {k : Key} : ∀ {kv : List (Key × V)} {kd : List (Key × D)}, kv.map (·.1) = kd.map (·.1) → Rps T F (kv.map (·.2)) (kd.map (·.2)) → (valV kv k = none ∧ valD kd k = none) ∨ ∃ v d, valV kv k = some v ∧ valD kd k = some d ∧ Rp T F v d
  | [], [], _, _ => .inl ⟨rfl, rfl⟩
  | [], _ :: _, h, _ => by simp at h
  | _ :: _, [], h, _ => by simp at h
  | (a, x) :: kv, (b, y) :: kd, h, r => by
    have e : a = b := by simpa using (List.cons.inj h).1
    subst e
    cases r with
    | cons r1 r2 =>
      by_cases c : a = k
      · exact .inr ⟨x, y, by simp [valV, c], by simp [valD, c], r1⟩
      · have := val_rel (k := k) (List.cons.inj h).2 r2
        simpa [valV, valD, c] using this
theorem put_rel {T : Txt} {F : Hp} {k : Key} {v : V} {d : D} (rv : Rp T F v d) {kv : List (Key × V)} {kd : List (Key × D)} (h : kv.map (·.1) = kd.map (·.1)) (r : Rps T F (kv.map (·.2)) (kd.map (·.2))) :
    (putK kv k v).map (·.1) = (putKD kd k d).map (·.1) ∧ Rps T F ((putK kv k v).map (·.2)) ((putKD kd k d).map (·.2)) := by
  have anyEq : ∀ {kv : List (Key × V)} {kd : List (Key × D)}, kv.map (·.1) = kd.map (·.1) → (kv.any fun q => decide (q.1 = k)) = kd.any fun q => decide (q.1 = k) := fun {kv kd} h => by
    have e1 : (kv.any fun q => decide (q.1 = k)) = (kv.map (·.1)).any fun a => decide (a = k) := by rw [List.any_map]; rfl
    have e2 : (kd.any fun q => decide (q.1 = k)) = (kd.map (·.1)).any fun a => decide (a = k) := by rw [List.any_map]; rfl
    rw [e1, e2, h]
  unfold putK putKD
  rw [anyEq h]
  by_cases c : (kd.any fun q => decide (q.1 = k)) = true
  · rw [if_pos c, if_pos c]
    clear c
    induction kv generalizing kd with
    | nil =>
      cases kd with
      | nil => exact ⟨rfl, .nil⟩
      | cons _ _ => simp at h
    | cons a kv ih =>
      cases kd with
      | nil => simp at h
      | cons b kd =>
        have e : a.1 = b.1 := by simpa using (List.cons.inj h).1
        cases r with
        | cons r1 r2 =>
          obtain ⟨i1, i2⟩ := ih (List.cons.inj h).2 r2
          simp only [List.map_cons]
          by_cases c : b.1 = k
          · rw [if_pos c, if_pos (e.trans c)]
            exact ⟨by rw [i1]; simp [e], .cons rv i2⟩
          · rw [if_neg c, if_neg (by rw [e]; exact c)]
            exact ⟨by rw [i1, e], .cons r1 i2⟩
  · rw [if_neg c, if_neg c]
    exact ⟨by simp [h], by rw [List.map_append, List.map_append]; exact r.append (Rps.one rv)⟩
theorem SlotsOk.owkAt {T : Txt} {Fr : Addr → Prop} {F H : Hp} {e : Slots} {σ : L2.St} {i : Nat} {kd : List (Key × D)} (h : SlotsOk T Fr F H e σ) (hi : e[i]?.join = some (.owk kd)) :
    ∃ l kv, σ[i]? = some (some (.ref l)) ∧ H l = some (.dK kv) ∧ kv.map (·.1) = kd.map (·.1) ∧ Rps T F (kv.map (·.2)) (kd.map (·.2)) ∧ F l = none ∧ Fr l := by
  obtain ⟨A, h1, _⟩ := h
  have q := h1 i
  rw [hi] at q
  obtain ⟨l, xs, _, ev, h1, hn, h2, h3, h4⟩ := q
  refine ⟨l, xs, ?_, h1, hn, h2, h3, h4⟩
  cases z : σ[i]? with
  | none => rw [z] at ev; cases ev
  | some o => rw [z] at ev; rw [show o = some (V.ref l) from ev]
/-- x = {} -/
theorem jb_newK (i : Nat) {x : Str} {pos' pd : Pos} {k : τ → R (Fl α β × τ)} (hk : JB C (fun s => (φ s).set i (some (.owk []))) rest ψ χ ρ k)
    (hi : C.X.N[i]? = some x := by rfl) (hx : Loc C.X.env.scope x := by first | exact Or.inl rfl | exact Or.inr rfl) (hs : swapsWith (.Dict [] [] pd) (some (.Name x pos')) pos.line C.X.env = pure false := by rfl)
    (hf : C.X.fn x = true ∨ C.X.env.scope.names.lookup x = some .local := by first | exact .inl rfl | exact .inr rfl) :
    JB C φ (.Assign [.Name x pos'] (.Dict [] [] pd) pos :: rest) ψ χ ρ k := fun g s σ F H Dn st h => by
  refine ⟨_, pss_cons (ps_set g.nd hi hx pe_dnewK hs hf) ps_wp, fun l hl => ?_⟩
  have fl : F l = none := by
    cases q : F l with
    | none => rfl
    | some o => rw [st.sub _ _ q] at hl; cases hl
  exact hk g s _ F _ Dn ⟨st.step.trans ((grow_own hl).weak fun _ z => z.elim), fun a o e => by rw [upd_ne (ne_of_none (st.sub a o e) hl)]; exact st.sub a o e,
    st.env.newOwn st.sub hl st.len ⟨l, [], rfl, rfl, upd_same, rfl, .nil, fl, .inl (st.step.dom l hl)⟩, by rw [List.length_set, List.length_set]; exact st.len⟩ h
/-- x[a] = e -/
theorem jb_putK (i : Nat) {f : τ → List (Key × D)} {x : Str} {a e : Expr} {p1 p2 : Pos} {ma me : τ → R (D × τ)} {k : List (Key × D) → τ → R (Fl α β × τ)} (he : JE C φ e me) (ha : JE C φ a ma) (hk : ∀ kd, JB C (fun s => (φ s).set i (some (.owk kd))) rest ψ χ ρ (k kd)) (hh : C.hot = false := by rfl)
    (hi : ∀ s, (φ s)[i]?.join = some (.owk (f s)) := by intro _; rfl) (hN : C.X.N[i]? = some x := by rfl) (hv : Vis C.X.env.scope x := by first | exact Or.inl rfl | exact Or.inr (Or.inl rfl) | exact Or.inr (Or.inr rfl)) (hd : (x == ("__debug__" : Str)) = false := by decide) (hcd : (x == ("__classdict__" : Str)) = false := by decide)
    (hs : swapsWith e (some (.Subscript (.Name x p1) a p2)) pos.line C.X.env = pure false := by rfl) :
    JB C φ (.Assign [.Subscript (.Name x p1) a p2] e pos :: rest) ψ χ ρ (fun s => (me s).bind fun p => (ma p.2).bind fun q => (opt (keyD q.1)).bind fun ky => (chk (decide ((f q.2).length < 1000000)) ()).bind fun _ => k (putKD (f q.2) ky p.1) q.2) := fun g s σ F H Dn st h => by
  have hu := g.u64 hh
  refine ⟨_, pss_cons (ps_dput (by omega) (pe_var hN hv hd hcd) pe_wp pe_wp hs) ps_wp, ?_⟩
  refine he g s σ F H _ st (h.bind.mono fun d s1 h1 v F1 H1 ee r1 st1 => ?_)
  obtain ⟨l, kv, e1, e2, _⟩ := st1.env.owkAt (hi s1)
  refine ⟨.ref l, e1, ?_⟩
  refine ha g s1 σ F1 H1 _ st1 (h1.bind.mono fun d2 s2 h2 v2 F2 H2 ee2 r2 st2 => ?_)
  obtain ⟨ky, hky, h3⟩ := h2.bind1.opt
  obtain ⟨c, h4⟩ := h3.bind1.chk
  obtain ⟨l', kv', q1, q2, q3, q4, q5, q6⟩ := st2.env.owkAt (hi s2)
  rw [e1] at q1
  cases q1
  have hl : kv'.length < sizeLine := Nat.lt_of_lt_of_le (by rw [← List.length_map (f := Prod.fst), q3, List.length_map]; exact of_decide_eq_true c) (sz_small (Nat.le_refl _))
  obtain ⟨z1, z2⟩ := put_rel (k := ky) (r1.mono ee2) q3 q4
  rw [key_rp r2 hky]
  refine ⟨l, _, rfl, .k q2 hl, ?_⟩
  refine hk _ g s2 _ F2 _ Dn ⟨⟨st2.step.fz, st2.step.new, fun a o ha hm => ?_, fun a ha => ?_⟩, fun a o ha => ?_, st2.env.upd1 (hi s2) (by rw [e1]; rfl) (fun as z => ?_) (fun _ => ⟨l, _, rfl, rfl, upd_same, z1, z2, q5, q6⟩), by rw [List.length_set]; exact st2.len⟩ (h4.mono fun f s2 => FlPost.mono (ee.trans ee2))
  · have ne : a ≠ l := fun z => by
      rcases q6 with z' | z'
      · rw [z, z'] at ha; cases ha
      · exact hm (by rw [z]; exact z')
    rw [upd_ne ne]
    exact st2.step.keep a o ha hm
  · by_cases c : a = l
    · rw [c, upd_same] at ha; cases ha
    · rw [upd_ne c] at ha
      exact st2.step.dom a ha
  · have ne : a ≠ l := fun z => by rw [z, q5] at ha; cases ha
    rw [upd_ne ne]
    exact st2.sub a o ha
  · obtain ⟨l2, _, rfl, z2, _⟩ := z
    cases z2
    rfl
/-- a in x, as a test -/
theorem jt_inK (i : Nat) {f : τ → List (Key × D)} {x : Str} {a : Expr} {p1 : Pos} {ma : τ → R (D × τ)} (ha : JE C φ a ma) (hh : C.hot = false := by rfl)
    (hi : ∀ s, (φ s)[i]?.join = some (.owk (f s)) := by intro _; rfl) (hN : C.X.N[i]? = some x := by rfl) (hv : Vis C.X.env.scope x := by first | exact Or.inl rfl | exact Or.inr (Or.inl rfl) | exact Or.inr (Or.inr rfl)) (hd : (x == ("__debug__" : Str)) = false := by decide) (hcd : (x == ("__classdict__" : Str)) = false := by decide)
    (hm : behindInMarks .In (.Name x p1) = false := by first | exact nobehind _ (by decide) (by decide) | rfl) :
    JT C φ (.Compare a [.In] [.Name x p1] pos) (fun s => (ma s).bind fun q => (opt (keyD q.1)).bind fun ky => .ok ((valD (f q.2) ky).isSome, q.2)) := fun g s σ F H Q st h => by
  have hu := g.u64 hh
  refine ⟨_, pt_cmp (pc_din (by omega) pe_wp (pe_var hN hv hd hcd)) hm, ?_⟩
  refine ha g s σ F H _ st (h.bind.mono fun d s1 h1 v F1 H1 ee r1 st1 => ?_)
  obtain ⟨ky, hky, h2⟩ := h1.bind1.opt
  obtain ⟨l, kv, e1, e2, e3, e4, _⟩ := st1.env.owkAt (hi s1)
  refine ⟨.ref l, e1, l, valV kv ky, rfl, ?_, _, rfl, ?_⟩
  · rw [key_rp r1 hky]
    exact .k e2
  · have h3 : ∀ F' H', Same F F' → St8 C (φ s1) σ F' H' → Q (valD (f s1) ky).isSome H' := h2
    rcases val_rel (k := ky) e3 e4 with ⟨z1, z2⟩ | ⟨v', d', z1, z2, _⟩
    · rw [z1]
      rw [z2] at h3
      exact h3 F1 H1 ee st1
    · rw [z1]
      rw [z2] at h3
      exact h3 F1 H1 ee st1
end
end Pv
set_option Elab.async false
set_option linter.all false
set_option maxRecDepth 100000
/-! PvC: ranges and other things walked; comprehensions. -/
namespace Pv
open PySem PySem.Spec PyProof.Rows L2
section
variable {C : Ctx} {τ α β : Type} {φ : τ → Slots} {pos p : Pos}
/-! ### what is walked -/
theorem Gives.range {T : Txt} {F1 : Hp} (lo hi : Int) {n : Nat} (e : n = (hi - lo).toNat) : Gives T F1 (rgD lo hi) (Itr lo n) := by
  subst e
  have hl : (rgD lo hi).length = (hi - lo).toNat := by unfold rgD; rw [List.length_map, List.length_range]
  refine ⟨fun _ => True, YFn fun i => .int (lo + i), by rw [hl]; exact walk_range, fun _ _ => trivial, fun i F H x H' hi e1 e2 y => ?_⟩
  obtain ⟨rfl, rfl⟩ := y
  rw [hl] at hi
  exact ⟨F, .int (lo + (i : Nat)), Step.refl _ _ _, e2, by unfold rgD; simp [hi], .int _⟩
def rgSm (i : Int) : Bool := decide (-1000000000 ≤ i) && decide (i ≤ 1000000000)
theorem ji_range1 {tg e : Expr} {m : τ → R (D × τ)} (hm : C.T.mg "range" = none) (h : JE C φ e m) (hg : Gl C.X "range" := by rfl) (hs : starEach [e] C.X.env = [(false, eval e C.X.env)] := by rfl) :
    JI C φ tg (.Call (.Name "range" p) [e] [] pos) (fun s => (m s).bind fun q => (asInt q.1).bind fun i => (chk (rgSm i) (rgD 0 i)).bind fun ds => .ok (ds, q.2)) := fun g s σ F H Q st hh => by
  refine ⟨_, pi_range1 hg (by rw [g.mg]; exact hm) (pa_cons pe_wp pa_nil hs) hs, ?_⟩
  refine h g s σ F H _ st (hh.bind.mono fun d s1 h1 v F1 H1 e1 r1 st1 => ?_)
  have h2 := h1.bind1
  cases r1 with
  | int i =>
    obtain ⟨c, k⟩ := (show Srv C ((chk (rgSm i) (rgD 0 i)).bind fun ds => .ok (ds, s1)) _ from h2).bind1.chk
    have c1 := of_decide_eq_true (and2 c).1
    have c2 := of_decide_eq_true (and2 c).2
    exact ⟨i, rfl, by omega, by omega, k _ F1 H1 e1 st1 (Gives.range 0 i (by omega))⟩
  | _ => exact h2.elim
theorem ji_range2 {tg a b : Expr} {ma mb : τ → R (D × τ)} (hm : C.T.mg "range" = none) (ha : JE C φ a ma) (hb : JE C φ b mb) (hg : Gl C.X "range" := by rfl) (hs : starEach [a, b] C.X.env = [(false, eval a C.X.env), (false, eval b C.X.env)] := by rfl) (hs2 : starEach [b] C.X.env = [(false, eval b C.X.env)] := by rfl) :
    JI C φ tg (.Call (.Name "range" p) [a, b] [] pos) (fun s => (ma s).bind fun q => (mb q.2).bind fun q' => (asInt q.1).bind fun i => (asInt q'.1).bind fun j => (chk (rgSm i && rgSm j) (rgD i j)).bind fun ds => .ok (ds, q'.2)) := fun g s σ F H Q st hh => by
  refine ⟨_, pi_range2 hg (by rw [g.mg]; exact hm) (pa_cons pe_wp (pa_cons pe_wp pa_nil hs2) (by rw [hs, hs2])) hs hs2, ?_⟩
  refine ha g s σ F H _ st (hh.bind.mono fun d s1 h1 v F1 H1 e1 r1 st1 => ?_)
  refine hb g s1 σ F1 H1 _ st1 (h1.bind.mono fun d' s2 h2 v' F2 H2 e2 r2 st2 => ?_)
  have h3 := h2.bind1
  cases r1 with
  | int i =>
    have h4 := (show Srv C ((asInt d').bind fun j => (chk (rgSm i && rgSm j) (rgD i j)).bind fun ds => .ok (ds, s2)) _ from h3).bind1
    cases r2 with
    | int j =>
      obtain ⟨c, k⟩ := (show Srv C ((chk (rgSm i && rgSm j) (rgD i j)).bind fun ds => .ok (ds, s2)) _ from h4).bind1.chk
      have c1 := of_decide_eq_true (and2 (and2 c).1).1
      have c2 := of_decide_eq_true (and2 (and2 c).1).2
      have c3 := of_decide_eq_true (and2 (and2 c).2).1
      have c4 := of_decide_eq_true (and2 (and2 c).2).2
      exact ⟨i, j, rfl, ⟨by omega, by omega, by omega, by omega⟩, k _ F2 H2 (e1.trans e2) st2 (Gives.range i j rfl)⟩
    | _ => exact h4.elim
  | _ => exact h3.elim
/-- pairs of a count and an item -/
def enD (ds : List D) : List D := ds.zipIdx.map fun q => D.tup [.int (q.2 : Nat), q.1]
theorem enD_len (ds : List D) : (enD ds).length = ds.length := by unfold enD; rw [List.length_map, List.length_zipIdx]
theorem enD_at {ds : List D} {i : Nat} {d : D} (h : ds[i]? = some d) : (enD ds)[i]? = some (.tup [.int (i : Nat), d]) := by
  unfold enD
  rw [List.getElem?_map, List.getElem?_zipIdx, h]
  simp
theorem Gives.enum {T : Txt} {F1 : Hp} {a : Addr} {xs : List V} {ds : List D} (h : SqL T.K F1 a xs) (r : Rps T F1 xs ds) : Gives T F1 (enD ds) (Ite T.K a) := by
  refine ⟨_, _, by rw [enD_len, ← r.length]; exact walk_enum (xs := xs), fun H e => sql_same e h, fun i F H x H' hi e1 e2 y => ?_⟩
  obtain ⟨t, u, v, rfl, ht, rfl, eu, hx⟩ := y
  cases eu
  obtain ⟨d, hd, rd⟩ := r.get' hx
  have gr := grow_new (o := .tup [.int (i : Nat), v]) e2 ht
  exact ⟨_, _, gr, sub_new e2, enD_at hd, .tup upd_same (.cons (.int _) (.cons ((rd.mono e1).mono gr.fz) .nil))⟩

/-! ### comprehensions -/
/-- the turns of a comprehension -/
def lcL (f : D → τ → R (Option D × τ)) : List D → τ → R (List D × τ)
  | [], s => .ok ([], s)
  | d :: ds, s => (f d s).bind fun q => (lcL f ds q.2).bind fun r => .ok (q.1.toList ++ r.1, r.2)
def er (D : Addr) (H : Hp) : Hp := fun a => if a = D then none else H a
theorem er_same {D : Addr} {H : Hp} : er D H D = none := if_pos rfl
theorem er_ne {D a : Addr} {H : Hp} (h : a ≠ D) : er D H a = H a := if_neg h
theorem er_some {D a : Addr} {H : Hp} {o : HO} (h : er D H a = some o) : a ≠ D ∧ H a = some o := by
  by_cases c : a = D
  · rw [c, er_same] at h; cases h
  · rw [er_ne c] at h; exact ⟨c, h⟩
theorem er_none {D a : Addr} {H : Hp} (h : H a = none) : er D H a = none := by
  by_cases c : a = D
  · rw [c]; exact er_same
  · rw [er_ne c]; exact h
theorem er_upd {D : Addr} {H : Hp} {o : HO} (h : H D = none) : er D (upd H D o) = H := by
  funext a
  by_cases c : a = D
  · rw [c, er_same, h]
  · rw [er_ne c, upd_ne c]
theorem upd_er {D : Addr} {H : Hp} {o : HO} (h : H D = some o) : upd (er D H) D o = H := by
  funext a
  by_cases c : a = D
  · rw [c, upd_same, h]
  · rw [upd_ne c, er_ne c]
theorem SlotOk.conv {T : Txt} {Fr Fr' : Addr → Prop} {F F' H H' : Hp} {sv : Option SV} {v : Option V} {as : List Addr} (h : SlotOk T Fr F H sv v as) (e : Same F F') (k : ∀ a ∈ as, H' a = H a ∧ F' a = none ∧ (Fr a → Fr' a)) : SlotOk T Fr' F' H' sv v as := by
  have h' := h.move e fun a ha => ⟨(k a ha).1, (k a ha).2.1⟩
  cases sv with
  | none => exact h'
  | some s =>
    cases s with
    | val d => exact h'
    | exc a dd c d => exact h'
    | own ds =>
      obtain ⟨l, xs, rfl, h0, h1, h2, h3, h4⟩ := h'
      exact ⟨l, xs, rfl, h0, h1, h2, h3, (k l (by simp)).2.2 h4⟩
    | owk ds =>
      obtain ⟨l, xs, rfl, h0, h1, hn, h2, h3, h4⟩ := h'
      exact ⟨l, xs, rfl, h0, h1, hn, h2, h3, (k l (by simp)).2.2 h4⟩
    | owt ds =>
      obtain ⟨l, xs, rfl, h0, h1, hn, h2, h3, h4⟩ := h'
      exact ⟨l, xs, rfl, h0, h1, hn, h2, h3, (k l (by simp)).2.2 h4⟩
    | ins l dx c fs =>
      obtain ⟨Ca, xs, rfl, h0, hc, h1, hn, h2, h3, h4⟩ := h'
      exact ⟨Ca, xs, rfl, h0, hc, h1, hn, h2, h3, (k l (by simp)).2.2 h4⟩
    | deal l1 l2 cs b =>
      obtain ⟨rfl, h0, h1, h2, h3, h4, h5, h6, h7⟩ := h'
      exact ⟨rfl, h0, h1, h2, h3, h4, (k l1 (by simp)).2.2 h5, (k l2 (by simp)).2.2 h6, h7⟩
/-- a turn's room: all may change but the list that is being made -/
structure Blk where
  s : Shared
  H : Hp
  Cc : Addr
  cl : List (Str × Addr)
  fp : List Addr
  F0 : Hp
  H0 : Hp
  D : Addr
abbrev blkCtx (C : Ctx) (scope : Scope) (b : Blk) : Ctx :=
  { C with X := C.X.blk b.s b.H scope (compEnvC scope b.cl b.Cc C.X.env) b.fp, W := fun _ _ _ _ => False, eh := [], M := fun a => C.Fr a ∧ a ≠ b.D, F0 := b.F0, H0 := b.H0 }
theorem Good.blk {C : Ctx} (g : Good C) (scope : Scope) (b : Blk) : Good (blkCtx C scope b) := ⟨g.K, g.mg, g.pr, g.w, g.base, g.calm, g.nd, g.room, PassesOwn.never, takes0⟩
def wipeE (e : Slots) (vs : List Nat) : Slots := vs.foldr (fun v e => e.set v none) e
theorem SlotsOk.wipe {T : Txt} {Fr : Addr → Prop} {F H : Hp} {e : Slots} {σ : L2.St} (h : SlotsOk T Fr F H e σ) : ∀ vs : List Nat, SlotsOk T Fr F H (wipeE e vs) (L2.wipe σ vs)
  | [] => h
  | v :: vs => (SlotsOk.wipe h vs).setAny
theorem wipeE_len (e : Slots) : ∀ vs : List Nat, (wipeE e vs).length = e.length
  | [] => rfl
  | v :: vs => by
    show ((wipeE e vs).set v none).length = _
    rw [List.length_set, wipeE_len e vs]
theorem wipe_in {σ : L2.St} {i : Nat} : ∀ {vs : List Nat}, i ∈ vs → (L2.wipe σ vs)[i]? = if i < σ.length then some none else none
  | v :: vs, h => by
    show ((L2.wipe σ vs).set v none)[i]? = _
    by_cases c : v = i
    · subst c
      rw [List.getElem?_set]
      simp [L2.wipe_length]
    · rw [List.getElem?_set_ne c]
      exact wipe_in ((List.mem_cons.mp h).resolve_left (Ne.symm c))
theorem wipe_eq {σ σ' : L2.St} {is vs : List Nat} (h : SB is (L2.wipe σ vs) σ') (hs : ∀ i ∈ is, i ∈ vs) : L2.wipe σ' vs = L2.wipe σ vs := by
  refine List.ext_getElem? fun i => ?_
  by_cases c : i ∈ vs
  · rw [wipe_in c, wipe_in c, h.1, L2.wipe_length]
  · rw [wipe_out c, h.2 i fun z => c (hs i z)]
/-- in: the list that is made is nobody's -/
theorem St8.into {C : Ctx} {scope : Scope} {e : Slots} {σ : L2.St} {F H : Hp} {b : Blk} {acc : List V} (st : St8 C e σ F (er b.D H)) (hF : b.F0 = F) (hH : b.H0 = H) (hD : H b.D = some (.lst acc)) : St8 (blkCtx C scope b) e σ F H := by
  have nF : F b.D = none := by
    cases q : F b.D with
    | none => rfl
    | some o =>
      have := st.sub _ _ q
      rw [er_same] at this
      cases this
  refine ⟨by rw [show (blkCtx C scope b).F0 = F from hF, show (blkCtx C scope b).H0 = H from hH]; exact Step.refl _ _ _, fun a o h => (er_some (st.sub a o h)).2, ?_, st.len⟩
  obtain ⟨A, h1, h2⟩ := id st.env
  refine ⟨A, fun i => (h1 i).conv (Same.refl F) fun a ha => ?_, h2⟩
  obtain ⟨⟨o, e1⟩, e2, _⟩ := (h1 i).own_some a ha
  obtain ⟨n, e3⟩ := er_some e1
  exact ⟨by rw [e3, e1], e2, fun z => .inr ⟨z, n⟩⟩
/-- out: it stands as it was -/
theorem St8.outof {C : Ctx} {scope : Scope} {e e2 : Slots} {σ σ2 : L2.St} {F F2 H H2 : Hp} {b : Blk} {acc : List V} (st0 : St8 C e σ F (er b.D H)) (hF : b.F0 = F) (hH : b.H0 = H) (hD : H b.D = some (.lst acc)) (st : St8 (blkCtx C scope b) e2 σ2 F2 H2) :
    H2 b.D = some (.lst acc) ∧ F2 b.D = none ∧ St8 C e2 σ2 F2 (er b.D H2) := by
  have stp : Step (fun a => C.Fr a ∧ a ≠ b.D) F H F2 H2 := by
    have z := st.step
    rw [show (blkCtx C scope b).F0 = F from hF, show (blkCtx C scope b).H0 = H from hH] at z
    exact z
  have k1 : H2 b.D = some (.lst acc) := stp.keep _ _ hD fun z => z.2 rfl
  have nF : F b.D = none := by
    cases q : F b.D with
    | none => rfl
    | some o =>
      have := st0.sub _ _ q
      rw [er_same] at this
      cases this
  have nF2 : F2 b.D = none := by
    cases q : F2 b.D with
    | none => rfl
    | some o =>
      rcases stp.new _ _ q with z | z | z
      · rw [nF] at z; cases z
      · rw [hD] at z; cases z
      · exact absurd rfl z.2
  have dom0 : ∀ a, H a = none → C.H0 a = none := fun a h => st0.step.dom a (er_none h)
  refine ⟨k1, nF2, ⟨st0.step.fz.trans stp.fz, fun a o h => ?_, fun a o h m => ?_, fun a h => ?_⟩, fun a o h => ?_, ?_, st.len⟩
  · rcases stp.new a o h with z | z | z
    · exact st0.step.new a o z
    · exact .inr (.inl (dom0 a z))
    · exact .inr z.1
  · have z := st0.step.keep a o h m
    obtain ⟨n, z2⟩ := er_some z
    rw [er_ne n]
    exact stp.keep a o z2 fun y => by
      rcases y.1 with y | y
      · rw [y] at h; cases h
      · exact m y
  · by_cases c : a = b.D
    · rw [c]; exact st0.step.dom _ er_same
    · rw [er_ne c] at h
      exact dom0 a (stp.dom a h)
  · have n : a ≠ b.D := fun z => by rw [z, nF2] at h; cases h
    rw [er_ne n]
    exact st.sub a o h
  · obtain ⟨A, h1, h2⟩ := id st.env
    refine ⟨A, fun i => (h1 i).conv (Same.refl _) fun a ha => ?_, h2⟩
    obtain ⟨⟨o, e1⟩, e3, e4⟩ := (h1 i).own_some a ha
    have e4' : H a = none ∨ (C.Fr a ∧ a ≠ b.D) := by rw [← hH]; exact e4
    have n : a ≠ b.D := by
      rcases e4' with z | z
      · intro y; rw [y, hD] at z; cases z
      · exact z.2
    refine ⟨er_ne n, e3, fun _ => ?_⟩
    rcases e4' with z | z
    · exact .inl (dom0 a z)
    · exact z.1
/-- tests of a comprehension: none or one -/
def JTs (C : Ctx) {τ : Type} (φ : τ → Slots) (ifs : List Expr) (m : τ → R (Bool × τ)) : Prop := Good C → ∀ (s : τ) (σ : L2.St) (F H : Hp) (Q : Bool → Hp → Prop), St8 C (φ s) σ F H →
  Srv C (m s) (fun b s' => ∀ F' H', Same F F' → St8 C (φ s') σ F' H' → Q b H') → ∃ t, PTs C.X ifs t ∧ t σ H Q
theorem jts_nil : JTs C φ [] (fun s => .ok (true, s)) := fun g s σ F H Q st h => ⟨_, pts_nil, h F H (Same.refl F) st⟩
theorem jts_one {c : Expr} {m : τ → R (Bool × τ)} (h : JT C φ c m) : JTs C φ [c] m := fun g s σ F H Q st hs => ⟨_, pts_one pt_wp, h g s σ F H Q st hs⟩
def wpTs (X : Cx) (ifs : List Expr) : TT := fun σ H Q => ∃ t, PTs X ifs t ∧ t σ H Q
theorem pts_wp {X : Cx} {ifs : List Expr} : PTs X ifs (wpTs X ifs) := ⟨fun pins s σ H Q I ⟨t, h, q⟩ => h.run pins s σ H Q I q⟩
/-- one turn -/
def lcT (parts : D → Option (List D)) (mt : List D → τ → R (Bool × τ)) (me : List D → τ → R (D × τ)) (d : D) (s : τ) : R (Option D × τ) :=
  noErr ((opt (parts d)).bind fun xs => (mt xs s).bind fun b => if b.1 = true then (me xs b.2).bind fun r => .ok (some r.1, r.2) else .ok (none, b.2))
theorem noErr_srvs {τ' γ : Type} {r : R (γ × τ')} {f : γ × τ' → R (List D × τ')} {K : List D → τ' → Prop} (h : Srv C ((noErr r).bind f) K) : ∃ a s, r = .ok (a, s) ∧ Srv C (f (a, s)) K := by
  cases r with
  | ok q => exact ⟨q.1, q.2, rfl, h⟩
  | err c d => exact h.elim
  | bad => exact h.elim
/-- a heap in which things were added, without the list that is made -/
theorem Grow.er {F H F' H' : Hp} {D : Addr} {acc : List V} (gr : Grow F H F' H') (hD : H D = some (.lst acc)) (sub : Same F (Pv.er D H)) (sub' : Same F' H') : Grow F (Pv.er D H) F' (Pv.er D H') ∧ Same F' (Pv.er D H') ∧ H' D = some (.lst acc) := by
  have nF : F D = none := by
    cases q : F D with
    | none => rfl
    | some o =>
      have := sub _ _ q
      rw [er_same] at this
      cases this
  have nF2 : F' D = none := by
    cases q : F' D with
    | none => rfl
    | some o =>
      rcases gr.new _ _ q with z | z | z
      · rw [nF] at z; cases z
      · rw [hD] at z; cases z
      · exact z.elim
  refine ⟨⟨gr.fz, fun a o h => ?_, fun a o h _ => ?_, fun a h => ?_⟩, fun a o h => ?_, gr.same D _ hD⟩
  · rcases gr.new a o h with z | z | z
    · exact .inl z
    · exact .inr (.inl (er_none z))
    · exact z.elim
  · obtain ⟨n, z⟩ := er_some h
    rw [er_ne n]
    exact gr.same a o z
  · by_cases c : a = D
    · rw [c]; exact er_same
    · rw [er_ne c] at h ⊢
      exact gr.dom a h
  · have n : a ≠ D := fun z => by rw [z, nF2] at h; cases h
    rw [er_ne n]
    exact sub' a o h
theorem wipeE_out {e : Slots} {i : Nat} : ∀ {vs : List Nat}, i ∉ vs → (wipeE e vs)[i]?.join = e[i]?.join
  | [], _ => rfl
  | v :: vs, h => by
    show ((wipeE e vs).set v none)[i]?.join = _
    rw [join_set_ne fun z => h (by rw [z]; exact List.Mem.head _)]
    exact wipeE_out fun z => h (List.Mem.tail _ z)
theorem setMany_out {i : Nat} : ∀ {is : List Nat} {ds : List D} {e : Slots}, i ∉ is → (setMany e is ds)[i]?.join = e[i]?.join
  | [], _, _, _ => rfl
  | _ :: _, [], _, _ => rfl
  | j :: is, d :: ds, e, h => by
    show (setMany (e.set j (some (.val d))) is ds)[i]?.join = _
    rw [setMany_out (fun z => h (List.Mem.tail _ z)), join_set_ne fun z => h (by rw [z]; exact List.Mem.head _)]
theorem turn_back {C : Ctx} {e : Slots} {σ σ2 : L2.St} {F H : Hp} {is vs : List Nat} {xs : List D} (st : St8 C (setMany (wipeE e vs) is xs) σ2 F H) (hn : (vs.all fun i => (e[i]?.join).isNone) = true) (hs : ∀ i ∈ is, i ∈ vs) (sb : SB is (L2.wipe σ vs) σ2) (hl : e.length ≤ σ.length) : St8 C e σ F H := by
  have hn' : ∀ i ∈ vs, e[i]?.join = none := fun i hi => by simpa using List.all_eq_true.mp hn i hi
  have st2 : SlotsOk C.T C.Fr F H e σ2 := st.env.le fun i sv h => by
    have c : i ∉ vs := fun z => by rw [hn' i z] at h; cases h
    rw [setMany_out fun z => c (hs i z), wipeE_out c]
    exact h
  refine ⟨st.step, st.sub, ?_, hl⟩
  obtain ⟨A, h1, h2⟩ := st2
  refine ⟨A, fun i => ?_, h2⟩
  have q := h1 i
  by_cases c : i ∈ vs
  · rw [hn' i c] at q ⊢
    exact q
  · have e1 : σ2[i]? = σ[i]? := by rw [sb.2 i fun z => c (hs i z), wipe_out c]
    rw [e1] at q
    exact q
theorem St8.other {C : Ctx} {scope : Scope} {b b' : Blk} {e : Slots} {σ : L2.St} {F H : Hp} (st : St8 (blkCtx C scope b) e σ F H) (hF : b'.F0 = b.F0) (hH : b'.H0 = b.H0) (hD : b'.D = b.D) : St8 (blkCtx C scope b') e σ F H := by
  obtain ⟨s, H1, Cc, cl, fp, F0, H0, D⟩ := b
  obtain ⟨s', H1', Cc', cl', fp', F0', H0', D'⟩ := b'
  cases hF
  cases hH
  cases hD
  exact ⟨st.step, st.sub, st.env, st.len⟩
def gU (C : Ctx) (scope : Scope) (tg : Expr) : TG := fun v σ H Q => ∀ (s : Shared) (H0 : Hp) (Cc : Addr) (cl : List (Str × Addr)) (fp : List Addr), wpG (C.X.blk s H0 scope (compEnvC scope cl Cc C.X.env) fp) tg v σ H Q
def tU (C : Ctx) (scope : Scope) (ifs : List Expr) : TT := fun σ H Q => ∀ (s : Shared) (H0 : Hp) (Cc : Addr) (cl : List (Str × Addr)) (fp : List Addr), wpTs (C.X.blk s H0 scope (compEnvC scope cl Cc C.X.env) fp) ifs σ H Q
def eU (C : Ctx) (scope : Scope) (elt : Expr) : TE := fun σ H Q => ∀ (s : Shared) (H0 : Hp) (Cc : Addr) (cl : List (Str × Addr)) (fp : List Addr), wpE (C.X.blk s H0 scope (compEnvC scope cl Cc C.X.env) fp) elt σ H Q
theorem lc_sem {is : List Nat} {parts : D → Option (List D)} {elt tg iter : Expr} {ifs : List Expr} {scope : Scope} (own : List (Str × Nat)) {mi : τ → R (List D × τ)} {mt : List D → τ → R (Bool × τ)} {me : List D → τ → R (D × τ)} (hi : JI C φ tg iter mi) (hg : ∀ b : Blk, JG (blkCtx C scope b) tg is parts)
    (ht : ∀ (b : Blk) (xs : List D), JTs (blkCtx C scope b) (fun s => setMany (wipeE (φ s) (own.map (·.2))) is xs) ifs (mt xs)) (he : ∀ (b : Blk) (xs : List D), JE (blkCtx C scope b) (fun s => setMany (wipeE (φ s) (own.map (·.2))) is xs) elt (me xs))
    (hn : ∀ s, ((own.map (·.2)).all fun i => ((φ s)[i]?.join).isNone) = true) (hsub : ∀ i ∈ is, i ∈ own.map (·.2)) (hlen : ∀ s s', (φ s).length = (φ s').length) (g : Good C) (s : τ) (σ : L2.St) (F H : Hp) (Q : VK) (st : St8 C (φ s) σ F H)
    (h : Srv C ((mi s).bind fun q => (chk (decide (q.1.length ≤ 1000000)) q.1).bind fun ds => lcL (lcT parts mt me) ds q.2) (fun ds s' => ∀ l xs F' H', Same F F' → H' l = none → Rps C.T F' xs ds → St8 C (φ s') σ F' H' → Q (.ref l) (upd H' l (.lst xs)))) :
    tLc (wpI C.X tg iter) (gU C scope tg) (tU C scope ifs) (eU C scope elt) (own.map (·.2)) σ H Q := by
  refine hi g s σ F H _ st (h.bind.mono fun ds s1 h1 J F1 H1 e1 st1 gv => fun D hD => ?_)
  obtain ⟨cl, hK⟩ := h1.bind1.chk
  have cl' : ds.length ≤ 1000000 := of_decide_eq_true cl
  obtain ⟨G, Y, w, hG, hY⟩ := gv
  refine lc_it w (g := gU C scope tg) (tt := tU C scope ifs) (te := eU C scope elt) (vs := own.map (·.2)) (σ := σ) (H1 := H1) (D := D) (Qd := Q (.ref D)) (fun i H' => ∃ si Fi acc out, Same F1 Fi ∧ H' D = some (.lst acc) ∧ St8 C (φ si) σ Fi (er D H') ∧ Rps C.T Fi acc out ∧ out.length ≤ i ∧
    Srv C (lcL (lcT parts mt me) (ds.drop i) si) (fun rest s' => ∀ l xs F' H', Same F F' → H' l = none → Rps C.T F' xs (out ++ rest) → St8 C (φ s') σ F' H' → Q (.ref l) (upd H' l (.lst xs)))) ?_ ?_ ?_ ?_
  · refine ⟨s1, F1, [], [], Same.refl F1, upd_same, by rw [er_upd hD]; exact st1, .nil, Nat.zero_le _, ?_⟩
    exact hK
  · rintro i H' _ ⟨si, Fi, acc, out, q1, q2, q3, _⟩
    exact hG H' (q1.trans fun a o h => (er_some (q3.sub a o h)).2)
  · rintro i x H' H2 hi' ⟨si, Fi, acc, out, q1, q2, q3, q4, q5, q6⟩ y
    obtain ⟨F3, d, gr, sub, hd, rd⟩ := hY i Fi H' x H2 hi' q1 (fun a o h => (er_some (q3.sub a o h)).2) y
    obtain ⟨gr', sub', hD2⟩ := gr.er q2 q3.sub sub
    have st3 : St8 C (φ si) σ F3 (er D H2) := q3.grow gr' sub'
    have ed : ds.drop i = d :: ds.drop (i + 1) := by
      obtain ⟨hlt, hv⟩ := List.getElem?_eq_some_iff.mp hd
      rw [List.drop_eq_getElem_cons hlt, hv]
    rw [ed] at q6
    obtain ⟨a, s4, ef, q7⟩ := noErr_srvs (show Srv C ((lcT parts mt me d si).bind fun q => (lcL (lcT parts mt me) (ds.drop (i + 1)) q.2).bind fun r => .ok (q.1.toList ++ r.1, r.2)) _ from q6)
    have q8 := q7.bind
    cases ep : parts d with
    | none => rw [ep] at ef; cases ef
    | some xs =>
      rw [ep] at ef
      have ef1 : ((mt xs si).bind fun b => if b.1 = true then (me xs b.2).bind fun r => .ok (some r.1, r.2) else .ok (none, b.2)) = .ok (a, s4) := ef
      cases et : mt xs si with
      | bad => rw [et] at ef1; cases ef1
      | err c e => rw [et] at ef1; cases ef1
      | ok bq =>
        obtain ⟨bv, s5⟩ := bq
        rw [et] at ef1
        intro sh H0 Cc cl0 fp
        have stw : St8 (blkCtx C scope ⟨sh, H0, Cc, cl0, fp, F3, H2, D⟩) (wipeE (φ si) (own.map (·.2))) (L2.wipe σ (own.map (·.2))) F3 H2 := by
          have z := st3.into (scope := scope) (b := ⟨sh, H0, Cc, cl0, fp, F3, H2, D⟩) rfl rfl hD2
          exact ⟨z.step, z.sub, z.env.wipe _, by rw [wipeE_len, L2.wipe_length]; exact z.len⟩
        refine hg ⟨sh, H0, Cc, cl0, fp, F3, H2, D⟩ (g.blk scope _) _ _ F3 H2 x d xs _ stw rd ep fun σ2 sb st6 => ⟨wipe_eq sb hsub, ?_⟩
        intro sh' H0' Cc' cl0' fp'
        refine ht ⟨sh', H0', Cc', cl0', fp', F3, H2, D⟩ xs (g.blk scope _) si σ2 F3 H2 _ (st6.other rfl rfl rfl) ?_
        rw [et]
        intro F7 H7 e7 st7
        cases bv with
        | false =>
          have ef2 : R.ok (none, s5) = R.ok (a, s4) := ef1
          cases ef2
          refine iteF ?_
          obtain ⟨k1, k2, k3⟩ := st3.outof rfl rfl hD2 st7
          exact ⟨_, F7, acc, out, (q1.trans gr.fz).trans e7, k1, turn_back k3 (hn _) hsub sb (by rw [hlen _ si]; exact st3.len), (q4.mono gr.fz).mono e7, by omega, q8⟩
        | true =>
          have ef2 : ((me xs s5).bind fun r => .ok (some r.1, r.2)) = R.ok (a, s4) := ef1
          cases em : me xs s5 with
          | bad => rw [em] at ef2; cases ef2
          | err c e => rw [em] at ef2; cases ef2
          | ok rq =>
            obtain ⟨rv, s6⟩ := rq
            rw [em] at ef2
            cases ef2
            refine iteT ?_
            intro sh2 H02 Cc2 cl02 fp2
            refine he ⟨sh2, H02, Cc2, cl02, fp2, F3, H2, D⟩ xs (g.blk scope _) s5 σ2 F7 H7 _ (st7.other rfl rfl rfl) ?_
            rw [em]
            intro vv F8 H8 e8 r8 st8
            obtain ⟨k1, k2, k3⟩ := st3.outof rfl rfl hD2 st8
            refine ⟨acc, k1, Nat.lt_of_lt_of_le (m := 1000000) (by rw [q4.length]; omega) (sz_small (Nat.le_refl _)), s6, F8, acc ++ [vv], out ++ [rv], ((q1.trans gr.fz).trans e7).trans e8, upd_same, ?_, (((q4.mono gr.fz).mono e7).mono e8).append (Rps.one r8), by rw [List.length_append]; simp; omega, ?_⟩
            · have ee : er D (upd H8 D (.lst (acc ++ [vv]))) = er D H8 := by
                funext b
                by_cases c : b = D
                · rw [c, er_same, er_same]
                · rw [er_ne c, er_ne c, upd_ne c]
              rw [ee]
              exact turn_back k3 (hn _) hsub sb (by rw [hlen _ si]; exact st3.len)
            · refine q8.mono fun rest s' z => ?_
              have z' : ∀ l xs F' H', Same F F' → H' l = none → Rps C.T F' xs (out ++ (rv :: rest)) → St8 C (φ s') σ F' H' → Q (.ref l) (upd H' l (.lst xs)) := z
              rw [List.append_assoc]
              exact z'
  · rintro H' ⟨si, Fi, acc, out, q1, q2, q3, q4, q5, q6⟩
    rw [List.drop_length] at q6
    have z : ∀ l xs F' H', Same F F' → H' l = none → Rps C.T F' xs (out ++ []) → St8 C (φ si) σ F' H' → Q (.ref l) (upd H' l (.lst xs)) := q6
    have y := z D acc Fi (er D H') (e1.trans q1) er_same (by rw [List.append_nil]; exact q4) q3
    rw [upd_er q2] at y
    exact y
/-- [elt for target in iter if ..] -/
theorem jel_lc {is : List Nat} {parts : D → Option (List D)} {elt tg iter : Expr} {ifs : List Expr} {scope : Scope} (own : List (Str × Nat)) {mi : τ → R (List D × τ)} {mt : List D → τ → R (Bool × τ)} {me : List D → τ → R (D × τ)} (hi : JI C φ tg iter mi) (hg : ∀ b : Blk, JG (blkCtx C scope b) tg is parts)
    (ht : ∀ (b : Blk) (xs : List D), JTs (blkCtx C scope b) (fun s => setMany (wipeE (φ s) (own.map (·.2))) is xs) ifs (mt xs)) (he : ∀ (b : Blk) (xs : List D), JE (blkCtx C scope b) (fun s => setMany (wipeE (φ s) (own.map (·.2))) is xs) elt (me xs))
    (hn : ∀ s, ((own.map (·.2)).all fun i => ((φ s)[i]?.join).isNone) = true := by intro _; rfl)
    (ok : blkC C.X.N C.X.env.scope scope own = true := by rfl) (hsub : ∀ i ∈ is, i ∈ own.map (·.2) := by decide) (hh : C.hot = false := by rfl) (hs : ∀ x, foldedSetIterable iter C.X.env x = pure x := by intro _; rfl) (hlen : ∀ s s', (φ s).length = (φ s').length := by intro _ _; rfl) :
    JEL C φ (.ListComp elt [⟨tg, iter, ifs, 0⟩] scope pos) (fun s => (mi s).bind fun q => (chk (decide (q.1.length ≤ 1000000)) q.1).bind fun ds => lcL (lcT parts mt me) ds q.2) := fun g s σ F H Q st h =>
  ⟨_, pe_lc (wi := wpI C.X tg iter) (g := gU C scope tg) (tt := tU C scope ifs) (te := eU C scope elt)
    (g.calm hh) g.nd pi_wp (blkOk_by ok) (fun s H Cc cl fp => ⟨fun pins s1 σ1 H1 v u Q1 I1 r q => pg_wp.run pins s1 σ1 H1 v u Q1 I1 r (q s H Cc cl fp)⟩)
    (fun s H Cc cl fp => ⟨fun pins s1 σ1 H1 Q1 I1 q => pts_wp.run pins s1 σ1 H1 Q1 I1 (q s H Cc cl fp)⟩) (fun s H Cc cl fp => ⟨fun pins s1 σ1 H1 Q1 I1 q => pe_wp.run pins s1 σ1 H1 Q1 I1 (q s H Cc cl fp)⟩) hs,
    lc_sem own hi hg ht he hn hsub hlen g s σ F H Q st h⟩
/-- x = [elt for ..] -/
theorem jb_setLc (j : Nat) {y : Str} {py spos : Pos} {rest : List Stmt} {ψ : α → τ → Slots} {χ : β → τ → Slots} {ρ : τ → Slots} {k : List D → τ → R (Fl α β × τ)} {is : List Nat} {parts : D → Option (List D)} {elt tg iter : Expr} {ifs : List Expr} {scope : Scope} (own : List (Str × Nat)) {mi : τ → R (List D × τ)} {mt : List D → τ → R (Bool × τ)} {me : List D → τ → R (D × τ)} (hi : JI C φ tg iter mi) (hg : ∀ b : Blk, JG (blkCtx C scope b) tg is parts)
    (ht : ∀ (b : Blk) (xs : List D), JTs (blkCtx C scope b) (fun s => setMany (wipeE (φ s) (own.map (·.2))) is xs) ifs (mt xs)) (he : ∀ (b : Blk) (xs : List D), JE (blkCtx C scope b) (fun s => setMany (wipeE (φ s) (own.map (·.2))) is xs) elt (me xs))
    (hk : ∀ ds, JB C (fun s => (φ s).set j (some (.own ds))) rest ψ χ ρ (k ds)) (hn : ∀ s, ((own.map (·.2)).all fun i => ((φ s)[i]?.join).isNone) = true := by intro _; rfl)
    (hy : C.X.N[j]? = some y := by rfl) (hyl : C.X.env.scope.names.lookup y = some .local := by rfl) (hsw : swapsWith (.ListComp elt [⟨tg, iter, ifs, 0⟩] scope pos) (some (.Name y py)) spos.line C.X.env = pure true := by rfl)
    (ok : blkC C.X.N C.X.env.scope scope own = true := by rfl) (hsub : ∀ i ∈ is, i ∈ own.map (·.2) := by decide) (hh : C.hot = false := by rfl) (hs : ∀ x, foldedSetIterable iter C.X.env x = pure x := by intro _; rfl) (hlen : ∀ s s', (φ s).length = (φ s').length := by intro _ _; rfl) :
    JB C φ (.Assign [.Name y py] (.ListComp elt [⟨tg, iter, ifs, 0⟩] scope pos) spos :: rest) ψ χ ρ (fun s => ((mi s).bind fun q => (chk (decide (q.1.length ≤ 1000000)) q.1).bind fun ds => lcL (lcT parts mt me) ds q.2).bind fun p => k p.1 p.2) := fun g s σ F H Dn st h => by
  refine ⟨_, pss_cons (ps_setLc (wi := wpI C.X tg iter) (g := gU C scope tg) (tt := tU C scope ifs) (te := eU C scope elt)
    (g.calm hh) g.nd hy hyl hsw pi_wp (blkOk_by ok) (fun s H Cc cl fp => ⟨fun pins s1 σ1 H1 v u Q1 I1 r q => pg_wp.run pins s1 σ1 H1 v u Q1 I1 r (q s H Cc cl fp)⟩)
    (fun s H Cc cl fp => ⟨fun pins s1 σ1 H1 Q1 I1 q => pts_wp.run pins s1 σ1 H1 Q1 I1 (q s H Cc cl fp)⟩) (fun s H Cc cl fp => ⟨fun pins s1 σ1 H1 Q1 I1 q => pe_wp.run pins s1 σ1 H1 Q1 I1 (q s H Cc cl fp)⟩) hs) ps_wp, ?_⟩
  refine lc_sem own hi hg ht he hn hsub hlen g s σ F H (fun x H1 => gName j x σ H1 (wpS C.X rest Dn)) st (h.bind.mono fun ds s1 h1 l xs F1 H1 e1 hl r1 st1 => ?_)
  exact hk ds g s1 _ F1 _ Dn (st1.newOwn hl r1) (Srv.mono h1 fun f s2 => FlPost.mono e1)
end
end Pv
set_option Elab.async false
set_option linter.all false
set_option maxRecDepth 100000
/-! PvE: enumerate of a tuple (or a list). -/
namespace Pv
open PySem PySem.Spec PyProof.Rows L2

set_option maxHeartbeats 1000000 in
theorem meets_enum1 {v : Value} {o : Obj} {H : Heap → Prop} (B : Begins v o H) :
    Meets (Builtin.«enumerate.__new__» ⟨[.type "enumerate", v], []⟩) (fun _ R s => H s.heap ∧
      R (.ok (.ret (.ref (s.heap.push o).objs.size))) { s with heap := (s.heap.push o).push { cls := .type "enumerate", data := .fields #[.none, .bool false, .ref s.heap.objs.size, rawInt 0, .none, .none] } }) :=
  .of_wp fun prog w A R s h => by
    obtain ⟨hp, g, d, tk, os⟩ := s
    obtain ⟨h1, h⟩ := h
    have hsub := sub_enumerate
    have q1 : ∀ {A' : Around} {E : Value → Shared → Prop} {Q : Value → Shared → Prop}, Q (.ref hp.objs.size) ⟨hp.push o, g, d, tk, os⟩ → wpAny (model prog w) A' (pyIter v) Q E ⟨hp, g, d, tk, os⟩ :=
      fun q => B.iter prog w _ _ ⟨hp, g, d, tk, os⟩ _ h1 q
    wp_walk using q1
    refine wpAny_stack_any fun st => wpAny_pure ?_
    split
    · rename_i c _ _ _ _ _
      cases (c == Value.type "enumerate")
      · wp_walk using q1
        exact ⟨_, rfl, h⟩
      · wp_walk using q1
        exact ⟨_, rfl, h⟩
    · wp_walk using q1
      exact ⟨_, rfl, h⟩
section
variable {prog : Program} {w : World} {A : Around} {E : Value → Shared → Prop} {s : Shared}
theorem enum1 {v : Value} {o : Obj} {H : Heap → Prop} {Q : Value → Shared → Prop} (B : Begins v o H) (h1 : H s.heap)
    (h : ∀ h', IsEnum h' (s.heap.objs.size + 1) s.heap.objs.size 0 .none → h'.get? s.heap.objs.size = some o → h'.objs.size = s.heap.objs.size + 2 →
      (∀ b o, s.heap.get? b = some o → h'.get? b = some o) → Q (.ref (s.heap.objs.size + 1)) { s with heap := h' }) :
    wpAny (model prog w) A (call (.type "enumerate") [v]) Q E s := by
  refine callType_new F.called_enumerate (by decide) (F.typeCall_enumerate_1 _) (F.newCall_enumerate_1 _) (fun obj => F.args_object_init_2 obj _) F.entry_enumerate_new (meets_enum1 B) ⟨h1, ?_⟩
  have hz : (s.heap.push o).objs.size = s.heap.objs.size + 1 := Heap.size_push ..
  have he := Heap.get?_push_size (s.heap.push o) (o := { cls := .type "enumerate", data := .fields #[.none, .bool false, .ref s.heap.objs.size, rawInt 0, .none, .none] }) rfl
  rw [hz] at he
  show _ ∧ _
  rw [hz]
  exact ⟨⟨_, he, rfl⟩, h _ he (Heap.get?_push_of_some _ (Heap.get?_push_size _ B.free)) (by rw [Heap.size_push, hz]) fun b o x => Heap.get?_push_of_some _ (Heap.get?_push_of_some _ x)⟩
end
/-- the tuple at a, each item in a new pair -/
def IteT (K : PySem.W.Frag) (a : Addr) : It :=
  ⟨fun i H => ∃ (xs : List V) (x : V), SqT K H a xs ∧ xs[i]? = some x, fun i H v H' => ∃ T x, v = .ref T ∧ H T = none ∧ H' = upd H T (.tup [.int (i : Nat), x]) ∧ ∀ xs, SqT K H a xs → xs[i]? = some x, fun i H => ∃ xs : List V, SqT K H a xs ∧ xs.length = i⟩
theorem turn_enumT {P : Program} {w : World} {K : PySem.W.Frag} {elts : List Expr} {kk : Nat} {tpos : Pos} (a e it : Addr) (hat : a ≠ it) (hae : a ≠ e) :
    Turn P w K (.Tuple elts kk tpos) (IteT K a) [e, it] e (fun i h => (∃ old, IsEnum h e it ((i : Nat) : Int) old) ∧ h.IsTupleIter it a i ∧ e ≠ it) where
  mem := by simp
  obj := fun i h st b hb => by
    obtain ⟨⟨old, he⟩, ⟨o, ho, hc, hd⟩, _⟩ := st
    rcases List.mem_cons.mp hb with z | z
    · rw [z]; exact ⟨_, he, fun v q => nomatch q⟩
    · rw [List.mem_singleton.mp z]; exact ⟨o, ho, fun v q => by rw [hd] at q; cases q⟩
  keep := fun i h h' st k => let ⟨⟨old, he⟩, hi, hne⟩ := st; ⟨⟨old, k e (by simp) _ he⟩, hi.at fun o q => k it (by simp) o q, hne⟩
  item := by
    intro X hP hw hK hc i pins s σ H E I hf st hg
    subst hP hw hK
    obtain ⟨⟨old, he⟩, hit, hne⟩ := st
    obtain ⟨xs, x, hq, hx⟩ := hg
    obtain ⟨its, rv, p, hz⟩ := I.tuple hq
    obtain ⟨u, hu, ru⟩ := rv.get hx
    have hel : e < s.heap.objs.size := Heap.lt_size he
    have hil : it < s.heap.objs.size := by obtain ⟨_, q, _⟩ := hit; exact Heap.lt_size q
    have hu' : its.toArray[i]? = some u := by simpa using hu
    have hlt : i < its.toArray.size := (Array.getElem?_eq_some_iff.mp hu').1
    refine wpAny_pyNext_enum_itemD (D := Draws.tuple (A := X.A.in1) (I.ok.hd hc) it a hat its.toArray) he ⟨hit, p⟩ hlt hne (by simp [hne, Ne.symm hae]) fun y h' tk hy ho hst hT hsz hk => ?_
    have ey : y = u := by rw [hu'] at hy; exact (Option.some.inj hy).symm
    subst ey
    refine ⟨_, rfl, wpAny_letOwnedTupleGo_enum (s := { s with heap := h', toks := tk + 1 }) ho fun h'' he' sb => ?_⟩
    have hT2 : h''.get? s.heap.objs.size = some { cls := .type "tuple", data := .seq #[.int i tk, y] } := (sb.2 _ (Nat.ne_of_gt hel)).trans hT
    have new : ObjOk X.prog X.w (upd H s.heap.objs.size (.tup [.int (i : Nat), x])) h'' s.heap.objs.size (.tup [.int (i : Nat), x]) :=
      ⟨by show 2 ≤ sizeLine; decide, [.int i tk, y], .cons ⟨_, rfl⟩ (.cons ru .nil), ⟨_, hT2, rfl, _, rfl⟩⟩
    have I1 : Inv X pins σ (upd H s.heap.objs.size (.tup [.int (i : Nat), x])) { s with heap := h'', toks := tk + 1 } :=
      I.turnedNew (ch := [e, it]) (fun b ob hb q => (sb.2 b (fun z => hb (by simp [z]))).trans (hk b ob (fun z => hb (by simp [z])) (fun z => hb (by simp [z])) q)) hf (Nat.le_refl _) new
    refine ⟨.ref s.heap.objs.size, _, I1, rfl, ⟨_, x, rfl, I.hok.fresh (Nat.le_refl _), rfl, fun ys hy => by rw [I.tuple_inj hy hq]; exact hx⟩, ⟨⟨y, ?_⟩, hst.1.at fun o q => (sb.2 it (Ne.symm hne)).trans q, hne⟩, fun b hb => ?_⟩
    · have e1 : ((i + 1 : Nat) : Int) = (i : Int) + 1 := by omega
      rw [e1]; exact he'
    · have hb' : b < s.heap.objs.size := by
        rcases List.mem_cons.mp hb with z | z
        · rw [z]; exact hel
        · rw [List.mem_singleton.mp z]; exact hil
      rw [upd_ne (Nat.ne_of_lt hb')]
      exact (hf b hb).1
  done := by
    intro X hP hw hK hc i pins s σ H E I hf st hg
    subst hP hw hK
    obtain ⟨⟨old, he⟩, hit, hne⟩ := st
    obtain ⟨xs, hq, hx⟩ := hg
    obtain ⟨its, rv, p, hz⟩ := I.tuple hq
    obtain ⟨f0, f1, f2, f3, f4, f5⟩ := hf it (by simp)
    have hl := rv.length
    have hn : its.toArray.size = i := by rw [List.size_toArray, ← hl, hx]
    refine wpAny_pyNext_enum_endD (D := Draws.tuple (A := X.A.in1) (I.ok.hd hc) it a hat its.toArray) he (by rw [hn]; exact ⟨hit, p⟩) fun h' eb => ⟨rfl, I.turned (t' := s.toks) (fun b o hb q => ?_) f0 f1 f3 f4 f5⟩
    exact eb b o hb q
  self := fun A i s Q E st h => let ⟨⟨_, he⟩, _⟩ := st; wpAny_pyIter_enum he h

def iEnumA (K : PySem.W.Frag) (ta : TA) : TI := fun σ H R => ta σ H fun vs H1 => ∃ a, vs = [.ref a] ∧ ((∃ xs, SqL K H1 a xs ∧ R (Ite K a) H1) ∨ ∃ xs, SqT K H1 a xs ∧ R (IteT K a) H1)
theorem pi_enumA {X : Cx} {e : Expr} {ta : TA} {p pos tpos : Pos} {elts : List Expr} {kk : Nat} (hg : Gl X "enumerate") (hm : X.mg "enumerate" = none) (ha : PA X [e] ta) (hs : starEach [e] X.env = [(false, eval e X.env)] := by rfl) :
    PI X (.Tuple elts kk tpos) (.Call (.Name "enumerate" p) [e] [] pos) (iEnumA X.K ta) := by
  refine ⟨fun pins s σ H R I h => ?_⟩
  refine Call_ (ld_blt I hg hm boot_enumerate (PyProof.Rows.callWith_type1 (thn (ha.run pos pins s σ H _ I h) fun us s1 ⟨vs, H1, I1, r1, q1⟩ => ?_) hs rfl))
  obtain ⟨a, ex, q⟩ := q1
  subst ex
  cases r1 with
  | cons r rr =>
    cases rr
    cases r
    have fp : ∀ b ∈ [s1.heap.objs.size + 1, s1.heap.objs.size], FpOk X pins H1 b := fun b hb => by
      have hle : s1.heap.objs.size ≤ b := by
        rcases List.mem_cons.mp hb with z | z
        · rw [z]; exact Nat.le_add_right _ _
        · rw [List.mem_singleton.mp z]; exact Nat.le_refl _
      exact I1.fpOk hle (I1.hok.fresh hle)
    rcases q with ⟨xs, hq, q⟩ | ⟨xs, hq, q⟩
    · obtain ⟨its, rv, p', hz⟩ := I1.list hq
      refine call_enumerate_list p'.isList fun h' he hit hsz hk => wpAny_pyIter_enum he ?_
      exact ⟨s1.heap.objs.size + 1, [s1.heap.objs.size + 1, s1.heap.objs.size], _, _, H1, rfl, I1.kept (t' := s1.toks) hk, turn_enum a (s1.heap.objs.size + 1) s1.heap.objs.size, ⟨⟨.none, he⟩, hit, Nat.succ_ne_self _⟩, fp, q⟩
    · obtain ⟨its, rv, p', hz⟩ := I1.tuple hq
      have hal : a < s1.heap.objs.size := by obtain ⟨_, q, _⟩ := p'; exact Heap.lt_size q
      refine enum1 (begins_tuple a its.toArray) p' fun h' he hit hsz hk => wpAny_pyIter_enum he ?_
      exact ⟨s1.heap.objs.size + 1, [s1.heap.objs.size + 1, s1.heap.objs.size], _, _, H1, rfl, I1.kept (t' := s1.toks) hk, turn_enumT a (s1.heap.objs.size + 1) s1.heap.objs.size (Nat.ne_of_lt hal) (Nat.ne_of_lt (Nat.lt_succ_of_lt hal)), ⟨⟨.none, he⟩, ⟨_, hit, rfl, rfl⟩, Nat.succ_ne_self _⟩, fp, q⟩
theorem Gives.enumT {T : Txt} {F1 : Hp} {a : Addr} {xs : List V} {ds : List D} (h : F1 a = some (.tup xs)) (r : Rps T F1 xs ds) : Gives T F1 (enD ds) (IteT T.K a) := by
  refine ⟨fun H => H a = some (.tup xs), fun i H v H' => ∃ t x, v = .ref t ∧ H t = none ∧ H' = upd H t (.tup [.int (i : Nat), x]) ∧ xs[i]? = some x, ?_, fun H e => e _ _ h, fun i F H x H' hi e1 e2 y => ?_⟩
  · rw [enD_len, ← r.length]
    refine ⟨fun i H hi q => ⟨xs, xs[i], .inl (.inl q), by simp [hi]⟩, fun H q => ⟨xs, .inl (.inl q), rfl⟩, fun i H v H' hi q y => ?_⟩
    obtain ⟨t, x, h1, h2, h3, h4⟩ := y
    exact ⟨t, x, h1, h2, h3, h4 xs (.inl (.inl q))⟩
  · obtain ⟨t, v, rfl, ht, rfl, hx⟩ := y
    obtain ⟨d, hd, rd⟩ := r.get' hx
    have gr := grow_new (o := .tup [.int (i : Nat), v]) e2 ht
    exact ⟨_, _, gr, sub_new e2, enD_at hd, .tup upd_same (.cons (.int _) (.cons ((rd.mono e1).mono gr.fz) .nil))⟩
theorem ji_enum {C : Ctx} {τ : Type} {φ : τ → Slots} {p pos tpos : Pos} {elts : List Expr} {kk : Nat} {e : Expr} {m : τ → R (D × τ)} (hm : C.T.mg "enumerate" = none) (h : JE C φ e m) (hg : Gl C.X "enumerate" := by rfl) (hs : starEach [e] C.X.env = [(false, eval e C.X.env)] := by rfl) :
    JI C φ (.Tuple elts kk tpos) (.Call (.Name "enumerate" p) [e] [] pos) (fun s => (m s).bind fun q => (asItems q.1).bind fun ds => .ok (enD ds, q.2)) := fun g s σ F H Q st hh => by
  refine ⟨_, pi_enumA hg (by rw [g.mg]; exact hm) (pa_cons pe_wp pa_nil hs) hs, ?_⟩
  refine h g s σ F H _ st (hh.bind.mono fun d s1 h1 v F1 H1 e1 r1 st1 => ?_)
  have h2 := h1.bind1
  rw [g.K]
  cases r1 with
  | @lst a xs ds hl rl => exact ⟨a, rfl, .inl ⟨xs, .inl (.inl (st1.sub _ _ hl)), h2 _ F1 H1 e1 st1 (Gives.enum (.inl (.inl hl)) rl)⟩⟩
  | @tup a xs ds hl rl => exact ⟨a, rfl, .inr ⟨xs, .inl (.inl (st1.sub _ _ hl)), h2 _ F1 H1 e1 st1 (Gives.enumT hl rl)⟩⟩
  | @scr a ns hl => exact ⟨a, rfl, .inl ⟨_, sql_same st1.sub hl.sql, h2 _ F1 H1 e1 st1 (Gives.enum hl.sql (Rps.ints _))⟩⟩
  | _ => exact h2.elim
end Pv
set_option Elab.async false
set_option linter.all false
set_option maxRecDepth 100000
/-! PvK: what a caller knows of a def, from the def's own proof. -/
namespace Pv
open PySem PySem.Spec PyProof.Rows L2

def DefAt (T : Txt) (x qual : Str) (st : Stmt) : Prop := ∃ f fd, Fun T.K x qual st f fd ∧ T.mg x = some (.ref f)
theorem vals_getD {zs : List V} {ws : List Value} (r : Vals zs ws) (i : Nat) : RelV (zs.getD i .non) (ws.getD i .none) := by
  rw [List.getD_eq_getElem?_getD, List.getD_eq_getElem?_getD]
  cases q : zs[i]? with
  | none =>
    have hl := r.length
    have : ws[i]? = none := by
      rw [List.getElem?_eq_none_iff] at q ⊢
      omega
    rw [this]
    rfl
  | some v =>
    obtain ⟨u, h1, h2⟩ := r.get q
    rw [h1]
    exact h2
theorem vals_pm {zs : List V} {ws : List Value} (r : Vals zs ws) : ∀ pm : List Nat, Vals (pm.map fun i => zs.getD i .non) (pm.map fun i => ws.getD i .none)
  | [] => .nil
  | i :: pm => .cons (vals_getD r i) (vals_pm r pm)
theorem rps_getD {T : Txt} {F : Hp} {zs : List V} {es : List D} (r : Rps T F zs es) (i : Nat) : Rp T F (zs.getD i .non) (es.getD i .non) := by
  rw [List.getD_eq_getElem?_getD, List.getD_eq_getElem?_getD]
  cases q : es[i]? with
  | none =>
    have hl := r.length
    have : zs[i]? = none := by
      rw [List.getElem?_eq_none_iff] at q ⊢
      omega
    rw [this]
    exact .non
  | some v =>
    obtain ⟨u, h1, h2⟩ := r.get q
    rw [h1]
    exact h2
theorem rps_pm {T : Txt} {F : Hp} {zs : List V} {es : List D} (r : Rps T F zs es) : ∀ pm : List Nat, Rps T F (pm.map fun i => zs.getD i .non) (pm.map fun i => es.getD i .non)
  | [] => .nil
  | i :: pm => .cons (rps_getD r i) (rps_pm r pm)
/-- the values written, then those of the keywords by the order of the parameters -/
def argsM (pm : List Nat) (ds es : List D) : List D := ds ++ pm.map fun i => es.getD i .non
def callM {α : Type} (n m : Nat) (pm : List Nat) (f : List D → R α) (ds es : List D) : R α := if ds.length = n ∧ es.length = m then f (argsM pm ds es) else .bad
def callL {α : Type} (n m : Nat) (pm : List Nat) (f : List D → Deal → R (α × Deal)) (ds es : List D) (dl : Deal) : R (α × Deal) := if ds.length = n ∧ es.length = m then f (argsM pm ds es) dl else .bad
section
variable {T : Txt} {x qual : Str} {st : Stmt} {ps ks : List Str} {pm : List Nat} {n k j : Nat}
def BindOk (x qual : Str) (st : Stmt) (ps ks : List Str) (pm : List Nat) (n : Nat) : Prop := ∀ (kV doc pmv : Value) (an : Option Addr) (cdv ct : Value) (us ws : List Value), us.length = n → ws.length = ks.length →
  bindArgs (PySem.W.fnOf x qual (defArgs st) (defBody st) (defScope st) .none kV doc pmv an cdv ct) ⟨us, ks.zip ws⟩ = pure (ps.zip (us ++ pm.map fun i => ws.getD i .none))
theorem kbn_of {f : Addr} {fd : FuncData} (F : Fun T.K x qual st f fd) (hb : BindOk x qual st ps ks pm n) : KBn T.K fd ps n ks (fun us ws => us ++ pm.map fun i => ws.getD i .none) (fun vs zs => vs ++ pm.map fun i => zs.getD i .non) := by
  obtain ⟨oc, od, kV, doc, pmv, an, cdv, ct, osl, rfl, lk, hcd⟩ := F.ex
  exact ⟨fun s us ws _ h1 h2 => .of_eq (hb kV doc pmv an cdv ct us ws h1 h2), fun r rz => r.append (vals_pm rz pm)⟩
theorem mk_calleeD {mm : List D → R D} (hd : DefAt T x qual st) (hfn : ∀ f fd, Fun T.K x qual st f fd → FnG T.P T.w T.K T.mg T.base (L2.CX T.P T.w) j f fd ps (SpD T k mm)) (hk : n + pm.length = k) (hb : BindOk x qual st ps ks pm n) :
    CalleeD T x n ks j (callM n ks.length pm mm) := by
  obtain ⟨f, fd, F, hm⟩ := hd
  refine ⟨k, mm, _, ⟨f, fd, ps, _, hfn f fd F, hm, F.kp, kbn_of F hb⟩, fun G vs zs ds es r rz l1 l2 => ⟨argsM pm ds es, r.append (rps_pm rz pm), ?_, ?_⟩, fun ds es h => ?_⟩
  · unfold argsM
    rw [List.length_append, List.length_map]
    omega
  · exact (if_pos ⟨l1, l2⟩).symm
  · by_cases c : ds.length = n ∧ es.length = ks.length
    · exact c
    · exact absurd (if_neg c) h
theorem mk_calleeL {mm : List D → Deal → R (D × Deal)} (hd : DefAt T x qual st) (hfn : ∀ f fd, Fun T.K x qual st f fd → FnG T.P T.w T.K T.mg T.base (L2.CX T.P T.w) j f fd ps (SpL T k mm)) (hk : n + pm.length = k) (hb : BindOk x qual st ps ks pm (n + 1)) :
    CalleeL T x n ks j (callL n ks.length pm mm) := by
  obtain ⟨f, fd, F, hm⟩ := hd
  refine ⟨k, mm, _, ⟨f, fd, ps, _, hfn f fd F, hm, F.kp, kbn_of F hb⟩, fun G l1 vs zs ds es r rz h1 h2 => ⟨vs ++ pm.map fun i => zs.getD i .non, argsM pm ds es, rfl, r.append (rps_pm rz pm), ?_, ?_⟩, fun ds es dl h => ?_⟩
  · unfold argsM
    rw [List.length_append, List.length_map]
    omega
  · funext dl
    exact (if_pos ⟨h1, h2⟩).symm
  · by_cases c : ds.length = n ∧ es.length = ks.length
    · exact c
    · exact absurd (if_neg c) h
/-- a class's __init__ -/
structure MkAt (T : Txt) (c qual : Str) (st : Stmt) : Prop where
  ex : ∃ Ca f fd, T.cls c = some Ca ∧ T.mg c = some (.ref Ca) ∧ Mk T.K Ca f ∧ Fun T.K "__init__" qual st f fd
theorem mk_calleeI {c : Str} {mm : List D → R (List (Str × D))} (hd : MkAt T c qual st) (hfn : ∀ f fd, Fun T.K "__init__" qual st f fd → FnG T.P T.w T.K T.mg T.base (L2.CX T.P T.w) j f fd ps (SpI T c k mm)) (hk : n + pm.length = k) (hb : BindOk "__init__" qual st ps ks pm (n + 1)) :
    CalleeI T c n ks j (callM n ks.length pm mm) := by
  obtain ⟨Ca, f, fd, h1, h2, M, F⟩ := hd.ex
  refine ⟨k, mm, _, Ca, f, fd, ps, _, h1, h2, M, hfn f fd F, kbn_of F hb, fun G p vs zs ds es r rz l1 l2 => ⟨vs ++ pm.map fun i => zs.getD i .non, argsM pm ds es, rfl, r.append (rps_pm rz pm), ?_, ?_⟩, fun ds es h => ?_⟩
  · unfold argsM
    rw [List.length_append, List.length_map]
    omega
  · exact (if_pos ⟨l1, l2⟩).symm
  · by_cases c : ds.length = n ∧ es.length = ks.length
    · exact c
    · exact absurd (if_neg c) h
end
end Pv
set_option Elab.async false
set_option linter.all false
set_option maxRecDepth 100000
/-! PvD: what a deal suffers; where it comes from. -/
namespace Pv
open PySem PySem.Spec PyProof.Rows L2
section
variable {C : Ctx} {α β : Type} {φ : Deal → Slots} {ψ : α → Deal → Slots} {χ : β → Deal → Slots} {ρ : Deal → Slots} {rest : List Stmt} {pos p1 p2 ap cp : Pos} {l1 l2 : Addr} {dn : Str} {k0 : Nat}
theorem St8.dealPut {e : Slots} {σ : L2.St} {F H : Hp} {i : Nat} {dl : Deal} {cs : List Int} (st : St8 C e σ F H) (hi : e[i]?.join = some (.deal l1 l2 dl.1 dl.2)) : St8 C (e.set i (some (.deal l1 l2 cs dl.2))) σ F (upd H l2 (.lst (cs.map V.int))) := by
  obtain ⟨_, da⟩ := st.env.dealAt hi
  refine st.deal (dl' := (cs, dl.2)) hi ⟨Same.refl F, fun a o h => .inl h, fun a o h m => ?_, fun a h => ?_⟩ (fun a o h => ?_) ⟨?_, upd_same, da.f1, da.f2, da.ne⟩
  · rw [upd_ne fun z => m (.inr z)]; exact h
  · by_cases c : a = l2
    · rw [c, upd_same] at h; cases h
    · rw [upd_ne c] at h; exact h
  · have n : a ≠ l2 := fun z => by rw [z, da.f2] at h; cases h
    rw [upd_ne n]; exact st.sub a o h
  · rw [upd_ne da.ne]; exact da.h1
/-- deal[0].pop() -/
theorem je_dealPop (i : Nat) (hd : ∀ dl, (φ dl)[i]?.join = some (.deal l1 l2 dl.1 dl.2) := by intro _; rfl) (hput : ∀ dl dl' : Deal, (φ dl).set i (some (.deal l1 l2 dl'.1 dl'.2)) = φ dl' := by intro _ _; rfl)
    (hN : C.X.N[i]? = some dn := by rfl) (hv : Vis C.X.env.scope dn := by first | exact Or.inl rfl | exact Or.inr (Or.inl rfl) | exact Or.inr (Or.inr rfl)) (hdb : (dn == ("__debug__" : Str)) = false := by decide) (hcd : (dn == ("__classdict__" : Str)) = false := by decide)
    (hbase : attributeBase (.Subscript (.Name dn p1) (.Constant (.int 0) k0 p2) pos) "pop" C.X.env (eval (.Subscript (.Name dn p1) (.Constant (.int 0) k0 p2) pos) C.X.env) = eval (.Subscript (.Name dn p1) (.Constant (.int 0) k0 p2) pos) C.X.env := by rfl) (hline : (ap.endLine == cp.line) = true := by rfl) :
    JE C φ (.Call (.Attribute (.Subscript (.Name dn p1) (.Constant (.int 0) k0 p2) pos) "pop" ap) [] [] cp) (fun dl => (opt dl.1.getLast?).bind fun c => .ok (.int c, (dl.1.dropLast, dl.2))) := fun g dl σ F H Q st h => by
  refine ⟨_, pe_bm0 PySem.F.plainAttrs_list PySem.F.slot_list_pop PySem.F.type_list_pop mt_pop (pe_ix ix_list (pe_var hN hv hdb hcd) pe_int (by intro _ _; rfl)) hbase hline, ?_⟩
  obtain ⟨e1, da⟩ := st.env.dealAt (hd dl)
  obtain ⟨c, hc, h2⟩ := h.bind1.opt
  refine ⟨.ref l1, e1, l1, _, 0, .ref l2, rfl, rfl, .inl (.inl da.h1), rfl, .inl ⟨rfl, _, .inl (.inl da.h2)⟩, l2, dl.1.map V.int, .int c, rfl, rfl, da.h2, ?_, ?_⟩
  · rw [List.length_map, List.getElem?_map, ← List.getLast?_eq_getElem?, hc]; rfl
  · have st2 := st.dealPut (cs := dl.1.dropLast) (hd dl)
    rw [hput dl (dl.1.dropLast, dl.2)] at st2
    rw [← List.map_dropLast]
    exact (show ∀ v F' H', Same F F' → Rp C.T F' v (.int c) → St8 C (φ (dl.1.dropLast, dl.2)) σ F' H' → Q v H' from h2) _ F _ (Same.refl F) (.int c) st2
/-- deal[0].append(e) -/
theorem je_dealApp (i : Nat) {e : Expr} {me : Deal → R (D × Deal)} (he : JE C φ e me) (hd : ∀ dl, (φ dl)[i]?.join = some (.deal l1 l2 dl.1 dl.2) := by intro _; rfl) (hput : ∀ dl dl' : Deal, (φ dl).set i (some (.deal l1 l2 dl'.1 dl'.2)) = φ dl' := by intro _ _; rfl)
    (hN : C.X.N[i]? = some dn := by rfl) (hv : Vis C.X.env.scope dn := by first | exact Or.inl rfl | exact Or.inr (Or.inl rfl) | exact Or.inr (Or.inr rfl)) (hdb : (dn == ("__debug__" : Str)) = false := by decide) (hcd : (dn == ("__classdict__" : Str)) = false := by decide)
    (hbase : attributeBase (.Subscript (.Name dn p1) (.Constant (.int 0) k0 p2) pos) "append" C.X.env (eval (.Subscript (.Name dn p1) (.Constant (.int 0) k0 p2) pos) C.X.env) = eval (.Subscript (.Name dn p1) (.Constant (.int 0) k0 p2) pos) C.X.env := by rfl) (hline : (ap.endLine == cp.line) = true := by rfl)
    (hfew : ((backTo cp (starEach (e :: []) C.X.env)).all (fun x => !x.1) && (backToKw cp (keywordEach [] C.X.env)).all (fun x => x.1.isSome) && decide ((e :: []).length + ([] : List Keyword).length + (if ([] : List Keyword).isEmpty then 0 else 1) < 30)) = true := by rfl)
    (hst : starEach (e :: []) C.X.env = (false, eval e C.X.env) :: starEach [] C.X.env := by rfl) (hpl : (backTo cp (starEach [] C.X.env)).any (·.1) = false := by rfl) :
    JE C φ (.Call (.Attribute (.Subscript (.Name dn p1) (.Constant (.int 0) k0 p2) pos) "append" ap) [e] [] cp) (fun dl => (me dl).bind fun q => (asInt q.1).bind fun c => (chk (decide (q.2.1.length < 1000000)) ()).bind fun _ => .ok (.non, (q.2.1 ++ [c], q.2.2))) := fun g dl σ F H Q st h => by
  refine ⟨_, pe_bm PySem.F.plainAttrs_list PySem.F.slot_list_append PySem.F.type_list_append mt_append (pe_ix ix_list (pe_var hN hv hdb hcd) pe_int (by intro _ _; rfl)) (pa_cons pe_wp pa_nil hst) hbase hfew hline hst hpl, ?_⟩
  obtain ⟨e1, da⟩ := st.env.dealAt (hd dl)
  refine ⟨.ref l1, e1, l1, _, 0, .ref l2, rfl, rfl, .inl (.inl da.h1), rfl, .inl ⟨rfl, _, .inl (.inl da.h2)⟩, ?_⟩
  refine he g dl σ F H _ st (h.bind.mono fun d dl1 h1 v F1 H1 ee r1 st1 => ?_)
  have h2 := h1.bind1
  cases r1 with
  | int c =>
    obtain ⟨cl, h3⟩ := (show Srv C ((chk (decide (dl1.1.length < 1000000)) ()).bind fun _ => _) _ from h2).bind1.chk
    obtain ⟨_, da1⟩ := st1.env.dealAt (hd dl1)
    refine ⟨l2, dl1.1.map V.int, .int c, rfl, rfl, da1.h2, Nat.lt_of_lt_of_le (by rw [List.length_map]; exact of_decide_eq_true cl) (sz_small (Nat.le_refl _)), ?_⟩
    have st2 := st1.dealPut (cs := dl1.1 ++ [c]) (hd dl1)
    rw [hput dl1 (dl1.1 ++ [c], dl1.2), List.map_append] at st2
    exact (show ∀ v F' H', Same F F' → Rp C.T F' v .non → St8 C (φ (dl1.1 ++ [c], dl1.2)) σ F' H' → Q v H' from h3) _ F1 _ ee .non st2
  | _ => exact h2.elim
/-- deal[1] = e -/
theorem jb_dealSet (i : Nat) {e : Expr} {me : Deal → R (D × Deal)} {k : Deal → R (Fl α β × Deal)} (he : JE C φ e me) (hk : JB C φ rest ψ χ ρ k) (hd : ∀ dl, (φ dl)[i]?.join = some (.deal l1 l2 dl.1 dl.2) := by intro _; rfl) (hput : ∀ dl dl' : Deal, (φ dl).set i (some (.deal l1 l2 dl'.1 dl'.2)) = φ dl' := by intro _ _; rfl)
    (hN : C.X.N[i]? = some dn := by rfl) (hv : Vis C.X.env.scope dn := by first | exact Or.inl rfl | exact Or.inr (Or.inl rfl) | exact Or.inr (Or.inr rfl)) (hdb : (dn == ("__debug__" : Str)) = false := by decide) (hcd : (dn == ("__classdict__" : Str)) = false := by decide)
    (hsub : ∀ v, assign (.Subscript (.Name dn p1) (.Constant (.int 1) k0 p2) ap) C.X.env v = (do
      let ov ← holding [v] (eval (.Name dn p1) C.X.env)
      let iv ← holding [v, ov] (eval (.Constant (.int 1) k0 p2) C.X.env)
      standAt ap
      holding [v, ov, iv] (setItem ov iv v)
      release [v, ov, iv] []) := by intro _; rfl)
    (hs : swapsWithSole [.Subscript (.Name dn p1) (.Constant (.int 1) k0 p2) ap] e pos.line C.X.env = pure false := by rfl) (hw : swappedStores [.Subscript (.Name dn p1) (.Constant (.int 1) k0 p2) ap] e C.X.env = pure none := by rfl)
    (h1 : (assignEach [.Subscript (.Name dn p1) (.Constant (.int 1) k0 p2) ap] C.X.env).map (·.2) = [assign (.Subscript (.Name dn p1) (.Constant (.int 1) k0 p2) ap) C.X.env] := by rfl) :
    JB C φ (.Assign [.Subscript (.Name dn p1) (.Constant (.int 1) k0 p2) ap] e pos :: rest) ψ χ ρ (fun dl => (me dl).bind fun q => (asInt q.1).bind fun b => k (q.2.1, b)) := fun g dl σ F H Dn st h => by
  refine ⟨_, pss_cons (ps_asg pe_wp (pg_sub (pe_var hN hv hdb hcd) pe_int set_list hsub) hs hw h1) ps_wp, ?_⟩
  refine he g dl σ F H _ st (h.bind.mono fun d dl1 h1 v F1 H1 ee r1 st1 => ?_)
  have h2 := h1.bind1
  cases r1 with
  | int b =>
    obtain ⟨e1, da⟩ := st1.env.dealAt (hd dl1)
    refine ⟨.ref l1, e1, l1, _, 1, 1, rfl, rfl, da.h1, rfl, ?_⟩
    have st2 : St8 C ((φ dl1).set i (some (.deal l1 l2 dl1.1 b))) σ F1 (upd H1 l1 (.lst [.ref l2, .int b])) := by
      refine st1.deal (dl' := (dl1.1, b)) (hd dl1) ⟨Same.refl F1, fun a o h => .inl h, fun a o h m => ?_, fun a h => ?_⟩ (fun a o h => ?_) ⟨upd_same, ?_, da.f1, da.f2, da.ne⟩
      · rw [upd_ne fun z => m (.inl z)]; exact h
      · by_cases c : a = l1
        · rw [c, upd_same] at h; cases h
        · rw [upd_ne c] at h; exact h
      · have n : a ≠ l1 := fun z => by rw [z, da.f1] at h; cases h
        rw [upd_ne n]; exact st1.sub a o h
      · rw [upd_ne (Ne.symm da.ne)]; exact da.h2
    rw [hput dl1 (dl1.1, b)] at st2
    exact hk g (dl1.1, b) σ F1 _ Dn st2 (Srv.mono (show Srv C (k (dl1.1, b)) _ from h2) fun f s2 => FlPost.mono ee)
  | _ => exact h2.elim
end
/-! ### a deal is drawn: at the start of a law -/
def asLst : D → R (List D)
  | .lst xs => .ok xs
  | _ => .bad
def dealOf (d : D) : R Deal := (asLst d).bind fun xs => (two xs).bind fun q => (asLst q.1).bind fun cs => (asInt q.2).bind fun b => (opt (asInts cs)).bind fun ns => .ok (ns, b)
theorem dealOf_inv {d : D} {dl : Deal} (h : dealOf d = .ok dl) : ∃ cs, d = .lst [.lst cs, .int dl.2] ∧ asInts cs = some dl.1 := by
  unfold dealOf at h
  cases d with
  | lst xs =>
    match xs with
    | [] => cases h
    | [_] => cases h
    | _ :: _ :: _ :: _ => cases h
    | [x, y] =>
      cases x with
      | lst cs =>
        cases y with
        | int b =>
          have h' : (opt (asInts cs)).bind (fun ns => R.ok (ns, b)) = .ok dl := h
          cases q : asInts cs with
          | none => rw [q] at h'; cases h'
          | some ns => rw [q] at h'; cases h'; exact ⟨cs, rfl, q⟩
        | _ => cases h
      | _ => cases h
  | _ => cases h
/-- slots in which nothing but the script stands -/
def onlyScr (e : Slots) : Prop := ∀ (i : Nat) (sv : SV), e[i]?.join = some sv → ∃ ns, sv = .val (.scr ns)
/-- a law's body -/
def LawB (C : Ctx) (sl : Slots) (ss : List Stmt) (m : R (Fl Unit Unit × Unit)) : Prop := Good C → ∀ (σ : L2.St) (H : Hp) (Dn : Ends), St8 C sl σ C.F0 H →
  Srv C m (FlPost C C.F0 (fun (_ : Unit) _ => []) (fun (_ : Unit) _ => []) (fun (_ : Unit) => []) Dn) → wpS C.X ss Dn σ H
abbrev Ctx.slack (C : Ctx) : Ctx := { C with loose := true }
theorem St8.to_slack {C : Ctx} {env : Slots} {σ : L2.St} {F H : Hp} (s : St8 C env σ F H) : St8 C.slack env σ F H := ⟨s.step, s.sub, s.env, s.len⟩
theorem St8.of_slack {C : Ctx} {env : Slots} {σ : L2.St} {F H : Hp} (s : St8 C.slack env σ F H) : St8 C env σ F H := ⟨s.step, s.sub, s.env, s.len⟩
theorem Good.slack {C : Ctx} (g : Good C) : Good C.slack := ⟨g.K, g.mg, g.pr, g.w, g.base, g.calm, g.nd, g.room, g.own, g.tk⟩
theorem Srv.to_slack {C : Ctx} {α τ : Type} {r : R (α × τ)} {K : α → τ → Prop} (h : Srv C r K) : Srv C.slack r K := by
  cases r with
  | ok p => exact h
  | err c d => exact fun σ cls dd F H e st => h σ cls dd F H e st.of_slack
  | bad => exact h
theorem Ctx.fx_start (C : Ctx) : C.Fx C.F0 = C.F0 := by
  unfold Ctx.Fx
  split <;> rfl
theorem law_post {C : Ctx} {τ : Type} {F : Hp} {Dn : Ends} {fl : Fl Unit Unit} {s : τ} (h : FlPost C C.F0 (fun (_ : Unit) (_ : Unit) => []) (fun (_ : Unit) _ => []) (fun _ => []) Dn fl ()) : FlPost C.slack F (fun (_ : Unit) (_ : τ) => []) (fun (_ : Unit) _ => []) (fun _ => []) Dn fl s := by
  cases fl with
  | nx a => exact fun σ' F' H' e' st' => h σ' F' H' (by rw [C.fx_start]; exact (show Same C.F0 F' from e')) st'.of_slack
  | bk a => exact fun σ' F' H' e' st' => h σ' F' H' (by rw [C.fx_start]; exact (show Same C.F0 F' from e')) st'.of_slack
  | rt r => exact fun v σ' F' H' e' rv st' => h v σ' F' H' (by rw [C.fx_start]; exact (show Same C.F0 F' from e')) rv st'.of_slack
theorem law_jb {C : Ctx} {sl : Slots} {ss : List Stmt} {m : R (Fl Unit Unit × Unit)} (h : JB C.slack (fun _ : Unit => sl) ss (fun (_ : Unit) _ => []) (fun (_ : Unit) _ => []) (fun _ => []) (fun _ => m)) : LawB C sl ss m := fun g σ H Dn st hs => h g.slack () σ C.F0 H Dn st.to_slack (hs.to_slack.mono fun _ _ z => law_post z)
theorem law_deal {C : Ctx} {sl0 : Slots} {rest : List Stmt} {pos p' : Pos} (i : Nat) {x : Str} {e : Expr} {me : Unit → R (D × Unit)} {k : Deal → R (Fl Unit Unit × Deal)} (he : JE C (fun _ : Unit => sl0) e me) (ho : onlyScr sl0)
    (hF : ∀ a o, C.F0 a = some o → ∃ ob xs, o = .frz ob (.lst xs)) (hH : ∀ a o, C.H0 a = some o → ∃ ob xs, o = .frz ob (.lst xs)) (hM : ∀ a, ¬ C.M a)
    (hk : ∀ l1 l2, JB C.slack (fun dl : Deal => sl0.set i (some (.deal l1 l2 dl.1 dl.2))) rest (fun (_ : Unit) _ => []) (fun (_ : Unit) _ => []) (fun _ => []) k)
    (hi : C.X.N[i]? = some x := by rfl) (hx : Loc C.X.env.scope x := by first | exact Or.inl rfl | exact Or.inr rfl) (hs : swapsWith e (some (.Name x p')) pos.line C.X.env = pure false := by rfl)
    (hf : C.X.fn x = true ∨ C.X.env.scope.names.lookup x = some .local := by first | exact .inl rfl | exact .inr rfl) :
    LawB C sl0 (.Assign [.Name x p'] e pos :: rest) ((me ()).bind fun q => (noErr (dealOf q.1)).bind fun dl => (k dl).bind fun r => .ok (r.1, ())) := fun g σ H Dn st h => by
  refine ⟨_, pss_cons (ps_set g.nd hi hx pe_wp hs hf) ps_wp, ?_⟩
  refine he g () σ C.F0 H _ st (h.bind.mono fun d s1 h1 v F1 H1 ee r1 st1 => ?_)
  obtain ⟨dl, ed, h3⟩ := noErr_srv h1.bind1
  obtain ⟨cs, rfl, hns⟩ := dealOf_inv ed
  obtain ⟨ns, b⟩ := dl
  cases r1 with
  | @lst l1 xs _ hl1 rr =>
    cases rr with
    | cons ra rr =>
      cases rr with
      | cons rb rr =>
        cases rr
        cases rb
        cases ra with
        | @lst l2 ys _ hl2 ri =>
          have ey := ints_rps ri hns
          subst ey
          have ne : l1 ≠ l2 := fun z => by
            subst z
            rw [hl1] at hl2
            cases ns with
            | nil => cases hl2
            | cons n ns => cases hl2
          have new : ∀ {a zs}, F1 a = some (.lst zs) → C.H0 a = none ∧ C.F0 a = none := fun {a zs} h => by
            refine ⟨?_, ?_⟩
            · cases q : C.H0 a with
              | none => rfl
              | some o =>
                obtain ⟨ob, u, rfl⟩ := hH a o q
                have z := st1.step.keep a _ q (hM a)
                rw [st1.sub _ _ h] at z
                cases z
            · cases q : C.F0 a with
              | none => rfl
              | some o =>
                obtain ⟨ob, u, rfl⟩ := hF a o q
                rw [st1.step.fz _ _ q] at h
                cases h
          let F2 : Hp := fun a => if a = l1 ∨ a = l2 then none else F1 a
          have f2 : ∀ {a o}, F2 a = some o → (a ≠ l1 ∧ a ≠ l2) ∧ F1 a = some o := fun {a o} h => by
            by_cases c : a = l1 ∨ a = l2
            · rw [show F2 a = none from if_pos c] at h; cases h
            · rw [show F2 a = F1 a from if_neg c] at h
              exact ⟨⟨fun z => c (.inl z), fun z => c (.inr z)⟩, h⟩
          have s2 : ∀ {a o}, F1 a = some o → a ≠ l1 → a ≠ l2 → F2 a = some o := fun {a o} h n1 n2 => by
            rw [show F2 a = F1 a from if_neg fun z => z.elim n1 n2]
            exact h
          have st2 : St8 C (sl0.set i (some (.deal l1 l2 ns b))) (σ.set i (some (.ref l1))) F2 H1 := by
            refine ⟨⟨fun a o h => s2 (st1.step.fz a o h) (fun z => ?_) (fun z => ?_), fun a o h => st1.step.new a o (f2 h).2, st1.step.keep, st1.step.dom⟩, fun a o h => st1.sub a o (f2 h).2, ?_, by rw [List.length_set, List.length_set]; exact st1.len⟩
            · rw [z, (new hl1).2] at h; cases h
            · rw [z, (new hl2).2] at h; cases h
            · obtain ⟨A, h1, h2⟩ := id st1.env
              refine ⟨fun j => if j = i then (if i < sl0.length then [l1, l2] else []) else [], fun j => ?_, fun j k a ha hb => ?_⟩
              · by_cases c : j = i
                · subst c
                  rw [if_pos rfl]
                  by_cases hlt : j < sl0.length
                  · rw [if_pos hlt, join_set_self hlt, join_set_self (Nat.lt_of_lt_of_le hlt st1.len)]
                    exact ⟨rfl, rfl, st1.sub _ _ hl1, st1.sub _ _ hl2, if_pos (.inl rfl), if_pos (.inr rfl), .inl (new hl1).1, .inl (new hl2).1, ne⟩
                  · rw [if_neg hlt, List.getElem?_eq_none (by simpa using hlt)]
                    rfl
                · rw [if_neg c, join_set_ne (Ne.symm c), join_set_ne (Ne.symm c)]
                  have q := h1 j
                  cases z : sl0[j]?.join with
                  | none => rfl
                  | some sv =>
                    rw [z] at q
                    obtain ⟨ms, rfl⟩ := ho j sv z
                    obtain ⟨_, w, q2, q3⟩ := q
                    refine ⟨rfl, w, q2, ?_⟩
                    cases q3 with
                    | scr hsc =>
                      refine .scr ?_
                      rcases hsc with ⟨o, hsc⟩ | hsc
                      · exact .inl ⟨o, s2 hsc (fun z => by rw [z, hl1] at hsc; cases hsc) (fun z => by rw [z, hl2] at hsc; cases hsc)⟩
                      · exact .inr hsc
              · by_cases c : j = i
                · by_cases c' : k = i
                  · rw [c, c']
                  · simp [c'] at hb
                · simp [c] at ha
          have eF : Same C.F0 F2 := st2.step.fz
          exact hk l1 l2 g.slack (ns, b) _ F2 H1 Dn st2.to_slack ((show Srv C ((k (ns, b)).bind fun r => .ok (r.1, ())) _ from h3).bind.to_slack.mono fun fl s2' h4 => law_post h4)

/-! ### a law's own def -/
def SpLawK (K : PySem.W.Frag) (n : Nat) : Sp := fun vs H Q _ => ∃ (a : Addr) (ns : List Int), vs = [.ref a] ∧ ScL K H a (ns.map V.int) ∧ ns.length ≤ n ∧ (∀ b u, H b = some u → ∃ o xs, u = .frz o (.lst xs)) ∧ ∀ H', Q (.bl true) H'
abbrev SpLaw (T : Txt) (n : Nat) : Sp := SpLawK T.K n
theorem fn_okLaw {T : Txt} {qual : Str} {st : Stmt} {f : Addr} {fd : FuncData} {N : List Str} {p : Str} {k n : Nat} {m : List Int → R (Fl Unit Unit × Unit)} (Fn : Fun T.K "law" qual st f fd) (S : FnScope N [p] (defScope st))
    (hbody : ∀ (cdv : Value) (A : Around) (outer : List Env) (s : Shared) (H : Hp) (E : XK) (ns : List Int), (∀ b u, H b = some u → ∃ o xs, u = .frz o (.lst xs)) → LawB (bodyCtx T N qual st f cdv A outer s H E k H fun _ => False) (startD N [.scr ns]) (defBody st) (m ns))
    (hm : ∀ ns : List Int, ns.length ≤ n → m ns = .ok (.rt (.bl true), ())) : FnG T.P T.w T.K T.mg T.base (L2.CX T.P T.w) (k + 1) f fd [p] (SpLaw T n) := by
  refine fn_okG Fn S (fun vs H Q E ⟨a, ns, e, _⟩ => by subst e; rfl) (fun cdv A outer s H vs Q E hr ⟨a, ns, e, hs, hl, ho, hq⟩ => ?_)
  subst e
  have hN := scope_le S
  have st0 : St8 (bodyCtx T N qual st f cdv A outer s H E k H fun _ => False) (startD N [.scr ns]) (L2.start N [V.ref a]) H H :=
    ⟨Step.refl _ _ _, Same.refl H, slots_start (.cons (.scr hs) .nil), by rw [startD_length hN, start_length hN]; exact Nat.le_refl _⟩
  refine ⟨_, ps_wp, hbody cdv A outer s H E ns ho (good_body S hr) _ H _ st0 ?_⟩
  rw [hm ns hl]
  intro v σ F' H' _ rv _
  have rv : Rp T F' v (.bl true) := rv
  cases rv
  exact hq H'

theorem walkP {l : PySem.W.OpenLaw} {n k : Nat} {q : Program} {loose : List Str} {XP : (Str → Option Value) → Heap → Prop} {YP : World → Heap → Prop} {d : DefRec} {K : Params → PySem.W.Frag} {x : Str}
    (hn : l.most = some n) (hn2 : n ≤ sizeLine) (hdf : d.params.defaults = []) (hr : RoomG k callerA) (hY : ∀ (w : World) (h : Heap), YP w h → (K w.params).In h)
    (F : ∀ (w : World) (mg : Str → Option Value) (fa : Addr) (h : Heap), (K w.params).In h → h.Ns mainGlobals mg → mg d.name = some (.ref fa) →
      ∃ fd : FuncData, (∀ (s : Shared) (u : Value), BindsTo s fd ⟨[u], []⟩ [(x, u)]) ∧ ∀ base : Heap, (K w.params).In base → base.Ns mainGlobals mg → FnG l.prog w (K w.params) mg base (L2.CX l.prog w) k fa fd [x] (SpLawK (K w.params) n)) :
    PySem.W.WalkO q loose XP YP l.row.toRowW d [] (fun f vs => PySem.call f vs) :=
  walk_ofG (n := n) (k := k) (x := x) (CX := fun w => L2.CX l.prog w) (sp := fun w => SpLawK (K w.params) n) hn hn2 hdf hr hY F (fun w H a ns hl hs ho => ⟨a, ns, rfl, hs, hl, ho, fun _ => rfl⟩)
    (fun w H s e s' h => by obtain ⟨_, _, _, _, _, _, _, _, _, _, _, _, z⟩ := h; exact z)
end Pv
set_option Elab.async false
set_option linter.all false
set_option maxRecDepth 100000
/-! PvW: forms for printed terms. -/
namespace Pv
open PySem PySem.Spec PyProof.Rows L2
section
variable {C : Ctx} {τ α β : Type} {φ : τ → Slots} {ψ : α → τ → Slots} {χ : β → τ → Slots} {ρ : τ → Slots} {rest : List Stmt} {pos pos2 p : Pos}
def opNeg : D → R D
  | .int i => .ok (.int (-i))
  | _ => .bad
theorem je_neg {e : Expr} {m : τ → R (D × τ)} (h : JE C φ e m) : JE C φ (.UnaryOp .USub e pos) (fun s => (m s).bind fun q => (opNeg q.1).bind fun d => .ok (d, q.2)) := fun g s σ F H Q st hs => by
  refine ⟨_, pe_un un_neg pe_wp, ?_⟩
  refine h g s σ F H _ st (hs.bind.mono fun d s1 h1 v F1 H1 e1 r1 st1 => ?_)
  have h2 := h1.bind1
  cases r1 with
  | int i => exact ⟨i, rfl, h2 _ F1 H1 e1 (.int _) st1⟩
  | _ => exact h2.elim
theorem je_bad {e : Expr} : JE C φ e (fun _ => .bad) := fun g s σ F H Q st h => h.elim
theorem jts_bad {ifs : List Expr} : JTs C φ ifs (fun _ => .bad) := fun g s σ F H Q st h => h.elim
theorem jel_lc1 (i : Nat) {x : Str} {px : Pos} {elt iter : Expr} {ifs : List Expr} {scope : Scope} (own : List (Str × Nat)) {mi : τ → R (List D × τ)} {mt : D → τ → R (Bool × τ)} {me : D → τ → R (D × τ)} (hi : JI C φ (.Name x px) iter mi) (hg : ∀ b : Blk, JG (blkCtx C scope b) (.Name x px) [i] partName)
    (ht : ∀ (b : Blk) (d : D), JTs (blkCtx C scope b) (fun s => (wipeE (φ s) (own.map (·.2))).set i (some (.val d))) ifs (mt d)) (he : ∀ (b : Blk) (d : D), JE (blkCtx C scope b) (fun s => (wipeE (φ s) (own.map (·.2))).set i (some (.val d))) elt (me d))
    (hn : ∀ s, ((own.map (·.2)).all fun i => ((φ s)[i]?.join).isNone) = true := by intro _; rfl)
    (ok : blkC C.X.N C.X.env.scope scope own = true := by rfl) (hsub : ∀ j ∈ [i], j ∈ own.map (·.2) := by decide) (hh : C.hot = false := by rfl) (hs : ∀ x, foldedSetIterable iter C.X.env x = pure x := by intro _; rfl) (hlen : ∀ s s', (φ s).length = (φ s').length := by intro _ _; rfl) :
    JEL C φ (.ListComp elt [⟨.Name x px, iter, ifs, 0⟩] scope pos) (fun s => (mi s).bind fun q => (chk (decide (q.1.length ≤ 1000000)) q.1).bind fun ds => lcL (lcT partName (ar1 (fun _ => .bad) mt) (ar1 (fun _ => .bad) me)) ds q.2) :=
  jel_lc own hi hg (fun b xs => match xs with
    | [d] => ht b d
    | [] => jts_bad
    | _ :: _ :: _ => jts_bad) (fun b xs => match xs with
    | [d] => he b d
    | [] => je_bad
    | _ :: _ :: _ => je_bad) hn ok hsub hh hs hlen
theorem jel_lc2 (i j : Nat) {tg elt iter : Expr} {ifs : List Expr} {scope : Scope} (own : List (Str × Nat)) {mi : τ → R (List D × τ)} {mt : D → D → τ → R (Bool × τ)} {me : D → D → τ → R (D × τ)} (hi : JI C φ tg iter mi) (hg : ∀ b : Blk, JG (blkCtx C scope b) tg [i, j] (partTup 2))
    (ht : ∀ (b : Blk) (d e : D), JTs (blkCtx C scope b) (fun s => ((wipeE (φ s) (own.map (·.2))).set i (some (.val d))).set j (some (.val e))) ifs (mt d e)) (he : ∀ (b : Blk) (d e : D), JE (blkCtx C scope b) (fun s => ((wipeE (φ s) (own.map (·.2))).set i (some (.val d))).set j (some (.val e))) elt (me d e))
    (hn : ∀ s, ((own.map (·.2)).all fun i => ((φ s)[i]?.join).isNone) = true := by intro _; rfl)
    (ok : blkC C.X.N C.X.env.scope scope own = true := by rfl) (hsub : ∀ k ∈ [i, j], k ∈ own.map (·.2) := by decide) (hh : C.hot = false := by rfl) (hs : ∀ x, foldedSetIterable iter C.X.env x = pure x := by intro _; rfl) (hlen : ∀ s s', (φ s).length = (φ s').length := by intro _ _; rfl) :
    JEL C φ (.ListComp elt [⟨tg, iter, ifs, 0⟩] scope pos) (fun s => (mi s).bind fun q => (chk (decide (q.1.length ≤ 1000000)) q.1).bind fun ds => lcL (lcT (partTup 2) (ar2 (fun _ => .bad) mt) (ar2 (fun _ => .bad) me)) ds q.2) :=
  jel_lc own hi hg (fun b xs => match xs with
    | [d, e] => ht b d e
    | [] => jts_bad
    | [_] => jts_bad
    | _ :: _ :: _ :: _ => jts_bad) (fun b xs => match xs with
    | [d, e] => he b d e
    | [] => je_bad
    | [_] => je_bad
    | _ :: _ :: _ :: _ => je_bad) hn ok hsub hh hs hlen
theorem jb_setLc1 (j i : Nat) {x : Str} {px : Pos} {elt iter : Expr} {ifs : List Expr} {scope : Scope} (own : List (Str × Nat)) {mi : τ → R (List D × τ)} {mt : D → τ → R (Bool × τ)} {me : D → τ → R (D × τ)} {y : Str} {py spos : Pos} {k : List D → τ → R (Fl α β × τ)} (hi : JI C φ (.Name x px) iter mi) (hg : ∀ b : Blk, JG (blkCtx C scope b) (.Name x px) [i] partName)
    (ht : ∀ (b : Blk) (d : D), JTs (blkCtx C scope b) (fun s => (wipeE (φ s) (own.map (·.2))).set i (some (.val d))) ifs (mt d)) (he : ∀ (b : Blk) (d : D), JE (blkCtx C scope b) (fun s => (wipeE (φ s) (own.map (·.2))).set i (some (.val d))) elt (me d))
    (hk : ∀ ds, JB C (fun s => (φ s).set j (some (.own ds))) rest ψ χ ρ (k ds)) (hn : ∀ s, ((own.map (·.2)).all fun i => ((φ s)[i]?.join).isNone) = true := by intro _; rfl)
    (hy : C.X.N[j]? = some y := by rfl) (hyl : C.X.env.scope.names.lookup y = some .local := by rfl) (hsw : swapsWith (.ListComp elt [⟨.Name x px, iter, ifs, 0⟩] scope pos) (some (.Name y py)) spos.line C.X.env = pure true := by rfl)
    (ok : blkC C.X.N C.X.env.scope scope own = true := by rfl) (hsub : ∀ j ∈ [i], j ∈ own.map (·.2) := by decide) (hh : C.hot = false := by rfl) (hs : ∀ x, foldedSetIterable iter C.X.env x = pure x := by intro _; rfl) (hlen : ∀ s s', (φ s).length = (φ s').length := by intro _ _; rfl) :
    JB C φ (.Assign [.Name y py] (.ListComp elt [⟨.Name x px, iter, ifs, 0⟩] scope pos) spos :: rest) ψ χ ρ (fun s => ((mi s).bind fun q => (chk (decide (q.1.length ≤ 1000000)) q.1).bind fun ds => lcL (lcT partName (ar1 (fun _ => .bad) mt) (ar1 (fun _ => .bad) me)) ds q.2).bind fun p => k p.1 p.2) :=
  jb_setLc j own hi hg (fun b xs => match xs with
    | [d] => ht b d
    | [] => jts_bad
    | _ :: _ :: _ => jts_bad) (fun b xs => match xs with
    | [d] => he b d
    | [] => je_bad
    | _ :: _ :: _ => je_bad) hk hn hy hyl hsw ok hsub hh hs hlen
theorem jb_setLc2 (j i1 i2 : Nat) {tg elt iter : Expr} {ifs : List Expr} {scope : Scope} (own : List (Str × Nat)) {mi : τ → R (List D × τ)} {mt : D → D → τ → R (Bool × τ)} {me : D → D → τ → R (D × τ)} {y : Str} {py spos : Pos} {k : List D → τ → R (Fl α β × τ)} (hi : JI C φ tg iter mi) (hg : ∀ b : Blk, JG (blkCtx C scope b) tg [i1, i2] (partTup 2))
    (ht : ∀ (b : Blk) (d e : D), JTs (blkCtx C scope b) (fun s => ((wipeE (φ s) (own.map (·.2))).set i1 (some (.val d))).set i2 (some (.val e))) ifs (mt d e)) (he : ∀ (b : Blk) (d e : D), JE (blkCtx C scope b) (fun s => ((wipeE (φ s) (own.map (·.2))).set i1 (some (.val d))).set i2 (some (.val e))) elt (me d e))
    (hk : ∀ ds, JB C (fun s => (φ s).set j (some (.own ds))) rest ψ χ ρ (k ds)) (hn : ∀ s, ((own.map (·.2)).all fun i => ((φ s)[i]?.join).isNone) = true := by intro _; rfl)
    (hy : C.X.N[j]? = some y := by rfl) (hyl : C.X.env.scope.names.lookup y = some .local := by rfl) (hsw : swapsWith (.ListComp elt [⟨tg, iter, ifs, 0⟩] scope pos) (some (.Name y py)) spos.line C.X.env = pure true := by rfl)
    (ok : blkC C.X.N C.X.env.scope scope own = true := by rfl) (hsub : ∀ k ∈ [i1, i2], k ∈ own.map (·.2) := by decide) (hh : C.hot = false := by rfl) (hs : ∀ x, foldedSetIterable iter C.X.env x = pure x := by intro _; rfl) (hlen : ∀ s s', (φ s).length = (φ s').length := by intro _ _; rfl) :
    JB C φ (.Assign [.Name y py] (.ListComp elt [⟨tg, iter, ifs, 0⟩] scope pos) spos :: rest) ψ χ ρ (fun s => ((mi s).bind fun q => (chk (decide (q.1.length ≤ 1000000)) q.1).bind fun ds => lcL (lcT (partTup 2) (ar2 (fun _ => .bad) mt) (ar2 (fun _ => .bad) me)) ds q.2).bind fun p => k p.1 p.2) :=
  jb_setLc j own hi hg (fun b xs => match xs with
    | [d, e] => ht b d e
    | [] => jts_bad
    | [_] => jts_bad
    | _ :: _ :: _ :: _ => jts_bad) (fun b xs => match xs with
    | [d, e] => he b d e
    | [] => je_bad
    | [_] => je_bad
    | _ :: _ :: _ :: _ => je_bad) hk hn hy hyl hsw ok hsub hh hs hlen
theorem lt_put {f : Str} {d : D} : ∀ {fs : List (Str × D)} {n : Nat}, fs.length < n → (putD f d fs).length < n + 1
  | [], n, h => by
    show 1 < n + 1
    have : 0 < n := h
    omega
  | (k, x) :: r, n, h => by
    unfold putD
    by_cases c : k = f
    · rw [if_pos c]
      exact Nat.lt_succ_of_lt h
    · rw [if_neg c]
      have h' : r.length + 1 < n := h
      show (putD f d r).length + 1 < n + 1
      have := lt_put (f := f) (d := d) (fs := r) (n := n - 1) (by omega)
      omega
theorem je_dct0 : JE C φ (.Dict [] [] pos) (fun s => .ok (.dct [], s)) := fun g s σ F H Q st h =>
  ⟨_, pe_dnewK, fun p hp => by
    have gr := grow_new (o := .dK []) st.sub hp
    exact h _ _ _ gr.fz (.dct0 upd_same) (st.new hp)⟩
/-- a, b = e -/
theorem jb_unp2 (i j : Nat) {tg e : Expr} {me : τ → R (D × τ)} {k : D → D → τ → R (Fl α β × τ)} (he : JE C φ e me) (hg : JG C tg [i, j] (partTup 2)) (hk : ∀ d e, JB C (fun s => ((φ s).set i (some (.val d))).set j (some (.val e))) rest ψ χ ρ (k d e))
    (hs : swapsWithSole [tg] e pos.line C.X.env = pure false := by rfl) (hw : swappedStores [tg] e C.X.env = pure none := by rfl) (h1 : (assignEach [tg] C.X.env).map (·.2) = [assign tg C.X.env] := by rfl) :
    JB C φ (.Assign [tg] e pos :: rest) ψ χ ρ (fun s => (me s).bind fun p => (opt (partTup 2 p.1)).bind fun ds => ar2 (fun _ => .bad) k ds p.2) :=
  jb_unp (k := ar2 (fun _ => .bad) k) he hg (fun ds => match ds with
    | [d, e] => hk d e
    | [] => fun g s σ F H Dn st h => h.elim
    | [_] => fun g s σ F H Dn st h => h.elim
    | _ :: _ :: _ :: _ => fun g s σ F H Dn st h => h.elim) hs hw h1
theorem jb_unp3 (i j l : Nat) {tg e : Expr} {me : τ → R (D × τ)} {k : D → D → D → τ → R (Fl α β × τ)} (he : JE C φ e me) (hg : JG C tg [i, j, l] (partTup 3)) (hk : ∀ d e f, JB C (fun s => (((φ s).set i (some (.val d))).set j (some (.val e))).set l (some (.val f))) rest ψ χ ρ (k d e f))
    (hs : swapsWithSole [tg] e pos.line C.X.env = pure false := by rfl) (hw : swappedStores [tg] e C.X.env = pure none := by rfl) (h1 : (assignEach [tg] C.X.env).map (·.2) = [assign tg C.X.env] := by rfl) :
    JB C φ (.Assign [tg] e pos :: rest) ψ χ ρ (fun s => (me s).bind fun p => (opt (partTup 3 p.1)).bind fun ds => ar3 (fun _ => .bad) k ds p.2) :=
  jb_unp (k := ar3 (fun _ => .bad) k) he hg (fun ds => match ds with
    | [d, e, f] => hk d e f
    | [] => fun g s σ F H Dn st h => h.elim
    | [_] => fun g s σ F H Dn st h => h.elim
    | [_, _] => fun g s σ F H Dn st h => h.elim
    | _ :: _ :: _ :: _ :: _ => fun g s σ F H Dn st h => h.elim) hs hw h1
/-! ### a list of one's own is returned; such a list comes from a call -/
theorem jb_retOwn (i : Nat) {f : τ → List D} {x : Str} {p1 : Pos} (hM : ∀ s a, C.M a → ∃ j l1 l2 cs b, j ≠ i ∧ (φ s)[j]?.join = some (.deal l1 l2 cs b) ∧ (a = l1 ∨ a = l2)) (h : ∀ s, SlotsLe (ρ s) (φ s)) (hl : ∀ s, (ρ s).length ≤ (φ s).length)
    (hi : ∀ s, (φ s)[i]?.join = some (.own (f s)) := by intro _; rfl) (hN : C.X.N[i]? = some x := by rfl) (hv : Vis C.X.env.scope x := by first | exact Or.inl rfl | exact Or.inr (Or.inl rfl) | exact Or.inr (Or.inr rfl)) (hd : (x == ("__debug__" : Str)) = false := by decide) (hcd : (x == ("__classdict__" : Str)) = false := by decide) :
    JB C φ (.Return (some (.Name x p1)) pos :: rest) ψ χ ρ (fun s => .ok (.rt (.fre (f s)), s)) := fun g s σ F H Dn st hs => by
  refine ⟨_, pss_cons (ps_ret (pe_var hN hv hd hcd)) pss_never, ?_⟩
  obtain ⟨l, xs, e1, e2, e3, e4, e5⟩ := st.env.ownAt (hi s)
  have h0 : C.H0 l = none := by
    rcases e5 with z | z
    · exact z
    · obtain ⟨j, l1, l2, cs, b, nj, hj, ha⟩ := hM s l z
      obtain ⟨A, q1, q2⟩ := id st.env
      have qi := q1 i
      rw [hi s] at qi
      obtain ⟨l', _, a1, a2, _⟩ := qi
      rw [e1] at a2
      cases a2
      have qj := q1 j
      rw [hj] at qj
      obtain ⟨b1, _⟩ := qj
      exact absurd (q2 j i l (by rw [b1]; rcases ha with z | z <;> simp [z]) (by rw [a1]; simp)) nj
  exact ⟨_, e1, (show ∀ v σ F' H', Same (C.Fx F) F' → RtV C.T C.H0 F' H' v (.fre (f s)) → St8 C (ρ s) σ F' H' → Dn.rt v H' from hs) _ σ F H st.fx ⟨l, xs, rfl, e2, e4, h0, e3⟩ (st.le (h s) (hl s))⟩
def asFre : D → R (List D)
  | .fre ds => .ok ds
  | _ => .bad
theorem jel_callL {φ : Deal → Slots} (i : Nat) {l1 l2 : Addr} {n j : Nat} {m : List D → List D → Deal → R (D × Deal)} {x : Str} {dn : Str} {dp : Pos} {es : List Expr} {na : Deal → R (List D × Deal)} (Ca : CalleeL C.T x n [] j m) (hj : j ≤ C.k) (ha : JA C φ es na)
    (hd : ∀ dl, (φ dl)[i]?.join = some (.deal l1 l2 dl.1 dl.2) := by intro _; rfl) (hput : ∀ dl dl' : Deal, (φ dl).set i (some (.deal l1 l2 dl'.1 dl'.2)) = φ dl' := by intro _ _; rfl)
    (hN : C.X.N[i]? = some dn := by rfl) (hs : Vis C.X.env.scope dn := by first | exact Or.inl rfl | exact Or.inr (Or.inl rfl) | exact Or.inr (Or.inr rfl))
    (hdb1 : (dn == ("__debug__" : Str)) = false := by decide) (hcd : (dn == ("__classdict__" : Str)) = false := by decide) (hle : LeAll C (fun s => (φ s).set i none) := by exact le0 rfl)
    (hh : C.hot = false := by rfl) (hg : Gl C.X x := by rfl) (hdb : (x == ("__debug__" : Str)) = false := by decide) (he : starEach (.Name dn dp :: es) C.X.env = (false, eval (.Name dn dp) C.X.env) :: starEach es C.X.env := by rfl)
    (hpl : (backTo pos (starEach es C.X.env)).any (·.1) = false := by rfl) :
    JEL C φ (.Call (.Name x p) (.Name dn dp :: es) [] pos) (fun dl => (na dl).bind fun q => (m q.1 [] q.2).bind fun r => (asFre r.1).bind fun ds => .ok (ds, r.2)) := fun g dl σ F H Q st h => by
  obtain ⟨k, mm, pick, ⟨f, fd, ps, gg, Fo, hm, hk, hb⟩, hp, hlen⟩ := Ca
  refine ⟨_, pe_callPos (fnX g Fo) ((g.room hh).mono hj) hg (by rw [g.mg]; exact hm) (by rw [g.K]; exact hk) (by rw [g.K]; exact hb) (fun σ => passW g σ) (pa_cons (pe_var hN hs hdb1 hcd) pa_wp he) hdb he hpl, ?_⟩
  refine ⟨_, (st.env.dealAt (hd dl)).1, ?_⟩
  refine ha g dl σ F H _ st (h.bind.mono fun ds dl1 h1 vs F1 H1 e1 r1 st1 => ?_)
  have h2 := (show Srv C ((m ds [] dl1).bind fun r => (asFre r.1).bind fun ds => .ok (ds, r.2)) _ from h1).bind
  have l1' : m ds [] dl1 ≠ .bad := fun z => by rw [z] at h2; exact h2
  obtain ⟨ws, as, ew, ra, la, ea⟩ := hp F1 l1 vs [] ds [] r1 .nil (hlen _ _ _ l1').1 rfl
  refine ⟨by rw [List.length_cons, r1.length, (hlen _ _ _ l1').1], rfl, F1, l1, l2, dl1, ws, as, ew, st1.sub, (st1.env.dealAt (hd dl1)).2, ra, la, ?_⟩
  rw [ea]
  cases q : m ds [] dl1 with
  | ok r =>
    obtain ⟨d, dl2⟩ := r
    rw [q] at h2
    intro v F' H' stp sub rv da
    have da1 := (st1.env.dealAt (hd dl1)).2
    have h3 := (show Srv C ((asFre d).bind fun ds => .ok (ds, dl2)) _ from h2).bind1
    cases d with
    | fre zs =>
      obtain ⟨l, xs, rfl, q1, q2, q3, q4⟩ := rv
      have nl : ∀ {a o}, H1 a = some o → a ≠ l := fun {a o} e z => by rw [z, q3] at e; cases e
      have stp2 : Step (onDeal l1 l2) F1 H1 F' (er l H') := ⟨stp.fz, stp.new, fun a o e m => by rw [er_ne (nl e)]; exact stp.keep a o e m, fun a e => by
        by_cases c : a = l
        · rw [c]; exact q3
        · rw [er_ne c] at e; exact stp.dom a e⟩
      have sub2 : Same F' (er l H') := fun a o e => by
        have : a ≠ l := fun z => by rw [z, q2] at e; cases e
        rw [er_ne this]; exact sub a o e
      have z := st1.deal (hd dl1) stp2 sub2 ⟨by rw [er_ne (nl da1.h1)]; exact da.h1, by rw [er_ne (nl da1.h2)]; exact da.h2, da.f1, da.f2, da.ne⟩
      rw [hput] at z
      have y := (show ∀ l xs F' H', Same F F' → H' l = none → Rps C.T F' xs zs → St8 C (φ dl2) σ F' H' → Q (.ref l) (upd H' l (.lst xs)) from h3) l xs F' (er l H') (e1.trans stp.fz) er_same q4 z
      rw [upd_er q1] at y
      exact y
    | _ => exact h3.elim
  | err c d =>
    rw [q] at h2
    exact fun cls dd F' H' stp sub eo => h2 σ cls dd F' H' eo ((st1.noDeal (hd dl1) stp sub).le (hle dl1).1 (hle dl1).2)
  | bad => exact absurd q l1'
/-- x.append(y.pop(e)), x and y lists of one's own -/
theorem jb_appPop (i j : Nat) {f g' : τ → List D} {x y : Str} {e : Expr} {p1 p3 ap ap2 cp cp2 : Pos} {me : τ → R (D × τ)} {k : List D → List D → τ → R (Fl α β × τ)} (he : JE C φ e me) (hk : ∀ xs ys, JB C (fun s => ((φ s).set j (some (.own ys))).set i (some (.own xs))) rest ψ χ ρ (k xs ys)) (hij : i ≠ j)
    (hi : ∀ s, (φ s)[i]?.join = some (.own (f s)) := by intro _; rfl) (hj : ∀ s, (φ s)[j]?.join = some (.own (g' s)) := by intro _; rfl) (hN : C.X.N[i]? = some x := by rfl) (hN2 : C.X.N[j]? = some y := by rfl)
    (hv : Vis C.X.env.scope x := by first | exact Or.inl rfl | exact Or.inr (Or.inl rfl) | exact Or.inr (Or.inr rfl)) (hv2 : Vis C.X.env.scope y := by first | exact Or.inl rfl | exact Or.inr (Or.inl rfl) | exact Or.inr (Or.inr rfl))
    (hd : (x == ("__debug__" : Str)) = false := by decide) (hcd : (x == ("__classdict__" : Str)) = false := by decide) (hd2 : (y == ("__debug__" : Str)) = false := by decide) (hcd2 : (y == ("__classdict__" : Str)) = false := by decide)
    (hs : swapsWith (.Call (.Attribute (.Name x p1) "append" ap) [.Call (.Attribute (.Name y p3) "pop" ap2) [e] [] cp2] [] cp) none pos.line C.X.env = pure false := by rfl)
    (hbase : attributeBase (.Name x p1) "append" C.X.env (eval (.Name x p1) C.X.env) = eval (.Name x p1) C.X.env := by rfl) (hbase2 : attributeBase (.Name y p3) "pop" C.X.env (eval (.Name y p3) C.X.env) = eval (.Name y p3) C.X.env := by rfl)
    (hfew : ((backTo cp (starEach (.Call (.Attribute (.Name y p3) "pop" ap2) [e] [] cp2 :: []) C.X.env)).all (fun x => !x.1) && (backToKw cp (keywordEach [] C.X.env)).all (fun x => x.1.isSome) && decide ((Expr.Call (.Attribute (.Name y p3) "pop" ap2) [e] [] cp2 :: []).length + ([] : List Keyword).length + (if ([] : List Keyword).isEmpty then 0 else 1) < 30)) = true := by rfl)
    (hfew2 : ((backTo cp2 (starEach (e :: []) C.X.env)).all (fun x => !x.1) && (backToKw cp2 (keywordEach [] C.X.env)).all (fun x => x.1.isSome) && decide ((e :: []).length + ([] : List Keyword).length + (if ([] : List Keyword).isEmpty then 0 else 1) < 30)) = true := by rfl)
    (hline : (ap.endLine == cp.line) = true := by rfl) (hline2 : (ap2.endLine == cp2.line) = true := by rfl)
    (hst : starEach (.Call (.Attribute (.Name y p3) "pop" ap2) [e] [] cp2 :: []) C.X.env = (false, eval (.Call (.Attribute (.Name y p3) "pop" ap2) [e] [] cp2) C.X.env) :: starEach [] C.X.env := by rfl) (hst2 : starEach (e :: []) C.X.env = (false, eval e C.X.env) :: starEach [] C.X.env := by rfl)
    (hpl : (backTo cp (starEach [] C.X.env)).any (·.1) = false := by rfl) (hpl2 : (backTo cp2 (starEach [] C.X.env)).any (·.1) = false := by rfl) :
    JB C φ (.Expr (.Call (.Attribute (.Name x p1) "append" ap) [.Call (.Attribute (.Name y p3) "pop" ap2) [e] [] cp2] [] cp) pos :: rest) ψ χ ρ (fun s => (me s).bind fun q => (asInt q.1).bind fun n => (chk (decide (-1000000 ≤ n) && decide (n ≤ 1000000) && decide ((f q.2).length < 1000000)) ()).bind fun _ => (opt (ixN (g' q.2).length n)).bind fun t => (opt (g' q.2)[t]?).bind fun d => k (f q.2 ++ [d]) ((g' q.2).eraseIdx t) q.2) := fun g s σ F H Dn st h => by
  refine ⟨_, pss_cons (ps_expr (pe_bm PySem.F.plainAttrs_list PySem.F.slot_list_append PySem.F.type_list_append mt_append (pe_var hN hv hd hcd) (pa_cons (pe_bm PySem.F.plainAttrs_list PySem.F.slot_list_pop PySem.F.type_list_pop mt_popAt (pe_var hN2 hv2 hd2 hcd2) (pa_cons pe_wp pa_nil hst2) hbase2 hfew2 hline2 hst2 hpl2) pa_nil hst) hbase hfew hline hst hpl) hs) ps_wp, ?_⟩
  obtain ⟨l, xs, e1, e2, _⟩ := st.env.ownAt (hi s)
  refine ⟨.ref l, e1, .inl ⟨rfl, xs, .inl (.inl e2)⟩, ?_⟩
  obtain ⟨l', xs', e1', e2', _⟩ := st.env.ownAt (hj s)
  refine ⟨.ref l', e1', .inl ⟨rfl, xs', .inl (.inl e2')⟩, ?_⟩
  refine he g s σ F H _ st (h.bind.mono fun d s1 h1 v F1 H1 ee r1 st1 => ?_)
  have h2 := h1.bind1
  cases r1 with
  | int n =>
    obtain ⟨c, h3⟩ := (show Srv C ((chk (decide (-1000000 ≤ n) && decide (n ≤ 1000000) && decide ((f s1).length < 1000000)) ()).bind fun _ => _) _ from h2).bind1.chk
    obtain ⟨t, ht, h4⟩ := h3.bind1.opt
    obtain ⟨d, hdt, h5⟩ := h4.bind1.opt
    have c1 := of_decide_eq_true (and2 (and2 c).1).1
    have c2 := of_decide_eq_true (and2 (and2 c).1).2
    have c3 := of_decide_eq_true (and2 c).2
    obtain ⟨m', ys, a1, a2, a3, _⟩ := st1.env.ownAt (hj s1)
    rw [e1'] at a1
    cases a1
    obtain ⟨m2, zs, b1, b2, b3, _⟩ := st1.env.ownAt (hi s1)
    rw [e1] at b1
    cases b1
    rw [← a3.length] at ht
    obtain ⟨z1, z2, _⟩ := ixN_seq ht
    obtain ⟨w, hw, rw'⟩ := a3.get hdt
    refine ⟨l', ys, n, t, w, rfl, rfl, a2, by omega, by omega, z1, hw, ?_⟩
    have st2 := st1.chOwn (hj s1) e1' a2 (a3.eraseIdx t)
    have hi2 : ((φ s1).set j (some (.own ((g' s1).eraseIdx t))))[i]?.join = some (.own (f s1)) := by rw [join_set_ne (Ne.symm hij)]; exact hi s1
    obtain ⟨m3, zs2, d1, d2, d3, _⟩ := st2.env.ownAt hi2
    rw [e1] at d1
    cases d1
    exact ⟨l, zs2, w, rfl, rfl, d2, Nat.lt_of_lt_of_le (by rw [d3.length]; exact c3) (sz_small (Nat.le_refl _)), hk _ _ g s1 _ F1 _ Dn (st2.chOwn hi2 e1 d2 (d3.append (Rps.one rw'))) (h5.mono fun f s2 => FlPost.mono ee)⟩
  | _ => exact h2.elim
/-- x[a], x[b] = e1, e2 -/
theorem jb_setItems2 (i : Nat) {f : τ → List D} {x : Str} {a b : Expr} {es : List Expr} {p1 p2 p3 p4 pt pe : Pos} {kt ke : Nat} {na : τ → R (List D × τ)} {ma mb : τ → R (D × τ)} {k : List D → τ → R (Fl α β × τ)} (hn : JA C φ es na) (ha : JE C φ a ma)
    (hb : ∀ ds, JE C (fun s => (φ s).set i (some (.own ds))) b mb) (hk : ∀ ds, JB C (fun s => (φ s).set i (some (.own ds))) rest ψ χ ρ (k ds)) (hh : C.hot = false := by rfl)
    (hi : ∀ s, (φ s)[i]?.join = some (.own (f s)) := by intro _; rfl) (hlt : ∀ s, i < (φ s).length := by intro _; exact Nat.le_of_ble_eq_true rfl) (hN : C.X.N[i]? = some x := by rfl) (hv : Vis C.X.env.scope x := by first | exact Or.inl rfl | exact Or.inr (Or.inl rfl) | exact Or.inr (Or.inr rfl)) (hd : (x == ("__debug__" : Str)) = false := by decide) (hcd : (x == ("__classdict__" : Str)) = false := by decide)
    (hsub : ∀ v, assign (.Subscript (.Name x p1) a p2) C.X.env v = (do
      let ov ← holding [v] (eval (.Name x p1) C.X.env)
      let iv ← holding [v, ov] (eval a C.X.env)
      standAt p2
      holding [v, ov, iv] (setItem ov iv v)
      release [v, ov, iv] []) := by intro _; rfl)
    (hsub2 : ∀ v, assign (.Subscript (.Name x p3) b p4) C.X.env v = (do
      let ov ← holding [v] (eval (.Name x p3) C.X.env)
      let iv ← holding [v, ov] (eval b C.X.env)
      standAt p4
      holding [v, ov, iv] (setItem ov iv v)
      release [v, ov, iv] []) := by intro _; rfl)
    (hs : swapsWithSole [.Tuple [.Subscript (.Name x p1) a p2, .Subscript (.Name x p3) b p4] kt pt] (.Tuple es ke pe) pos.line C.X.env = pure false := by rfl) (hw : swappedStores [.Tuple [.Subscript (.Name x p1) a p2, .Subscript (.Name x p3) b p4] kt pt] (.Tuple es ke pe) C.X.env = pure none := by rfl)
    (h1 : (assignEach [.Tuple [.Subscript (.Name x p1) a p2, .Subscript (.Name x p3) b p4] kt pt] C.X.env).map (·.2) = [assign (.Tuple [.Subscript (.Name x p1) a p2, .Subscript (.Name x p3) b p4] kt pt) C.X.env] := by rfl)
    (hs1 : (assignEach (.Subscript (.Name x p1) a p2 :: [.Subscript (.Name x p3) b p4]) C.X.env).map (·.2) = assign (.Subscript (.Name x p1) a p2) C.X.env :: (assignEach [.Subscript (.Name x p3) b p4] C.X.env).map (·.2) := by rfl)
    (hs2 : (assignEach (.Subscript (.Name x p3) b p4 :: []) C.X.env).map (·.2) = assign (.Subscript (.Name x p3) b p4) C.X.env :: (assignEach [] C.X.env).map (·.2) := by rfl)
    (hn2 : (assignEach [.Subscript (.Name x p1) a p2, .Subscript (.Name x p3) b p4] C.X.env).length = 2 := by rfl) (hst : (assignEach [.Subscript (.Name x p1) a p2, .Subscript (.Name x p3) b p4] C.X.env).findIdx? (·.1) = none := by rfl) :
    JB C φ (.Assign [.Tuple [.Subscript (.Name x p1) a p2, .Subscript (.Name x p3) b p4] kt pt] (.Tuple es ke pe) pos :: rest) ψ χ ρ (fun s => (na s).bind fun q => (two q.1).bind fun w => (ma q.2).bind fun qa => (asInt qa.1).bind fun m => (opt (ixN (f qa.2).length m)).bind fun t => (mb qa.2).bind fun qb => (asInt qb.1).bind fun n => (opt (ixN (f qa.2).length n)).bind fun u => k (((f qa.2).set t w.1).set u w.2) qb.2) := fun g s σ F H Dn st h => by
  refine ⟨_, pss_cons (ps_asg (pe_tup pa_wp) (pg_tup (g.calm hh) (pgs_cons (pg_sub (pe_var hN hv hd hcd) pe_wp set_list hsub) (pgs_cons (pg_sub (pe_var hN hv hd hcd) pe_wp set_list hsub2) pgs_nil hs2) hs1) hn2 hst) hs hw h1) ps_wp, ?_⟩
  refine hn g s σ F H _ st (h.bind.mono fun ds s1 h1 vs F1 H1 ee r1 st1 => ?_)
  have h2 := h1.bind1
  match ds, r1, h2 with
  | [d, e], .cons (v := v) (vs := [w]) rv (.cons rw' .nil), h2 =>
    refine ⟨sz_small (n := 2) (by decide), fun q hq => ?_⟩
    have gr := grow_new (o := .tup [v, w]) st1.sub hq
    have st2 := st1.new (o := .tup [v, w]) hq
    refine ⟨q, [v, w], rfl, .inl (.inl upd_same), rfl, v, [w], rfl, ?_⟩
    have h3 : Srv C ((ma s1).bind fun qa => (asInt qa.1).bind fun m => (opt (ixN (f qa.2).length m)).bind fun t => (mb qa.2).bind fun qb => (asInt qb.1).bind fun n => (opt (ixN (f qa.2).length n)).bind fun u => k (((f qa.2).set t d).set u e) qb.2) (FlPost C F ψ χ ρ Dn) := h2
    obtain ⟨l, xs, e1, e2, _⟩ := st2.env.ownAt (hi s1)
    refine ⟨.ref l, e1, ?_⟩
    refine ha g s1 σ _ _ _ st2 (h3.bind.mono fun d3 s3 h4 v3 F3 H3 e3 r3 st3 => ?_)
    have h5 := h4.bind1
    cases r3 with
    | int m =>
      obtain ⟨t, ht, h6⟩ := (show Srv C ((opt (ixN (f s3).length m)).bind fun t => (mb s3).bind fun qb => (asInt qb.1).bind fun n => (opt (ixN (f s3).length n)).bind fun u => k (((f s3).set t d).set u e) qb.2) _ from h5).bind1.opt
      obtain ⟨l', ys, b1, b2, b3, _⟩ := st3.env.ownAt (hi s3)
      rw [e1] at b1
      cases b1
      refine ⟨l, ys, m, t, rfl, rfl, b2, by rw [b3.length]; exact ht, w, [], rfl, ?_⟩
      have st4 := st3.chOwn (hi s3) e1 b2 (Rps.set ((rv.mono gr.fz).mono e3) t b3)
      refine ⟨.ref l, e1, ?_⟩
      refine hb _ g s3 σ F3 _ _ st4 (h6.bind.mono fun d5 s5 h7 v5 F5 H5 e5 r5 st5 => ?_)
      have h8 := h7.bind1
      cases r5 with
      | int n =>
        obtain ⟨u, hu, h9⟩ := (show Srv C ((opt (ixN (f s3).length n)).bind fun u => k (((f s3).set t d).set u e) s5) _ from h8).bind1.opt
        have hi5 : ((φ s5).set i (some (.own ((f s3).set t d))))[i]?.join = some (.own ((f s3).set t d)) := join_set_self (hlt s5)
        obtain ⟨l'', zs, c1, c2, c3, _⟩ := st5.env.ownAt hi5
        rw [e1] at c1
        cases c1
        refine ⟨l, zs, n, u, rfl, rfl, c2, by rw [c3.length, List.length_set]; exact hu, rfl, ?_⟩
        have st6 := st5.chOwn hi5 e1 c2 (Rps.set ((((rw'.mono gr.fz).mono e3).mono e5)) u c3)
        rw [List.set_set] at st6
        exact hk _ g s5 σ F5 _ Dn st6 (Srv.mono h9 fun fl s6 => FlPost.mono (((ee.trans gr.fz).trans e3).trans e5))
      | _ => exact h8.elim
    | _ => exact h5.elim
  | [], _, h2 => exact h2.elim
  | [_], _, h2 => exact h2.elim
  | _ :: _ :: _ :: _, _, h2 => exact h2.elim
theorem onlyScr_start {N : List Str} {ns : List Int} : onlyScr (startD N [.scr ns]) := fun i sv h => by
  rw [startD_get] at h
  match i, h with
  | 0, h => exact ⟨ns, (Option.some.inj h).symm⟩
  | i + 1, h => simp at h
theorem kit_cls {K : PySem.W.Frag} {C : Addr} {t : Value} {b : Bool} {cd : ClassData} (h1 : PySem.W.clsIn K C = some cd) (h2 : PySem.W.typeIn K (.ref C) = some (.type "type")) (h3 : PySem.W.subIn K t (.ref C) = some b) : PySem.W.kitCls K t (.ref C) = some b := by
  show (if ((PySem.W.clsIn K C).isSome && PySem.W.typeIn K (.ref C) == some (.type "type")) = true then PySem.W.subIn K t (.ref C) else none) = some b
  rw [if_pos (by rw [h1, h2]; exact beq_self_eq_true (some (Value.type "type")))]
  exact h3
theorem kit_own {K : PySem.W.Frag} {C : Addr} {t : Value} {b : Bool} {cd : ClassData} (h1 : PySem.W.clsIn K C = some cd) (h2 : PySem.W.typeIn K (.ref C) = some (.type "type")) (h3 : PySem.W.subIn K t (.ref C) = some b) (ht : (t == .ref C) = false) : PySem.W.kitOne K t (.ref C) = some b := by
  unfold PySem.W.kitOne
  rw [if_neg (by rw [ht]; exact Bool.false_ne_true)]
  exact kit_cls h1 h2 h3
theorem kit_self {K : PySem.W.Frag} {C : Addr} : PySem.W.kitOne K (.ref C) (.ref C) = some true := by
  unfold PySem.W.kitOne
  rw [if_pos (by exact beq_self_eq_true _)]
theorem kit_sys {K : PySem.W.Frag} {T : String} {C : Addr} {b : Bool} (h3 : PySem.W.subIn K (.ref C) (.type T) = some b) (hm : PySem.W.kitMeta T = true) : PySem.W.kitOne K (.ref C) (.type T) = some b := by
  unfold PySem.W.kitOne PySem.W.kitCls
  rw [show ((Value.ref C == Value.type T) = false) from rfl]
  show (if PySem.W.kitMeta T = true then _ else _) = _
  rw [if_pos hm]
  exact h3
theorem exm_own {K : PySem.W.Frag} {C D : Addr} {b : Bool} {cd : ClassData} (h0 : PySem.W.subIn K (.ref C) (.type "BaseException") = some true) (h1 : PySem.W.clsIn K C = some cd) (h2 : PySem.W.typeIn K (.ref C) = some (.type "type")) (h3 : PySem.W.subIn K (.ref D) (.ref C) = some b) : PySem.W.exmOne K (.ref D) (.ref C) = some b := by
  unfold PySem.W.exmOne
  rw [if_pos (by rw [h0]; exact beq_self_eq_true (some true))]
  exact kit_cls h1 h2 h3
end
end Pv
set_option Elab.async false
set_option linter.all false
set_option maxRecDepth 100000
/-! PvS: sorted(..) of a list or a tuple of pairs of ints. -/
namespace Pv
open PySem PySem.Spec PyProof.Rows L2 SrtO
section
variable {prog : Program} {w : World} {A : Around} {E : Value → Shared → Prop} {s : Shared}
theorem sorted_seqO {it : Addr} {T : String} {o : Obj} {n : Nat} {vs : List Value} {k : Value → Int × Int} {Q : Value → Shared → Prop} (hT : T = "list" ∨ T = "tuple") (ho : s.heap.get? it = some o) (hc : o.cls = .type T) (hd : o.data = .seq vs.toArray n) (hz : vs.length ≤ sizeLine)
    (hp : ∀ v ∈ vs, Srt.IsPair s.heap v (k v).1 (k v).2)
    (h : ∀ (h₁ h' : Heap) (out : List Value), Srtd (fun v u => lexB (k v) (k u)) out → Stb (fun v u => lexB (k v) (k u)) out vs → (∀ b o, s.heap.get? b = some o → h₁.get? b = some o) → (∀ b o, h₁.get? b = some o → h'.get? b = some o) → (∃ n, h'.get? h₁.objs.size = some (seqObj "list" out.toArray n)) → Q (.ref h₁.objs.size) { s with heap := h' }) :
    wpAny (model prog w) A (call (.builtin "sorted") [.ref it]) Q E s := by
  refine Calls.call_function_entry kind_sorted plain_sorted entry_sorted (args_sorted1 _) ?_
  unfold Builtin.«sorted»
  refine wpAny_bind (m := checkCount "sorted" 1 1 _) (wpAny_pure ?_)
  refine wpAny_bind (wpAny_collect_seq it hT ho hc hd (fun h₁ kp => ?_) (by rw [List.size_toArray]; exact hz))
  show wpAny _ _ _ _ _ { s with heap := h₁ }
  refine wpAny_bind (wpAny_newList ?_ hz)
  have hoL : (h₁.push (seqObj "list" vs.toArray 0)).get? h₁.objs.size = some (seqObj "list" vs.toArray 0) := Heap.get?_push_size _ rfl
  have keep1 : ∀ b o, h₁.get? b = some o → b ≠ h₁.objs.size ∧ (h₁.push (seqObj "list" vs.toArray 0)).get? b = some o := fun b o q =>
    ⟨Nat.ne_of_lt (Heap.lt_size q), Heap.get?_push_of_some _ q⟩
  have keep : ∀ b o, s.heap.get? b = some o → b ≠ h₁.objs.size ∧ (h₁.push (seqObj "list" vs.toArray 0)).get? b = some o := fun b o q => keep1 b o (kp b o q)
  show wpAny _ _ _ _ _ { s with heap := h₁.push (seqObj "list" vs.toArray 0) }
  refine wpAny_bind (wpAny_holding (wpAny_call_entry slot_list_sort ⟨_, hoL, rfl⟩ entry_list_sort (list_sort_ord (swo_lex k) hoL hz (fun h2 => ?_) fun out hs hb => ⟨_, rfl, ?_⟩) (args_list_sort _)))
  · refine pairs_sortableO (s := { s with heap := h₁.push (seqObj "list" vs.toArray 0) }) (by omega) (fun v hm => (hp v hm).keeps fun b o e _ => (keep b o e).2) fun o e => ?_
    have e' : some o = some (seqObj "list" vs.toArray 0) := e.symm.trans hoL
    cases e'
    intro c
    exact absurd (Value.type.inj c) (by decide)
  · refine wpAny_pure ⟨_, rfl, h h₁ _ out hs hb kp (fun b o e => ?_) (sortedHeap_at hoL)⟩
    rw [sortedHeap_old (keep1 b o e).1 (Heap.lt_size (keep1 b o e).2)]
    exact (keep1 b o e).2
end
def rSortedQ (K : PySem.W.Frag) : List V → Hp → VK → Prop := fun vs H Q => ∃ (a : Addr) (xs : List V) (k : V → Int × Int), vs = [V.ref a] ∧ (SqL K H a xs ∨ SqT K H a xs) ∧ (∀ x ∈ xs, ∃ t, x = V.ref t ∧ H t = some (.tup [.int (k x).1, .int (k x).2])) ∧
  ∀ ys p, Srtd (ltP k) ys → Stb (ltP k) ys xs → H p = none → Q (.ref p) (upd H p (.lst ys))
theorem cr_sortedQ {X : Cx} : CallR X (.builtin "sorted") (rSortedQ X.K) := by
  intro pins s σ H vs us Q I r h
  obtain ⟨a, xs, k, rfl, hs, hx, q⟩ := h
  obtain ⟨u, rfl, ru⟩ := vals1 r
  obtain rfl : u = Value.ref a := ru
  have main : ∀ {T : String} {o : Obj} {n : Nat} {its : List Value}, T = "list" ∨ T = "tuple" → s.heap.get? a = some o → o.cls = .type T → o.data = .seq its.toArray n → its.length ≤ sizeLine → Vals xs its → wpAny (model X.prog X.w) X.A (call (.builtin "sorted") [.ref a]) (EP X pins σ Q) X.xe s := fun {T o n its} hT ho hc hd hz rv => by
    obtain ⟨e1, e2⟩ := refs_back rv fun x m => by
      obtain ⟨t, e, _⟩ := hx x m
      exact ⟨t, e⟩
    refine sorted_seqO (k := fun u => k (backV u)) hT ho hc hd hz (fun v hv => ?_) fun h₁ h' out h1 h2 kp kp2 hn => ?_
    · obtain ⟨t, rfl⟩ := e2 v hv
      have hm : V.ref t ∈ xs := by rw [e1]; exact List.mem_map.mpr ⟨_, hv, rfl⟩
      obtain ⟨t', e, ht⟩ := hx _ hm
      cases e
      obtain ⟨_, its2, r2, o, ho, hc, n, hd⟩ := I.hok _ _ ht
      obtain ⟨u1, u2, rfl, ri, rj⟩ := vals2 r2
      obtain ⟨t1, rfl⟩ := ri
      obtain ⟨t2, rfl⟩ := rj
      exact ⟨t, o, t1, t2, n, rfl, ho, hc, hd⟩
    · have h3 : ∀ u ∈ out, ∃ a, u = Value.ref a := fun u hu => e2 u (h2.perm.mem_iff.mp hu)
      obtain ⟨n, hn⟩ := hn
      have hb : Stb (ltP k) (out.map backV) xs := by
        rw [e1]
        exact Stb.map (ltP_swo k) backV h2
      have I1 : Inv X pins σ H { s with heap := h₁ } := I.kept (t' := s.toks) kp
      refine ⟨.ref h₁.objs.size, upd H h₁.objs.size (.lst (out.map backV)), I1.laid (t' := s.toks) kp2 (Nat.le_refl _) ⟨?_, out, n, vals_back h3, hn⟩, rfl, q _ _ (srtd_map h1) hb (I1.hok.fresh (Nat.le_refl _))⟩
      rw [hb.len, rv.length]
      exact hz
  rcases hs with hs | hs
  · obtain ⟨its, rv, hl, hz⟩ := I.list hs
    obtain ⟨o, ho, hc, n, hd⟩ := hl.isList
    exact main (.inl rfl) ho hc hd (by rw [← rv.length]; exact hz) rv
  · obtain ⟨its, rv, hl, hz⟩ := I.tuple hs
    obtain ⟨o, ho, hc, n, hd⟩ := hl
    exact main (.inr rfl) ho hc hd (by rw [← rv.length]; exact hz) rv
def asPairs : List D → Option (List (Int × Int))
  | [] => some []
  | .tup [.int i, .int j] :: r => (asPairs r).map ((i, j) :: ·)
  | _ => none
def pairD (p : Int × Int) : D := .tup [.int p.1, .int p.2]
def leP (p q : Int × Int) : Bool := !lexB q p
def bSorted (d : D) : R D := (asItems d).bind fun ds => (opt (asPairs ds)).bind fun ps => .ok (.lst ((ps.mergeSort leP).map pairD))
theorem asPairs_eq : ∀ {ds : List D} {ps : List (Int × Int)}, asPairs ds = some ps → ds = ps.map pairD
  | [], ps, h => by cases h; rfl
  | d :: ds, ps, h => by
    have z : ∃ i j, d = .tup [.int i, .int j] := by
      unfold asPairs at h
      split at h
      · rename_i e; cases e
      · rename_i i j r e; cases e; exact ⟨i, j, rfl⟩
      · cases h
    obtain ⟨i, j, rfl⟩ := z
    obtain ⟨q, e1, e2⟩ := Option.map_eq_some_iff.mp (show (asPairs ds).map ((i, j) :: ·) = some ps from h)
    subst e2
    rw [List.map_cons, ← asPairs_eq e1]
    rfl
/-- what a pair's address holds -/
def kOf (H : Hp) : V → Int × Int
  | .ref t => match H t with
    | some (.tup [.int i, .int j]) => (i, j)
    | _ => (0, 0)
  | _ => (0, 0)
theorem kOf_at {T : Txt} {F H : Hp} (sub : Same F H) {v : V} {p : Int × Int} (r : Rp T F v (pairD p)) : ∃ t, v = .ref t ∧ H t = some (.tup [.int p.1, .int p.2]) ∧ kOf H v = p := by
  cases r with
  | tup h rr =>
    cases rr with
    | cons r1 rr =>
      cases rr with
      | cons r2 rr =>
        cases rr
        cases r1
        cases r2
        refine ⟨_, rfl, sub _ _ h, ?_⟩
        show (match H _ with | some (.tup [.int i, .int j]) => (i, j) | _ => (0, 0)) = p
        rw [sub _ _ h]
theorem kOf_all {T : Txt} {F H : Hp} (sub : Same F H) : ∀ {xs : List V} {ps : List (Int × Int)}, Rps T F xs (ps.map pairD) → xs.map (kOf H) = ps ∧ ∀ x ∈ xs, (∃ t, x = V.ref t ∧ H t = some (.tup [.int (kOf H x).1, .int (kOf H x).2])) ∧ Rp T F x (pairD (kOf H x))
  | [], [], _ => ⟨rfl, fun x hx => by cases hx⟩
  | [], _ :: _, r => by cases r
  | _ :: _, [], r => by cases r
  | x :: xs, p :: ps, r => by
    cases r with
    | cons r1 r2 =>
      obtain ⟨t, e1, e2, e3⟩ := kOf_at sub r1
      obtain ⟨i1, i2⟩ := kOf_all sub r2
      refine ⟨by rw [List.map_cons, e3, i1], fun y hy => ?_⟩
      rcases List.mem_cons.mp hy with z | z
      · rw [z, e3]; exact ⟨⟨t, e1, e2⟩, r1⟩
      · exact i2 y z
theorem lexB_anti {p q : Int × Int} (h1 : lexB q p = false) (h2 : lexB p q = false) : p = q := by
  have a := lexB_no.mp h1
  have b := lexB_no.mp h2
  refine Prod.ext ?_ ?_ <;> omega
theorem rps_map {T : Txt} {F : Hp} {f : V → D} : ∀ {xs : List V}, (∀ x ∈ xs, Rp T F x (f x)) → Rps T F xs (xs.map f)
  | [], _ => .nil
  | x :: xs, h => .cons (h x (List.Mem.head _)) (rps_map fun y hy => h y (List.Mem.tail _ hy))
theorem cd_sorted {C : Ctx} : CallD C (.builtin "sorted") (d1 bSorted) := cald1 fun g F H Q v d sub r h => by
  have h := Srv1.bind h
  cases q : asItems d with
  | bad => rw [q] at h; exact h.elim
  | err c e => exact absurd q asItems_ne
  | ok ds =>
    rw [q] at h
    obtain ⟨ps, e, k⟩ := Srv1.opt (Srv1.bind h)
    have ed := asPairs_eq e
    subst ed
    obtain ⟨a, xs, rfl, hs, rr⟩ := seq_items sub r q
    obtain ⟨i1, i2⟩ := kOf_all sub rr
    refine ⟨_, cr_sortedQ, a, xs, kOf H, rfl, by rw [g.K]; exact hs, fun x hx => (i2 x hx).1, fun ys p h1 h2 hp => giveNew sub k hp fun s e => .lst e ?_⟩
    have e1 : ys.map (kOf H) = ps.mergeSort leP := by
      refine List.Perm.eq_of_pairwise (le := fun p q => lexB q p = false) (fun p q _ _ x y => lexB_anti x y) ?_ ?_ ?_
      · exact List.pairwise_map.mpr (h1.imp fun z => z)
      · have z := List.pairwise_mergeSort (le := leP) (fun a b c x y => ?_) (fun a b => ?_) ps
        · exact z.imp fun {a b} y => by
            unfold leP at y
            simpa using y
        · unfold leP at x y ⊢
          simp only [Bool.not_eq_true'] at x y ⊢
          have x' := lexB_no.mp x
          have y' := lexB_no.mp y
          refine lexB_no.mpr ?_
          omega
        · unfold leP
          rw [Bool.or_eq_true]
          cases q1 : lexB b a with
          | false => exact .inl rfl
          | true =>
            right
            have x' := lexB_iff.mp q1
            have : lexB a b = false := lexB_no.mpr (by omega)
            rw [this]; rfl
      · refine ((h2.perm.map (kOf H)).trans ?_).trans (List.mergeSort_perm _ _).symm
        rw [i1]
    rw [← e1, List.map_map]
    exact (rps_map fun x hx => (i2 x (h2.perm.mem_iff.mp hx)).2).mono s
end Pv
set_option Elab.async false
set_option linter.all false
set_option maxRecDepth 100000
/-! PvB: in a law's own block: a list that stood still changes again; a list goes from name to name. -/
namespace Pv
open PySem L2
/-! ### data in which a list does not stand -/
def tagQ : D → Nat
  | .non => 1
  | .bl _ => 2
  | .int _ => 3
  | .str _ => 4
  | .tup _ => 5
  | .lst _ => 6
  | .dct _ => 7
  | .obj _ _ => 8
  | _ => 0
def apart : List D → List D → Bool
  | [], [] => false
  | x :: xs, y :: ys => (tagQ x != 0 && tagQ y != 0 && tagQ x != tagQ y) || apart xs ys
  | _, _ => true
mutual
def farD (ds : List D) : D → Bool
  | .non => true
  | .bl _ => true
  | .int _ => true
  | .str _ => true
  | .tup xs => farDs ds xs
  | .lst xs => apart ds xs && farDs ds xs
  | .dct [] => true
  | .obj _ fs => farF ds fs
  | _ => false
def farDs (ds : List D) : List D → Bool
  | [] => true
  | x :: xs => farD ds x && farDs ds xs
def farF (ds : List D) : List (Str × D) → Bool
  | [] => true
  | x :: xs => farP ds x && farF ds xs
def farP (ds : List D) : Str × D → Bool
  | (_, d) => farD ds d
end
theorem farDs_all {es : List D} : ∀ {ds : List D}, farDs es ds = true → ∀ d ∈ ds, farD es d = true
  | d :: ds, h, e, he => by
    rw [farDs] at h
    rcases List.mem_cons.mp he with z | z
    · rw [z]; exact (and2 h).1
    · exact farDs_all (and2 h).2 e z
theorem farF_all {es : List D} : ∀ {fs : List (Str × D)}, farF es fs = true → ∀ d ∈ fs.map (·.2), farD es d = true
  | [], _, _, h => by simp at h
  | (x, d) :: fs, h, e, he => by
    rw [farF, farP] at h
    rcases List.mem_cons.mp he with z | z
    · rw [z]; exact (and2 h).1
    · exact farF_all (and2 h).2 e z
theorem tag_eq {T : Txt} {F : Hp} {v : V} {d e : D} (h : Rp T F v d) (h' : Rp T F v e) (n : tagQ d ≠ 0) (n' : tagQ e ≠ 0) : tagQ d = tagQ e := by
  cases h <;> cases h' <;> first
    | rfl
    | exact absurd rfl n
    | exact absurd rfl n'
    | simp_all [tagQ]
theorem apart_no {T : Txt} {F : Hp} : ∀ {xs : List V} {ds es : List D}, Rps T F xs ds → Rps T F xs es → apart ds es = false
  | _, _, _, .nil, .nil => rfl
  | _, _, _, .cons (d := d) h r, .cons (d := e) h' r' => by
    unfold apart
    rw [apart_no r r', Bool.or_false]
    cases q : (tagQ d != 0 && tagQ e != 0 && tagQ d != tagQ e) with
    | false => rfl
    | true =>
      simp only [Bool.and_eq_true, bne_iff_ne, ne_eq] at q
      exact absurd (tag_eq h h' q.1.1 q.1.2) q.2
theorem rp_far {T : Txt} {F F' : Hp} {l : Addr} {ys : List V} {es : List D} (ht : ∀ a o, F a = some o → a ≠ l → F' a = some o) (hl : F l = some (.lst ys)) (rl : Rps T F ys es) : ∀ (d : D) {v : V}, farD es d = true → Rp T F v d → Rp T F' v d
  | .non, _, _, .non => .non
  | .bl _, _, _, .bl _ => .bl _
  | .int _, _, _, .int _ => .int _
  | .str _, _, _, .str _ => .str _
  | .tup ds, _, n, .tup h r => .tup (ht _ _ h (fun z => by rw [z, hl] at h; cases h)) (rps_of r fun v d hd rv => rp_far ht hl rl d (farDs_all (by rw [farD] at n; exact n) d hd) rv)
  | .lst ds, _, n, .lst h r => .lst (ht _ _ h (fun z => by
      rw [z, hl] at h
      cases h
      rw [farD, apart_no rl r] at n
      cases n)) (rps_of r fun v d hd rv => rp_far ht hl rl d (farDs_all (by rw [farD] at n; exact (and2 n).2) d hd) rv)
  | .dct [], _, _, .dct0 h => .dct0 (ht _ _ h (fun z => by rw [z, hl] at h; cases h))
  | .obj c ds, _, n, .obj hc h hm r => .obj hc (ht _ _ h (fun z => by rw [z, hl] at h; cases h)) hm (rps_of r fun v d hd rv => rp_far ht hl rl d (farF_all (by rw [farD] at n; exact n) d hd) rv)
termination_by d => sizeOf d
decreasing_by
  all_goals simp_wf
  · have := List.sizeOf_lt_of_mem hd; omega
  · have := List.sizeOf_lt_of_mem hd; omega
  · have := sizeOf_fld hd; omega
/-- what may be kept where a list changes again -/
def calmS (es : List D) : Option SV → Bool
  | none => true
  | some (.val d) => farD es d
  | some (.deal _ _ _ _) => true
  | some (.own ds) => farDs es ds
  | _ => false
section
variable {C : Ctx} {τ α β : Type} {φ : τ → Slots} {ψ : α → τ → Slots} {χ : β → τ → Slots} {ρ : τ → Slots} {rest : List Stmt} {pos : Pos}
theorem jb_thaw (i : Nat) (P : τ → Slots) (q : τ → Bool) {f : τ → List D} {k : τ → R (Fl α β × τ)} (hq : ∀ s, q s = true → (P s).all (calmS (f s)) = true) (hF : ∀ a o, C.F0 a = some o → ∃ ob xs, o = .frz ob (.lst xs)) (hH : ∀ a o, C.H0 a = some o → ∃ ob xs, o = .frz ob (.lst xs)) (hM : ∀ a, ¬ C.M a)
    (hP : ∀ s, SlotsLe (P s) ((φ s).set i none)) (hl : ∀ s, (P s).length = (φ s).length) (hk : JB C (fun s => (P s).set i (some (.own (f s)))) rest ψ χ ρ k)
    (hi : ∀ s, (φ s)[i]?.join = some (.val (.lst (f s))) := by intro _; rfl) (hloose : C.loose = true := by rfl) :
    JB C φ rest ψ χ ρ (fun s => (chk (q s && farDs (f s) (f s)) ()).bind fun _ => k s) := fun g s σ F H Dn st hs => by
  obtain ⟨hc, hs⟩ := hs.bind1.chk
  obtain ⟨c0, c2⟩ := and2 hc
  have c1 := hq s c0
  obtain ⟨v, hv, hr⟩ := st.env.valAt (hi s)
  cases hr with
  | @lst l xs _ hl1 rr =>
    let F2 : Hp := fun a => if a = l then none else F a
    have f2 : ∀ {a o}, F2 a = some o → a ≠ l ∧ F a = some o := fun {a o} h => by
      by_cases c : a = l
      · rw [show F2 a = none from if_pos c] at h; cases h
      · rw [show F2 a = F a from if_neg c] at h
        exact ⟨c, h⟩
    have s2 : ∀ {a o}, F a = some o → a ≠ l → F2 a = some o := fun {a o} h n => by
      rw [show F2 a = F a from if_neg n]
      exact h
    have new : C.H0 l = none ∧ C.F0 l = none := by
      refine ⟨?_, ?_⟩
      · cases q : C.H0 l with
        | none => rfl
        | some o =>
          obtain ⟨ob, u, rfl⟩ := hH l o q
          have z := st.step.keep l _ q (hM l)
          rw [st.sub _ _ hl1] at z
          cases z
      · cases q : C.F0 l with
        | none => rfl
        | some o =>
          obtain ⟨ob, u, rfl⟩ := hF l o q
          rw [st.step.fz _ _ q] at hl1
          cases hl1
    have ht : ∀ a o, F a = some o → a ≠ l → F2 a = some o := fun a o h hno => s2 h hno
    have lst : ∀ {ds : List D} {vs : List V}, farDs (f s) ds = true → Rps C.T F vs ds → Rps C.T F2 vs ds := fun {ds vs} n r => rps_of r fun v d hd rv => rp_far ht hl1 rr d (farDs_all n d hd) rv
    have st2 : St8 C ((P s).set i (some (.own (f s)))) σ F2 H := by
      refine ⟨⟨fun a o h => s2 (st.step.fz a o h) (fun z => by rw [z, new.2] at h; cases h), fun a o h => st.step.new a o (f2 h).2, st.step.keep, st.step.dom⟩, fun a o h => st.sub a o (f2 h).2, ?_, by rw [List.length_set, hl]; exact st.len⟩
      obtain ⟨A, h1, h2⟩ := id ((st.env.setAny (i := i) (v := (σ[i]?.join))).le (hP s))
      have hlen : i < (P s).length := by
        rw [hl]
        have := hi s
        by_cases c : i < (φ s).length
        · exact c
        · rw [List.getElem?_eq_none (by simpa using c)] at this; cases this
      have eσ : σ.set i (σ[i]?.join) = σ := by
        have : σ[i]?.join = some (.ref l) := by rw [hv]; rfl
        rw [this]
        obtain ⟨hlt, e⟩ := List.getElem?_eq_some_iff.mp hv
        rw [← e, List.set_getElem_self]
      rw [eσ] at h1 
      have ai : A i = [] := by
        have q := h1 i
        cases z : (P s)[i]?.join with
        | none => rw [z] at q; exact q
        | some sv =>
          have := hP s i sv z
          rw [join_set_self (by rw [← hl]; exact hlen)] at this
          cases this
      refine ⟨fun j => if j = i then [l] else A j, fun j => ?_, fun j k a ha hb => ?_⟩
      · by_cases c : j = i
        · subst c
          rw [if_pos rfl, join_set_self hlen]
          exact ⟨l, xs, rfl, by rw [hv]; rfl, st.sub _ _ hl1, lst c2 rr, if_pos rfl, .inl new.1⟩
        · rw [if_neg c, join_set_ne (Ne.symm c)]
          have q := h1 j
          have hcalm : calmS (f s) ((P s)[j]?.join) = true := by
            cases z : (P s)[j]? with
            | none => rfl
            | some sv =>
              obtain ⟨hlt, e⟩ := List.getElem?_eq_some_iff.mp z
              have := List.all_eq_true.mp c1 _ (List.getElem_mem hlt)
              rw [e] at this
              exact this
          cases z : (P s)[j]?.join with
          | none => rw [z] at q; exact q
          | some sv =>
            rw [z] at q hcalm
            cases sv with
            | val d =>
              obtain ⟨q1, x, q2, q3⟩ := q
              exact ⟨q1, x, q2, rp_far ht hl1 rr d hcalm q3⟩
            | own ds =>
              obtain ⟨l', ys, a1, a2, a3, a4, a5, a6⟩ := q
              refine ⟨l', ys, a1, a2, a3, lst hcalm a4, ?_, a6⟩
              show (if l' = l then none else F l') = none
              split
              · rfl
              · exact a5
            | deal l1 l2 cs b =>
              obtain ⟨b1, b2, b3, b4, b5, b6, b7⟩ := q
              refine ⟨b1, b2, b3, b4, ?_, ?_, b7⟩
              · show (if l1 = l then none else F l1) = none
                split
                · rfl
                · exact b5
              · show (if l2 = l then none else F l2) = none
                split
                · rfl
                · exact b6
            | _ => cases hcalm
      · have nl : ∀ j, j ≠ i → l ∉ A j := fun j hj hm => by
          obtain ⟨_, e, _⟩ := (h1 j).own_some l hm
          rw [hl1] at e
          cases e
        by_cases c : j = i
        · by_cases c' : k = i
          · rw [c, c']
          · rw [if_pos c] at ha
            rw [if_neg c'] at hb
            have z : a = l := by simpa using ha
            subst z
            exact absurd hb (nl k c')
        · by_cases c' : k = i
          · rw [if_neg c] at ha
            rw [if_pos c'] at hb
            have z : a = l := by simpa using hb
            subst z
            exact absurd ha (nl j c)
          · rw [if_neg c] at ha
            rw [if_neg c'] at hb
            exact h2 j k a ha hb
  
    refine hk g s σ F2 H Dn st2 (Srv.mono hs fun fl s' z => ?_)
    cases fl with
    | nx a => exact fun σ' F' H' e' st' => z σ' F' H' (by unfold Ctx.Fx at e' ⊢; rw [if_pos hloose] at e' ⊢; exact e') st'
    | bk a => exact fun σ' F' H' e' st' => z σ' F' H' (by unfold Ctx.Fx at e' ⊢; rw [if_pos hloose] at e' ⊢; exact e') st'
    | rt r => exact fun v σ' F' H' e' rv st' => z v σ' F' H' (by unfold Ctx.Fx at e' ⊢; rw [if_pos hloose] at e' ⊢; exact e') rv st'
/-- something of one's own goes from name to name -/
def ownS : SV → Bool
  | .own _ => true
  | .owk _ => true
  | .owt _ => true
  | _ => false
theorem jb_move (i j : Nat) {sv : τ → SV} {x y : Str} {p1 p2 : Pos} {k : τ → R (Fl α β × τ)} (hk : JB C (fun s => ((φ s).set j none).set i (some (sv s))) rest ψ χ ρ k)
    (hj : ∀ s, (φ s)[j]?.join = some (sv s) := by intro _; rfl) (ho : ∀ s, ownS (sv s) = true := by intro _; rfl) (hlen : ∀ s, i < (φ s).length := by intro _; exact Nat.le_of_ble_eq_true rfl)
    (hN : C.X.N[j]? = some y := by rfl) (hv : Vis C.X.env.scope y := by first | exact Or.inl rfl | exact Or.inr (Or.inl rfl) | exact Or.inr (Or.inr rfl)) (hd : (y == ("__debug__" : Str)) = false := by decide) (hcd : (y == ("__classdict__" : Str)) = false := by decide)
    (hi : C.X.N[i]? = some x := by rfl) (hx : Loc C.X.env.scope x := by first | exact Or.inl rfl | exact Or.inr rfl) (hs : swapsWith (.Name y p2) (some (.Name x p1)) pos.line C.X.env = pure false := by rfl)
    (hf : C.X.fn x = true ∨ C.X.env.scope.names.lookup x = some .local := by first | exact .inl rfl | exact .inr rfl) :
    JB C φ (.Assign [.Name x p1] (.Name y p2) pos :: rest) ψ χ ρ k := fun g s σ F H Dn st h => by
  refine ⟨_, pss_cons (ps_set g.nd hi hx (pe_var hN hv hd hcd) hs hf) ps_wp, ?_⟩
  obtain ⟨A, h1, h2⟩ := id st.env
  have qj := h1 j
  rw [hj s] at qj
  obtain ⟨v, hv⟩ : ∃ v, σ[j]?.join = some v := by
    have o := ho s
    cases z : sv s with
    | own ds => rw [z] at qj; obtain ⟨l, xs, _, e, _⟩ := qj; exact ⟨_, e⟩
    | owk ds => rw [z] at qj; obtain ⟨l, xs, _, e, _⟩ := qj; exact ⟨_, e⟩
    | owt ds => rw [z] at qj; obtain ⟨l, xs, _, e, _⟩ := qj; exact ⟨_, e⟩
    | _ => rw [z] at o; cases o
  have hv' : σ[j]? = some (some v) := by
    cases z : σ[j]? with
    | none => rw [z] at hv; cases hv
    | some w => rw [z] at hv; exact congrArg some hv
  refine ⟨v, hv', ?_⟩
  refine hk g s _ F H Dn ⟨st.step, st.sub, ⟨fun n => if n = i then A j else if n = j then [] else A n, fun n => ?_, fun n m a ha hb => ?_⟩, by simp only [List.length_set]; exact st.len⟩ h
  · by_cases c : n = i
    · subst c
      rw [join_set_self (by rw [List.length_set]; exact hlen s), join_set_self (Nat.lt_of_lt_of_le (hlen s) st.len), if_pos rfl]
      rw [hv] at qj
      exact qj
    · rw [join_set_ne (Ne.symm c), join_set_ne (Ne.symm c), if_neg c]
      by_cases c' : n = j
      · subst c'
        rw [if_pos rfl]
        by_cases hlt : n < (φ s).length
        · rw [join_set_self hlt]; rfl
        · rw [List.getElem?_eq_none (by simpa using hlt)]; rfl
      · rw [if_neg c', join_set_ne (Ne.symm c')]
        exact h1 n
  · have key : ∀ {n a}, a ∈ (if n = i then A j else if n = j then [] else A n) → (n = i ∧ a ∈ A j) ∨ (n ≠ i ∧ n ≠ j ∧ a ∈ A n) := fun {n a} z => by
      by_cases c : n = i
      · rw [if_pos c] at z; exact .inl ⟨c, z⟩
      · rw [if_neg c] at z
        by_cases c' : n = j
        · rw [if_pos c'] at z; cases z
        · rw [if_neg c'] at z; exact .inr ⟨c, c', z⟩
    rcases key ha with ⟨e1, q1⟩ | ⟨e1, e1', q1⟩ <;> rcases key hb with ⟨e2, q2⟩ | ⟨e2, e2', q2⟩
    · rw [e1, e2]
    · exact absurd (h2 j m a q1 q2).symm e2'
    · exact absurd (h2 n j a q1 q2) e1'
    · exact h2 n m a q1 q2
end
end Pv
set_option linter.all false
set_option Elab.async false
/-! PvL: plain lemmas on the operations. -/
namespace Pv
open PySem L2
theorem while_pop {t : Unit → Deal → R (Bool × Deal)} {f : Unit → Deal → R (Fl Unit Unit × Deal)} {δ : Type}
    (ht : ∀ a xs i, t a (xs, i) = .ok (decide (xs.getLast? = some 0), (xs, i))) (hf : ∀ a xs i x, xs.getLast? = some x → f a (xs, i) = .ok (.nx (), xs.dropLast, i)) :
    ∀ (n : Nat) (xs : List Int) (i : Int), xs.length < n → ∃ ys, whileL (δ := δ) t f n () (xs, i) = .ok (.nx (), (ys, i)) ∧ ys.length ≤ xs.length
  | 0, _, _, h => absurd h (Nat.not_lt_zero _)
  | n + 1, xs, i, h => by
    unfold whileL
    rw [ht]
    by_cases c : xs.getLast? = some 0
    · obtain ⟨ys, e, l⟩ := while_pop ht hf n xs.dropLast i (by
        have : xs ≠ [] := by rintro rfl; cases c
        have := List.length_pos_iff.mpr this
        rw [List.length_dropLast]; omega)
      refine ⟨ys, ?_, by rw [List.length_dropLast] at l; omega⟩
      simp only [R.bind_ok, c, decide_true, if_true, hf _ _ _ _ c]
      exact e
    · exact ⟨xs, by simp [c], Nat.le_refl _⟩
theorem toPs_int : ∀ xs : List Int, toPs (xs.map .int) = some (xs.map .int)
  | [] => rfl
  | x :: xs => by simp only [List.map_cons, toPs, toP, toPs_int xs]
theorem canLay_ints : ∀ xs : List Int, PyData.canLayAll0 (xs.map .int) = true
  | [] => by simp [PyData.canLayAll0]
  | x :: xs => by simp [PyData.canLayAll0, PyData.canLay0, canLay_ints xs]
theorem depth_ints : ∀ xs : List Int, (PyData.list (xs.map .int)).depth ≤ 64 := by
  intro xs
  induction xs with
  | nil => decide
  | cons x xs ih => 
    simp [PyData.depth, PyData.depthAll] at *
    first | omega | exact ih
theorem ne_nil (xs : List Int) : opNe (.lst (xs.map .int)) (.lst []) = .ok (.bl (decide (xs ≠ []))) := by
  have h1 : SeqAt.shaped (.list (xs.map .int)) = true := by
    unfold SeqAt.shaped
    simp [PyData.canLay0, canLay_ints, depth_ints]
  have h2 : SeqAt.shaped (.list []) = true := by decide
  simp only [opNe, toP, toPs_int, toPs, Option.map_some, h1, h2, Bool.and_self, chk, if_true]
  cases xs with
  | nil => simp [PyData.eqv, PyData.eqvAll]
  | cons x xs => simp [PyData.eqv, PyData.eqvAll]
theorem ix_0 (a : D) (r : List D) : opIx (.lst (a :: r)) (.int 0) = .ok a := by simp [opIx, atI, ixN, opt]
theorem ix_1 (a b : D) (r : List D) : opIx (.lst (a :: b :: r)) (.int 1) = .ok b := by
  show opt (atI (a :: b :: r) 1) = _
  have : ixN (a :: b :: r).length 1 = some 1 := by
    unfold ixN
    rw [if_pos (by decide), if_pos (by simp; omega)]
    rfl
  unfold atI
  rw [this]
  rfl
theorem ix_last (xs : List Int) : opIx (.lst (xs.map .int)) (.int (-1)) = (opt xs.getLast?).bind fun x => .ok (.int x) := by
  simp only [opIx, atI_map]
  have : atI xs (-1) = xs.getLast? := by
    unfold atI ixN
    cases xs with
    | nil => rfl
    | cons x xs =>
      have : -((x :: xs).length : Int) ≤ -1 := by simp; omega
      rw [if_neg (by decide), if_pos this, List.getLast?_eq_getElem?]
      simp only [Option.bind_some]
      congr 1
      simp
      omega
  rw [this]
  cases xs.getLast? <;> rfl
theorem eq_int (i j : Int) : opEq (.int i) (.int j) = .ok (.bl (decide (i = j))) := by
  have h : ∀ i : Int, SeqAt.shaped (.int i) = true := fun i => by simp [SeqAt.shaped, PyData.canLay0, PyData.depth]
  simp only [opEq, toP, h, Bool.and_self, chk, if_true, PyData.eqv]
  rfl
theorem div_int (i j : Int) (h : 0 < j) (h' : j < 1073741824) : opDiv (.int i) (.int j) = .ok (.int (i / j)) := by simp [opDiv, chk, h, h']
theorem mod_int (i j : Int) (h : 0 < j) : opMod (.int i) (.int j) = .ok (.int (i % j)) := by simp [opMod, chk, h]
theorem mul_int (i j : Int) (h : smallI i = true ∨ smallI j = true) : opMul (.int i) (.int j) = .ok (.int (i * j)) := by
  have : (smallI i || smallI j) = true := by rcases h with h | h <;> simp [h]
  simp [opMul, chk, this]
theorem noLst_int (i : Int) : noLst (.int i) = true := by simp [noLst]
@[simp] theorem opt_some {α : Type} (a : α) : opt (some a) = .ok a := rfl
@[simp] theorem asBool_bl (b : Bool) : asBool (.bl b) = .ok b := rfl
@[simp] theorem asInt_int (b : Int) : asInt (.int b) = .ok b := rfl
@[simp] theorem noErr_ok {α : Type} (a : α) : noErr (.ok a) = .ok a := rfl
theorem while_pop_run {α β : Type} {t : Unit → Deal → R (Bool × Deal)} {f : Unit → Deal → R (Fl Unit Unit × Deal)} {k : Unit → Deal → R (Fl α β × Deal)} {P : R (Fl α β × Deal) → Prop} (xs : List Int) (i : Int) (h : xs.length < 1000)
    (ht : ∀ a xs i, t a (xs, i) = .ok (decide (xs.getLast? = some 0), (xs, i))) (hf : ∀ a xs i x, xs.getLast? = some x → f a (xs, i) = .ok (.nx (), xs.dropLast, i)) (hk : ∀ ys : List Int, ys.length ≤ xs.length → P (k () (ys, i))) : P (flb (whileL t f 1000 () (xs, i)) k) := by
  obtain ⟨ys, e, l⟩ := while_pop (δ := β) ht hf 1000 xs i h
  rw [e]
  exact hk ys l
@[simp] theorem bInt_int (i : Int) : bInt (.int i) = .ok (.int i) := rfl
@[simp] theorem d1_one (f : D → R D) (d : D) : d1 f [d] = f d := rfl
@[simp] theorem opAdd_int (i j : Int) : opAdd (.int i) (.int j) = .ok (.int (i + j)) := rfl
@[simp] theorem opNeg_int (i : Int) : opNeg (.int i) = .ok (.int (-i)) := rfl
end Pv
namespace Pv
open PySem L2
theorem ixN_nat (n : Nat) (v : Nat) (h : v < n) : ixN n (v : Int) = some v := by
  unfold ixN
  rw [if_pos (by omega), if_pos (by omega)]
  rfl
theorem ix_nat (xs : List D) (v : Nat) (h : v < xs.length) : opIx (.lst xs) (.int v) = .ok xs[v] := by
  simp [opIx, atI, ixN_nat _ _ h, h]
theorem ix_natT (xs : List D) (v : Nat) (h : v < xs.length) : opIx (.tup xs) (.int v) = .ok xs[v] := by
  simp [opIx, atI, ixN_nat _ _ h, h]
@[simp] theorem asItems_lst (xs : List D) : asItems (.lst xs) = .ok xs := rfl
@[simp] theorem asItems_tup (xs : List D) : asItems (.tup xs) = .ok xs := rfl
@[simp] theorem bLen_lst (xs : List D) : bLen (.lst xs) = .ok (.int xs.length) := rfl
@[simp] theorem bLen_tup (xs : List D) : bLen (.tup xs) = .ok (.int xs.length) := rfl
@[simp] theorem callL_one {α : Type} (f : List D → Deal → R (α × Deal)) (a : D) (dl : Deal) : callL 1 0 [] f [a] [] dl = f [a] dl := rfl
@[simp] theorem unfre_int (i : Int) : unfre (.int i) = .int i := rfl
/-- a list whose items are plain enough to be compared -/
def Cmp (d : D) : Prop := ∃ p, toP d = some p ∧ p.canLay0 = true ∧ p.depth ≤ 60
theorem toPs_cmp : ∀ {xs : List D}, (∀ d ∈ xs, Cmp d) → ∃ ps, toPs xs = some ps ∧ PyData.canLayAll0 ps = true ∧ PyData.depthAll ps ≤ 60 ∧ ps.length = xs.length
  | [], _ => ⟨[], rfl, by simp [PyData.canLayAll0], by simp [PyData.depthAll], rfl⟩
  | x :: xs, h => by
    obtain ⟨p, e1, c1, d1⟩ := h x (List.mem_cons_self ..)
    obtain ⟨ps, e2, c2, d2, l2⟩ := toPs_cmp fun d hd => h d (List.mem_cons_of_mem _ hd)
    refine ⟨p :: ps, by simp [toPs, e1, e2], by simp [PyData.canLayAll0, c1, c2], ?_, by simp [l2]⟩
    simp [PyData.depthAll]
    omega
theorem ne_nilC {xs : List D} (h : ∀ d ∈ xs, Cmp d) : opNe (.lst xs) (.lst []) = .ok (.bl (decide (xs ≠ []))) := by
  obtain ⟨ps, e, c, d, l⟩ := toPs_cmp h
  have h1 : SeqAt.shaped (.list ps) = true := by
    unfold SeqAt.shaped
    simp [PyData.canLay0, c, PyData.depth]
    omega
  have h2 : SeqAt.shaped (.list []) = true := by decide
  simp only [opNe, toP, e, toPs, Option.map_some, h1, h2, Bool.and_self, chk, if_true]
  cases xs with
  | nil => cases ps with
    | nil => simp [PyData.eqv, PyData.eqvAll]
    | cons p ps => simp at l
  | cons x xs => cases ps with
    | nil => simp at l
    | cons p ps => simp [PyData.eqv, PyData.eqvAll]
end Pv
namespace Pv
open PySem L2
theorem while_run {γ τ α β : Type} {t : γ → τ → R (Bool × τ)} {f : γ → τ → R (Fl γ γ × τ)} {k : γ → τ → R (Fl α β × τ)} {P : R (Fl α β × τ) → Prop} (Inv : γ → τ → Prop) (ms : γ → τ → Nat)
    (h : ∀ a s, Inv a s → (t a s = .ok (false, s) ∧ P (k a s)) ∨ (t a s = .ok (true, s) ∧ ∃ a' s', f a s = .ok (.nx a', s') ∧ Inv a' s' ∧ ms a' s' < ms a s)) :
    ∀ (n : Nat) (a : γ) (s : τ), Inv a s → ms a s < n → P (flb (whileL t f n a s) k)
  | 0, _, _, _, hn => absurd hn (Nat.not_lt_zero _)
  | n + 1, a, s, i, hn => by
    unfold whileL
    rcases h a s i with ⟨e, p⟩ | ⟨e, a', s', e', i', l⟩
    · rw [e]; exact p
    · rw [e, R.bind_ok]
      simp only [if_true, e', R.bind_ok]
      exact while_run Inv ms h n a' s' i' (by omega)
end Pv
namespace Pv
theorem perm_pick {α : Type} : ∀ (l : List α) (n : Nat) (h : n < l.length), (l[n] :: l.eraseIdx n).Perm l
  | [], _, h => absurd h (Nat.not_lt_zero _)
  | x :: xs, 0, _ => List.Perm.refl _
  | x :: xs, n + 1, h => by
    have h' : n < xs.length := by simpa using h
    show (xs[n] :: x :: xs.eraseIdx n).Perm (x :: xs)
    exact (List.Perm.swap _ _ _).trans ((perm_pick xs n h').cons x)
end Pv
namespace Pv
open PySem L2
theorem lcL_fm {τ : Type} {f : D → τ → R (Option D × τ)} {g : D → Option D} : ∀ {ds : List D} {s : τ}, (∀ d ∈ ds, ∀ s, f d s = .ok (g d, s)) → lcL f ds s = .ok (ds.filterMap g, s)
  | [], _, _ => rfl
  | d :: ds, s, h => by
    unfold lcL
    rw [h d (List.mem_cons_self ..), R.bind_ok, lcL_fm fun d hd => h d (List.mem_cons_of_mem _ hd)]
    cases e : g d <;> simp [List.filterMap_cons, e]
theorem lcL_map {τ : Type} {f : D → τ → R (Option D × τ)} {g : D → D} {ds : List D} {s : τ} (h : ∀ d ∈ ds, ∀ s, f d s = .ok (some (g d), s)) : lcL f ds s = .ok (ds.map g, s) := by
  rw [lcL_fm (g := fun d => some (g d)) h]
  simp
theorem lcL_inv {τ : Type} {f : D → τ → R (Option D × τ)} {Inv : τ → Prop} {Q : D → Prop} : ∀ {ds : List D} {s : τ}, Inv s → (∀ d ∈ ds, ∀ s, Inv s → ∃ r s', f d s = .ok (some r, s') ∧ Q r ∧ Inv s') → ∃ rs s', lcL f ds s = .ok (rs, s') ∧ rs.length = ds.length ∧ (∀ r ∈ rs, Q r) ∧ Inv s'
  | [], s, i, _ => ⟨[], s, rfl, rfl, fun _ h => by simp at h, i⟩
  | d :: ds, s, i, h => by
    obtain ⟨r, s1, e1, q1, i1⟩ := h d (List.mem_cons_self ..) s i
    obtain ⟨rs, s2, e2, l2, q2, i2⟩ := lcL_inv (ds := ds) i1 fun d hd => h d (List.mem_cons_of_mem _ hd)
    refine ⟨r :: rs, s2, by unfold lcL; rw [e1, R.bind_ok, e2]; rfl, by simp [l2], fun x hx => ?_, i2⟩
    rcases List.mem_cons.mp hx with rfl | hx
    · exact q1
    · exact q2 x hx
theorem forL_inv {α β τ : Type} {f : D → α → τ → R (Fl α α × τ)} (Inv : Nat → α → τ → Prop) : ∀ {ds : List D} {a : α} {s : τ} (n : Nat), Inv n a s → (∀ i (h : i < ds.length) a s, Inv (n + i) a s → ∃ a' s', f ds[i] a s = .ok (.nx a', s') ∧ Inv (n + i + 1) a' s') → ∃ a' s', forL (γ := β) f ds a s = .ok (.nx a', s') ∧ Inv (n + ds.length) a' s'
  | [], a, s, n, i, _ => ⟨a, s, rfl, i⟩
  | d :: ds, a, s, n, i, h => by
    obtain ⟨a1, s1, e1, i1⟩ := h 0 (by simp) a s i
    obtain ⟨a2, s2, e2, i2⟩ := forL_inv (β := β) (f := f) Inv (ds := ds) (n + 1) i1 fun j hj a s ij => by
      obtain ⟨a', s', e, i'⟩ := h (j + 1) (by simp; omega) a s (by rwa [show n + (j + 1) = n + 1 + j by omega])
      refine ⟨a', s', e, by rwa [show n + 1 + j + 1 = n + (j + 1) + 1 by omega]⟩
    refine ⟨a2, s2, ?_, by rw [show n + (d :: ds).length = n + 1 + ds.length by simp; omega]; exact i2⟩
    unfold forL
    rw [show f d a s = _ from e1]
    exact e2
theorem cutL_le {α : Type} (xs : List α) (lo hi : Option Int) : (cutL xs lo hi).length ≤ xs.length := by
  unfold cutL
  rw [List.length_take, List.length_drop]
  omega
@[simp] theorem ar1_one {ω : Type} (z : ω) (f : D → ω) (d : D) : ar1 z f [d] = f d := rfl
@[simp] theorem ar2_two {ω : Type} (z : ω) (f : D → D → ω) (d e : D) : ar2 z f [d, e] = f d e := rfl
@[simp] theorem partName_d (d : D) : partName d = some [d] := rfl
theorem asInts_map : ∀ xs : List Int, asInts (xs.map .int) = some xs
  | [] => rfl
  | x :: xs => by simp [asInts, asInts_map xs]
end Pv
namespace Pv
open PySem L2
theorem forL_run {α β γ τ : Type} {f : D → α → τ → R (Fl α α × τ)} {k : α → τ → R (Fl γ β × τ)} {P : R (Fl γ β × τ) → Prop} (Inv : Nat → α → τ → Prop) {ds : List D} {a : α} {s : τ} (i0 : Inv 0 a s)
    (h : ∀ i (h : i < ds.length) a s, Inv i a s → ∃ a' s', f ds[i] a s = .ok (.nx a', s') ∧ Inv (i + 1) a' s') (hk : ∀ a s, Inv ds.length a s → P (k a s)) : P (flb (forL f ds a s) k) := by
  obtain ⟨a', s', e, i⟩ := forL_inv (β := β) (f := f) Inv 0 i0 (by simpa using h)
  rw [e]
  exact hk a' s' (by simpa using i)
def keepI (p : Int → Bool) : D → Option D
  | .int i => if p i = true then some (.int i) else none
  | _ => none
@[simp] theorem keepI_int (p : Int → Bool) (i : Int) : keepI p (.int i) = if p i = true then some (.int i) else none := rfl
theorem ints_fm (xs : List Int) (p : Int → Bool) : (xs.map D.int).filterMap (keepI p) = (xs.filter p).map D.int := by
  induction xs with
  | nil => rfl
  | cons x xs ih =>
    by_cases c : p x = true
    · simp [c] at ih ⊢; exact ih
    · simp [c] at ih ⊢; exact ih
@[simp] theorem opRev_lst (xs : List D) : opRev (.lst xs) = .ok (.lst xs.reverse) := rfl
@[simp] theorem opGe_int (i j : Int) : opGe (.int i) (.int j) = .ok (.bl (decide (j ≤ i))) := rfl
@[simp] theorem opCut_scr (ns : List Int) (a b : Option Int) : opCut (.scr ns) a b = .ok (.lst ((cutL ns a b).map .int)) := rfl
theorem pow_18 : opPow (.int 10) (.int 18) = .ok (.int 1000000000000000000) := by
  simp [opPow, chk]
end Pv
set_option linter.all false
set_option Elab.async false
/-! PvR: data that can be shown and compared. -/
namespace Pv
open PySem L2
theorem textFrom_le : ∀ (ts : List Str) (k : Nat) (acc : Str) (n : Nat), (∀ t ∈ ts, t.length ≤ n) → (textFrom k acc ts).length ≤ acc.length + ts.length * (n + 2)
  | [], k, acc, n, _ => by show acc.length ≤ _; omega
  | t :: r, k, acc, n, h => by
    have ih := textFrom_le r (k + 1) (acc ++ (if k > 0 then ", " else "" : String) ++ t) n fun t ht => h t (List.mem_cons_of_mem _ ht)
    have e : (acc ++ (if k > 0 then ", " else "" : String) ++ t).length = acc.length + (if k > 0 then 2 else 0) + t.length := by
      rw [strLen_append, strLen_append]
      split <;> rfl
    have ht := h t (List.mem_cons_self ..)
    show (textFrom (k + 1) (acc ++ (if k > 0 then ", " else "" : String) ++ t) r).length ≤ _
    rw [List.length_cons, Nat.add_mul]
    rw [e] at ih
    have : (if k > 0 then 2 else 0) ≤ 2 := by split <;> omega
    omega
theorem listText_le (ts : List Str) (n : Nat) (h : ∀ t ∈ ts, t.length ≤ n) : (listText ts).length ≤ 2 + ts.length * (n + 2) := by
  have := textFrom_le ts 0 "[" n h
  unfold listText
  rw [strLen_append]
  have e1 : ((("[" : String) : Str)).length = 1 := rfl
  have e2 : ((("]" : String) : Str)).length = 1 := rfl
  omega
theorem piled_le : ∀ (ts : List Str) (n : Nat), (∀ t ∈ ts, t.length ≤ n) → piled ts ≤ ts.length * (n + 2)
  | [], _, _ => by simp [piled]
  | t :: r, n, h => by
    rw [piled_cons, List.length_cons, Nat.add_mul]
    have := piled_le r n fun t ht => h t (List.mem_cons_of_mem _ ht)
    have := h t (List.mem_cons_self ..)
    omega
theorem tupleText_le (ts : List Str) (n : Nat) (h : ∀ t ∈ ts, t.length ≤ n) : (tupleText ts).length ≤ 3 + ts.length * (n + 2) := by
  unfold tupleText
  rw [strLen_append, strLen_append]
  have e1 : ((("(" : String) : Str)).length = 1 := rfl
  have e3 : (((if ts.length == 1 then ",)" else ")" : String) : Str)).length ≤ 2 := by split <;> decide
  rw [e1]
  by_cases c : ts = []
  · subst c
    have e0 : ((Str.ofString ", ").join []).length = 0 := rfl
    have e4 : (Str.ofString (if (([] : List Str).length == 1) = true then ",)" else ")")).length = 1 := by decide +kernel
    omega
  · have := join_length_add ts c
    have := piled_le ts n h
    omega
theorem int_text_le {i : Int} (h : i.natAbs < 10 ^ 18) : (Str.ofString (toString i)).length ≤ 19 := by
  have pos : ∀ v : Int, 0 ≤ v → v < 10 ^ 18 → (Str.ofString (toString v)).length ≤ 18 := fun v h0 h1 => PyProof.Rows.toString_length_le h0 (by decide) h1
  by_cases c : i < 0
  · rw [PyProof.Rows.len_text_neg c]
    have := pos (0 - i) (by omega) (by omega)
    omega
  · have := pos i (by omega) (by omega)
    omega
/-- it can be shown in n signs, and compared -/
def Sh (k n : Nat) (d : D) : Prop := ∃ p, toP d = some p ∧ p.showable = true ∧ p.canLay0 = true ∧ p.depth ≤ k ∧ p.shown.length ≤ n
theorem Sh.mono {k n k' n' : Nat} {d : D} (h : Sh k n d) (hk : k ≤ k') (hn : n ≤ n') : Sh k' n' d := by
  obtain ⟨p, h1, h2, h3, h4, h5⟩ := h
  exact ⟨p, h1, h2, h3, Nat.le_trans h4 hk, Nat.le_trans h5 hn⟩
theorem Sh.non {k n : Nat} (hn : 4 ≤ n) : Sh k n .non := ⟨.none, rfl, rfl, rfl, Nat.zero_le _, hn⟩
theorem Sh.bl {k n : Nat} (b : Bool) (hn : 5 ≤ n) : Sh k n (.bl b) := ⟨.bool b, rfl, rfl, rfl, Nat.zero_le _, by cases b; exact hn; exact Nat.le_trans (by decide) hn⟩
theorem Sh.int {k n : Nat} {i : Int} (h : i.natAbs < 10 ^ 18) (hn : 19 ≤ n) : Sh k n (.int i) := by
  refine ⟨.int i, rfl, ?_, rfl, Nat.zero_le _, Nat.le_trans ?_ hn⟩
  · show decide (i.natAbs.log2 < 1920) = true
    rw [decide_eq_true_eq]
    have h64 : i.natAbs < 2 ^ 64 := Nat.lt_of_lt_of_le h (by decide)
    by_cases c : i.natAbs = 0
    · rw [c]; decide
    · exact Nat.lt_of_lt_of_le ((Nat.log2_lt c).mpr h64) (by decide)
  · show (Str.ofString (toString i)).length ≤ 19
    exact int_text_le h
theorem Sh.str {k n : Nat} {s : Str} (h : PyData.strOk s = true) (hn : (reprText s).length ≤ n) : Sh k n (.str s) := ⟨.str s, rfl, rfl, h, Nat.zero_le _, hn⟩
theorem Sh.all {k n : Nat} : ∀ {ds : List D}, (∀ d ∈ ds, Sh k n d) → ∃ ps, toPs ds = some ps ∧ PyData.showableAll ps = true ∧ PyData.canLayAll0 ps = true ∧ PyData.depthAll ps ≤ k ∧ (∀ t ∈ PyData.shownAll ps, t.length ≤ n) ∧ (PyData.shownAll ps).length = ds.length
  | [], _ => ⟨[], rfl, by simp [PyData.showableAll], by simp [PyData.canLayAll0], by simp [PyData.depthAll], by simp [PyData.shownAll], by simp [PyData.shownAll]⟩
  | d :: ds, h => by
    obtain ⟨p, h1, h2, h3, h4, h5⟩ := h d (List.mem_cons_self ..)
    obtain ⟨ps, g1, g2, g3, g4, g5, g6⟩ := Sh.all fun d hd => h d (List.mem_cons_of_mem _ hd)
    refine ⟨p :: ps, by simp [toPs, h1, g1], by simp [PyData.showableAll, h2, g2], by simp [PyData.canLayAll0, h3, g3], by simp [PyData.depthAll]; omega, ?_, by simp [PyData.shownAll, g6]⟩
    intro t ht
    simp only [PyData.shownAll, List.mem_cons] at ht
    rcases ht with rfl | ht
    · exact h5
    · exact g5 t ht
theorem Sh.lst {k n m : Nat} {ds : List D} (h : ∀ d ∈ ds, Sh k n d) (hm : 2 + ds.length * (n + 2) ≤ m) : Sh (k + 1) m (.lst ds) := by
  obtain ⟨ps, g1, g2, g3, g4, g5, g6⟩ := Sh.all h
  refine ⟨.list ps, by simp [toP, g1], by simpa [PyData.showable] using g2, by simpa [PyData.canLay0] using g3, by simp [PyData.depth]; omega, ?_⟩
  have := listText_le _ n g5
  rw [g6] at this
  simpa [PyData.shown] using Nat.le_trans this hm
theorem Sh.tup {k n m : Nat} {ds : List D} (h : ∀ d ∈ ds, Sh k n d) (hm : 3 + ds.length * (n + 2) ≤ m) : Sh (k + 1) m (.tup ds) := by
  obtain ⟨ps, g1, g2, g3, g4, g5, g6⟩ := Sh.all h
  refine ⟨.tuple ps, by simp [toP, g1], by simpa [PyData.showable] using g2, by simpa [PyData.canLay0] using g3, by simp [PyData.depth]; omega, ?_⟩
  have := tupleText_le _ n g5
  rw [g6] at this
  simpa [PyData.shown] using Nat.le_trans this hm
def shw (d : D) : Str := match toP d with
  | some p => p.shown
  | none => ⟨#[]⟩
theorem Sh.repr {k n : Nat} {d : D} (h : Sh k n d) (hk : k ≤ 60) (hn : n ≤ 1000000) : bRepr d = .ok (.str (shw d)) := by
  obtain ⟨p, h1, h2, h3, h4, h5⟩ := h
  have : reprOk p = true := by
    unfold reprOk
    rw [h2, PyData.hasDict_of_canLay p h3]
    simp
    omega
  simp [bRepr, shw, h1, opt, chk, this]
theorem Sh.shw_len {k n : Nat} {d : D} (h : Sh k n d) : (shw d).length ≤ n := by
  obtain ⟨p, h1, h2, h3, h4, h5⟩ := h
  simp [shw, h1, h5]
mutual
theorem eqv_self : ∀ p : PyData, p.canLay0 = true → PyData.eqv p p = true
  | .none, _ => by simp [PyData.eqv]
  | .bool b, _ => by simp [PyData.eqv]
  | .int b, _ => by simp [PyData.eqv]
  | .str b, _ => by simp [PyData.eqv]
  | .list ps, h => by
    rw [PyData.canLay0] at h
    rw [PyData.eqv]; exact eqvs_self ps h
  | .tuple ps, h => by
    rw [PyData.canLay0] at h
    rw [PyData.eqv]; exact eqvs_self ps h
  | .dict _, h => by simp [PyData.canLay0] at h
theorem eqvs_self : ∀ p : List PyData, PyData.canLayAll0 p = true → PyData.eqvAll p p = true
  | [], _ => by simp [PyData.eqvAll]
  | p :: ps, h => by
    simp only [PyData.canLayAll0, Bool.and_eq_true] at h
    simp only [PyData.eqvAll, eqv_self p h.1, eqvs_self ps h.2, Bool.and_self]
end
theorem Sh.cmp {k n : Nat} {d : D} (h : Sh k n d) (hk : k ≤ 60) : Cmp d := by
  obtain ⟨p, h1, h2, h3, h4, h5⟩ := h
  exact ⟨p, h1, h3, Nat.le_trans h4 hk⟩
theorem str_ne (x y : Str) : opNe (.str x) (.str y) = .ok (.bl (!decide (x = y))) := rfl
theorem str_eq (x y : Str) : opEq (.str x) (.str y) = .ok (.bl (decide (x = y))) := rfl
theorem ne_self {d : D} (h : Cmp d) : opNe d d = .ok (.bl false) := by
  obtain ⟨p, h1, h3, h4⟩ := h
  have : SeqAt.shaped p = true := by unfold SeqAt.shaped; simp [h3]; omega
  unfold opNe
  split
  · simp
  · simp only [h1, this, Bool.and_self, chk, if_true, eqv_self p h3, Bool.not_true]
theorem eq_self' {d : D} (h : Cmp d) : opEq d d = .ok (.bl true) := by
  obtain ⟨p, h1, h3, h4⟩ := h
  have : SeqAt.shaped p = true := by unfold SeqAt.shaped; simp [h3]; omega
  unfold opEq
  split
  · simp
  · simp only [h1, this, Bool.and_self, chk, if_true, eqv_self p h3]
/-- two shown things are the same if the things are -/
theorem repr_ne_self {k n : Nat} {d : D} (h : Sh k n d) (hk : k ≤ 60) (hn : n ≤ 1000000) : bRepr d = .ok (.str (shw d)) ∧ opNe (.str (shw d)) (.str (shw d)) = .ok (.bl false) ∧ opEq (.str (shw d)) (.str (shw d)) = .ok (.bl true) := ⟨h.repr hk hn, by simp [str_ne], by simp [str_eq]⟩
end Pv
set_option linter.all false
set_option Elab.async false
/-! PvN: the mirrors in a plain form; loops. -/
namespace Pv
open PySem L2 SrtO
theorem bind_as {α β γ : Type} (r : R α) (f : α → R β) (g : β → R γ) : (r.bind f).bind g = r.bind fun a => (f a).bind g := by cases r <;> rfl
theorem flb_bind {α α' β τ ω : Type} (r : R ω) (f : ω → R (Fl α β × τ)) (k : α → τ → R (Fl α' β × τ)) : flb (r.bind f) k = r.bind fun a => flb (f a) k := by cases r <;> rfl
theorem finish_bind {α β τ ω : Type} (r : R ω) (f : ω → R (Fl α β × τ)) : Pv.finish (r.bind f) = r.bind fun a => Pv.finish (f a) := by cases r <;> rfl
theorem finish1_bind {α β ω : Type} (r : R ω) (f : ω → R (Fl α β × Unit)) : Pv.finish1 (r.bind f) = r.bind fun a => Pv.finish1 (f a) := by cases r <;> rfl
theorem finishI_bind {α β ω : Type} (r : R ω) (f : ω → R (Fl α β × Unit)) (fs : α → List (Str × D)) : Pv.finishI (r.bind f) fs = r.bind fun a => Pv.finishI (f a) fs := by cases r <;> rfl
theorem flb_as {α α' α'' β τ : Type} (r : R (Fl α β × τ)) (f : α → τ → R (Fl α' β × τ)) (k : α' → τ → R (Fl α'' β × τ)) : flb (flb r f) k = flb r fun a s => flb (f a s) k := by
  cases r with
  | ok p => obtain ⟨q, s⟩ := p; cases q <;> rfl
  | _ => rfl
theorem if_tt {α : Type} (a b : α) : (if true = true then a else b) = a := rfl
theorem if_ff {α : Type} (a b : α) : (if false = true then a else b) = b := rfl
theorem not_tt : (!true) = false := rfl
theorem not_ff : (!false) = true := rfl
theorem tl0 : (([] : List D).length ≤ 1000000) = True := eq_true (by decide)
theorem tl1 (a : D) : ([a].length ≤ 1000000) = True := eq_true (by simp)
theorem tl2 (a b : D) : ([a, b].length ≤ 1000000) = True := eq_true (by simp)
theorem tl3 (a b c : D) : ([a, b, c].length ≤ 1000000) = True := eq_true (by simp)
theorem tl4 (a b c d : D) : ([a, b, c, d].length ≤ 1000000) = True := eq_true (by simp)
theorem tl5 (a b c d e : D) : ([a, b, c, d, e].length ≤ 1000000) = True := eq_true (by simp)
theorem tl6 (a b c d e f : D) : ([a, b, c, d, e, f].length ≤ 1000000) = True := eq_true (by simp)
theorem if_T {α : Type} (a b : α) {h : Decidable True} : (@ite α True h a b) = a := if_pos trivial
theorem ixT0 (a : D) (r : List D) : opIx (.tup (a :: r)) (.int 0) = .ok a := ix_natT (a :: r) 0 (by simp)
theorem ixT1 (a b : D) (r : List D) : opIx (.tup (a :: b :: r)) (.int 1) = .ok b := ix_natT (a :: b :: r) 1 (by simp)
theorem ixT2 (a b c : D) (r : List D) : opIx (.tup (a :: b :: c :: r)) (.int 2) = .ok c := ix_natT (a :: b :: c :: r) 2 (by simp)
theorem ixT3 (a b c d : D) (r : List D) : opIx (.tup (a :: b :: c :: d :: r)) (.int 3) = .ok d := ix_natT (a :: b :: c :: d :: r) 3 (by simp)
theorem ixL0 (a : D) (r : List D) : opIx (.lst (a :: r)) (.int 0) = .ok a := ix_nat (a :: r) 0 (by simp)
theorem two_two (a b : D) : two [a, b] = .ok (a, b) := rfl
theorem three_three (a b c : D) : three [a, b, c] = .ok (a, b, c) := rfl
theorem opSub_int (i j : Int) : opSub (.int i) (.int j) = .ok (.int (i - j)) := rfl
theorem opGt_int (i j : Int) : opGt (.int i) (.int j) = .ok (.bl (decide (j < i))) := rfl
theorem opLt_int (i j : Int) : opLt (.int i) (.int j) = .ok (.bl (decide (i < j))) := rfl
theorem opLe_int (i j : Int) : opLe (.int i) (.int j) = .ok (.bl (decide (i ≤ j))) := rfl
theorem bMax2_int (i j : Int) : d2 bMax2 [.int i, .int j] = .ok (.int (if j > i then j else i)) := rfl
theorem bMin2_int (i j : Int) : d2 bMin2 [.int i, .int j] = .ok (.int (if j < i then j else i)) := rfl
theorem ne_int (i j : Int) : opNe (.int i) (.int j) = .ok (.bl (decide (i ≠ j))) := by
  have h : ∀ i : Int, SeqAt.shaped (.int i) = true := fun i => by simp [SeqAt.shaped, PyData.canLay0, PyData.depth]
  simp only [opNe, toP, h, Bool.and_self, chk, if_true, PyData.eqv]
  by_cases c : i = j <;> simp [c]
theorem is_non : opIs .non .non = .ok (.bl true) := rfl
theorem is_int (i : Int) : opIs (.int i) .non = .ok (.bl false) := rfl
theorem isnot_non : opIsNot .non .non = .ok (.bl false) := rfl
theorem isnot_int (i : Int) : opIsNot (.int i) .non = .ok (.bl true) := rfl
theorem bTuple_lst (xs : List D) : bTuple (.lst xs) = .ok (.tup xs) := rfl
theorem bTuple_tup (xs : List D) : bTuple (.tup xs) = .ok (.tup xs) := rfl
theorem bList_lst (xs : List D) : bList (.lst xs) = .ok (.lst xs) := rfl
theorem bList_tup (xs : List D) : bList (.tup xs) = .ok (.lst xs) := rfl
theorem opRev_lst' (xs : List D) : opRev (.lst xs) = .ok (.lst xs.reverse) := rfl
theorem unfre_bl (b : Bool) : unfre (.bl b) = .bl b := rfl
theorem unfre_tup (b : List D) : unfre (.tup b) = .tup b := rfl
theorem unfre_lst (b : List D) : unfre (.lst b) = .lst b := rfl
theorem unfre_fre (b : List D) : unfre (.fre b) = .lst b := rfl
theorem unfre_non : unfre .non = .non := rfl
theorem unfre_str (s : Str) : unfre (.str s) = .str s := rfl
theorem d2_two (f : D → D → R D) (a b : D) : d2 f [a, b] = f a b := rfl
theorem cut_tL (xs : List D) (n : Nat) : opCut (.tup xs) none (some (n : Int)) = .ok (.tup (xs.take n)) := by
  simp only [opCut, cutL, HT.sIx_none, HT.sIx_nat, List.drop_zero, Nat.sub_zero]
  congr 2
  rw [List.take_eq_take_min]
  simp [Nat.min_comm]
theorem cut_dR (xs : List D) (n : Nat) : opCut (.tup xs) (some (n : Int)) none = .ok (.tup (xs.drop n)) := by
  simp only [opCut, cutL, HT.sIx_none, HT.sIx_nat]
  congr 2
  by_cases c : n ≤ xs.length
  · rw [Nat.min_eq_left c, List.take_of_length_le (by simp)]
  · rw [Nat.min_eq_right (by omega)]
    simp [List.drop_eq_nil_of_le (show xs.length ≤ n by omega)]
theorem cut_lastT (xs : List D) : opCut (.tup xs) none (some (-1)) = .ok (.tup xs.dropLast) := by
  simp only [opCut, cutL, HT.sIx_none]
  have : HT.sIx xs.length xs.length (some (-1)) = xs.length - 1 := by
    show (if (-1 : Int) < 0 then ((-1 : Int) + (xs.length : Int)).toNat else min (-1 : Int).toNat xs.length) = _
    rw [if_pos (by decide)]
    omega
  rw [this, List.drop_zero, Nat.sub_zero, List.dropLast_eq_take]
theorem forL_cons {α β τ : Type} {f : D → α → τ → R (Fl α α × τ)} (x : D) (xs : List D) (a : α) (s : τ) : forL (γ := β) f (x :: xs) a s = (f x a s).bind fun p => match p.1 with
    | .nx a' => forL f xs a' p.2
    | .bk a' => .ok (.nx a', p.2)
    | .rt r => .ok (.rt r, p.2) := rfl
theorem forL_append {α β τ : Type} {f : D → α → τ → R (Fl α α × τ)} : ∀ (xs ys : List D) (a : α) (s : τ) {a' : α} {s' : τ}, forL (γ := β) f xs a s = .ok (.nx a', s') → (∀ x ∈ xs, ∀ a s b s', f x a s ≠ .ok (.bk b, s')) → forL (γ := β) f (xs ++ ys) a s = forL f ys a' s'
  | [], ys, a, s, _, _, h, _ => by cases h; rfl
  | x :: xs, ys, a, s, a', s', h, nb => by
    rw [List.cons_append, forL_cons]
    rw [forL_cons] at h
    cases q : f x a s with
    | ok p =>
      obtain ⟨p, s1⟩ := p
      rw [q] at h
      cases p with
      | nx a1 => exact forL_append xs ys a1 s1 h fun x hx => nb x (List.mem_cons_of_mem _ hx)
      | rt d => simp at h
      | bk b => exact absurd q (nb x (List.mem_cons_self ..) a s b s1)
    | err c d => rw [q] at h; cases h
    | bad => rw [q] at h; cases h
/-- items told with their places, from n on -/
def enF {α : Type} (enc : α → D) (n : Nat) (xs : List α) : List D := (xs.zipIdx n).map fun q => .tup [.int (q.2 : Nat), enc q.1]
theorem enD_enF {α : Type} (enc : α → D) (xs : List α) : enD (xs.map enc) = enF enc 0 xs := by
  unfold enD enF
  rw [List.zipIdx_map, List.map_map]
  rfl
theorem enF_cons {α : Type} (enc : α → D) (n : Nat) (x : α) (xs : List α) : enF enc n (x :: xs) = .tup [.int (n : Nat), enc x] :: enF enc (n + 1) xs := by simp [enF]
theorem forL_enfind {α β γ τ : Type} {f : D → γ → τ → R (Fl γ γ × τ)} {enc : α → D} {q : α → Bool} {g : Nat → α → D} {a : γ} {s : τ} : ∀ (xs : List α) (n : Nat),
    (∀ i, ∀ x ∈ xs, f (.tup [.int (i : Nat), enc x]) a s = if q x = true then .ok (.rt (g i x), s) else .ok (.nx a, s)) →
    (∃ i, ∃ h : i < xs.length, xs.findIdx? q = some i ∧ forL (γ := β) f (enF enc n xs) a s = .ok (.rt (g (n + i) xs[i]), s)) ∨ (xs.findIdx? q = none ∧ forL (γ := β) f (enF enc n xs) a s = .ok (.nx a, s))
  | [], n, h => .inr ⟨rfl, rfl⟩
  | x :: xs, n, h => by
    rw [enF_cons]
    unfold forL
    rw [h n x (List.mem_cons_self ..)]
    by_cases c : q x = true
    · refine .inl ⟨0, by simp, by simp [List.findIdx?_cons, c], by simp [c]⟩
    · rw [if_neg c]
      rcases forL_enfind (β := β) xs (n + 1) (fun i y hy => h i y (List.mem_cons_of_mem _ hy)) with ⟨i, hi, e1, e2⟩ | ⟨e1, e2⟩
      · refine .inl ⟨i + 1, by simpa using hi, by simp [List.findIdx?_cons, c, e1], ?_⟩
        show forL f (enF enc (n + 1) xs) a s = _
        rw [e2, show n + (i + 1) = n + 1 + i by omega]
        rfl
      · exact .inr ⟨by simp [List.findIdx?_cons, c, e1], e2⟩
/-- a machine -/
structure Mt where
  k : Nat
  n : Nat
  st : List (List Nat)
def Mt.Ok (m : Mt) : Prop := 0 < m.k ∧ 0 < m.n ∧ m.st.length = m.n ∧ ∀ r ∈ m.st, r.length = m.k ∧ ∀ x ∈ r, x < m.n
def nD (x : Nat) : D := .int (x : Int)
def Mt.given (m : Mt) : D := .lst (m.st.map fun r => .lst (r.map nD))
def Mt.fields (m : Mt) : List (Str × D) := [("commands", nD m.k), ("states", nD m.n), ("steps", .tup (m.st.map fun r => .tup (r.map nD))), ("_found", .dct [])]
def Mt.obj (m : Mt) : D := .obj "Machine" m.fields
theorem Mt.at_commands (m : Mt) : attrD (Str.ofString "Machine") (Str.ofString "commands") m.obj = .ok (nD m.k) := rfl
theorem Mt.at_states (m : Mt) : attrD (Str.ofString "Machine") (Str.ofString "states") m.obj = .ok (nD m.n) := rfl
theorem Mt.at_steps (m : Mt) : attrD (Str.ofString "Machine") (Str.ofString "steps") m.obj = .ok (.tup (m.st.map fun r => .tup (r.map nD))) := rfl
theorem asBools_map {α : Type} (f : α → Bool) : ∀ xs : List α, asBools (xs.map fun x => D.bl (f x)) = some (xs.map f)
  | [] => rfl
  | x :: xs => by simp [asBools, asBools_map f xs]
theorem bAll_map {α : Type} (f : α → Bool) (xs : List α) : bAll (.lst (xs.map fun x => D.bl (f x))) = .ok (.bl (xs.all f)) := by
  simp only [bAll, asBools_map, opt_some, R.bind_ok]
  congr 2
  simp [List.all_map]
theorem bAny_map {α : Type} (f : α → Bool) (xs : List α) : bAny (.lst (xs.map fun x => D.bl (f x))) = .ok (.bl (xs.any f)) := by
  simp only [bAny, asBools_map, opt_some, R.bind_ok]
  congr 2
  simp [List.any_map]
theorem chk_len {α β : Type} (f : α → β) (xs : List α) (n : Nat) (h : xs.length ≤ n) {γ : Type} (c : γ) : chk (decide ((xs.map f).length ≤ n)) c = .ok c := by simp [chk, h]
theorem chk_le {α : Type} (xs : List α) (n : Nat) (h : xs.length ≤ n) {γ : Type} (c : γ) : chk (decide (xs.length ≤ n)) c = .ok c := by simp [chk, h]
theorem chk_lt {α : Type} (xs : List α) (n : Nat) (h : xs.length < n) {γ : Type} (c : γ) : chk (decide (xs.length < n)) c = .ok c := by simp [chk, h]
/-- a comprehension over told things -/
theorem lc_map {α τ : Type} {f : D → τ → R (Option D × τ)} {enc : α → D} {g : α → D} {xs : List α} {s : τ} (h : ∀ x ∈ xs, ∀ s, f (enc x) s = .ok (some (g x), s)) : lcL f (xs.map enc) s = .ok (xs.map g, s) := by
  induction xs generalizing s with
  | nil => rfl
  | cons x xs ih =>
    rw [List.map_cons]
    unfold lcL
    rw [h x (List.mem_cons_self ..), R.bind_ok, ih fun y hy => h y (List.mem_cons_of_mem _ hy)]
    rfl
theorem lc_filter {α τ : Type} {f : D → τ → R (Option D × τ)} {enc : α → D} {q : α → Bool} {g : α → D} {xs : List α} {s : τ} (h : ∀ x ∈ xs, ∀ s, f (enc x) s = .ok (if q x = true then some (g x) else none, s)) : lcL f (xs.map enc) s = .ok ((xs.filter q).map g, s) := by
  induction xs generalizing s with
  | nil => rfl
  | cons x xs ih =>
    rw [List.map_cons]
    unfold lcL
    rw [h x (List.mem_cons_self ..), R.bind_ok, ih fun y hy => h y (List.mem_cons_of_mem _ hy)]
    by_cases c : q x = true <;> simp [c]
theorem rgD_nat (n : Nat) : rgD 0 (n : Int) = (List.range n).map nD := by
  simp [rgD, nD]
theorem forL_run' {α α' β γ τ : Type} {f : D → α → τ → R (Fl α α × τ)} {k : α → τ → R (Fl γ β × τ)} {P : R (Fl γ β × τ) → Prop} {enc : α' → D} (Inv : List α' → α → τ → Prop) {xs : List α'} {a : α} {s : τ} (i0 : Inv [] a s)
    (h : ∀ pre x post a s, xs = pre ++ x :: post → Inv pre a s → ∃ a' s', f (enc x) a s = .ok (.nx a', s') ∧ Inv (pre ++ [x]) a' s') (hk : ∀ a s, Inv xs a s → P (k a s)) : P (flb (forL f (xs.map enc) a s) k) := by
  have key : ∀ (post pre : List α') (a : α) (s : τ), xs = pre ++ post → Inv pre a s → ∃ a' s', forL (γ := β) f (post.map enc) a s = .ok (.nx a', s') ∧ Inv xs a' s' := by
    intro post
    induction post with
    | nil => intro pre a s e i; exact ⟨a, s, rfl, by rw [e, List.append_nil]; exact i⟩
    | cons x post ih =>
      intro pre a s e i
      obtain ⟨a1, s1, e1, i1⟩ := h pre x post a s e i
      obtain ⟨a2, s2, e2, i2⟩ := ih (pre ++ [x]) a1 s1 (by rw [e]; simp) i1
      refine ⟨a2, s2, ?_, i2⟩
      rw [List.map_cons, forL_cons, e1]
      exact e2
  obtain ⟨a', s', e, i⟩ := key xs [] a s rfl i0
  rw [e]
  exact hk a' s' i
theorem enF_run {α α' β γ τ : Type} {f : D → α → τ → R (Fl α α × τ)} {k : α → τ → R (Fl γ β × τ)} {P : R (Fl γ β × τ) → Prop} {enc : α' → D} (Inv : List α' → α → τ → Prop) {xs : List α'} {a : α} {s : τ} (i0 : Inv [] a s)
    (h : ∀ pre x post a s, xs = pre ++ x :: post → Inv pre a s → ∃ a' s', f (.tup [.int (pre.length : Nat), enc x]) a s = .ok (.nx a', s') ∧ Inv (pre ++ [x]) a' s') (hk : ∀ a s, Inv xs a s → P (k a s)) : P (flb (forL f (enF enc 0 xs) a s) k) := by
  have key : ∀ (post pre : List α') (a : α) (s : τ), xs = pre ++ post → Inv pre a s → ∃ a' s', forL (γ := β) f (enF enc pre.length post) a s = .ok (.nx a', s') ∧ Inv xs a' s' := by
    intro post
    induction post with
    | nil => intro pre a s e i; exact ⟨a, s, rfl, by rw [e, List.append_nil]; exact i⟩
    | cons x post ih =>
      intro pre a s e i
      obtain ⟨a1, s1, e1, i1⟩ := h pre x post a s e i
      obtain ⟨a2, s2, e2, i2⟩ := ih (pre ++ [x]) a1 s1 (by rw [e]; simp) i1
      refine ⟨a2, s2, ?_, i2⟩
      rw [enF_cons, forL_cons, e1]
      rw [List.length_append] at e2
      exact e2
  obtain ⟨a', s', e, i⟩ := key xs [] a s rfl i0
  rw [show (0 : Nat) = ([] : List α').length from rfl, e]
  exact hk a' s' i
theorem asPairs_map : ∀ ps : List (Int × Int), asPairs (ps.map pairD) = some ps
  | [] => rfl
  | p :: ps => by simp [asPairs, pairD, asPairs_map ps]
theorem sort_asc {ps hs : List (Int × Int)} (h : hs.Pairwise fun p q => p.1 < q.1) (hp : ps.Perm hs) : ps.mergeSort leP = hs := by
  have tr : ∀ a b c : Int × Int, leP a b = true → leP b c = true → leP a c = true := fun a b c x y => by
    unfold leP at x y ⊢
    simp only [Bool.not_eq_true'] at x y ⊢
    have x' := lexB_no.mp x
    have y' := lexB_no.mp y
    refine lexB_no.mpr ?_
    omega
  have tt : ∀ a b : Int × Int, (leP a b || leP b a) = true := fun a b => by
    unfold leP
    rw [Bool.or_eq_true]
    cases q1 : lexB b a with
    | false => exact .inl rfl
    | true =>
      right
      have x' := lexB_iff.mp q1
      have : lexB a b = false := lexB_no.mpr (by omega)
      rw [this]; rfl
  refine List.Perm.eq_of_pairwise (le := fun p q => leP p q = true) (fun p q _ _ x y => ?_) (List.pairwise_mergeSort tr tt ps) (h.imp fun {a b} x => ?_) ((List.mergeSort_perm _ _).trans hp)
  · unfold leP at x y
    simp only [Bool.not_eq_true'] at x y
    exact lexB_anti x y
  · unfold leP
    have : lexB b a = false := lexB_no.mpr (by omega)
    rw [this]; rfl
theorem sorted_lst {ps hs : List (Int × Int)} (h : hs.Pairwise fun p q => p.1 < q.1) (hp : ps.Perm hs) : bSorted (.lst (ps.map pairD)) = .ok (.lst (hs.map pairD)) := by
  simp only [bSorted, asItems_lst, R.bind_ok, asPairs_map, opt_some, sort_asc h hp]
theorem sorted_tup {ps hs : List (Int × Int)} (h : hs.Pairwise fun p q => p.1 < q.1) (hp : ps.Perm hs) : bSorted (.tup (ps.map pairD)) = .ok (.lst (hs.map pairD)) := by
  simp only [bSorted, asItems_tup, R.bind_ok, asPairs_map, opt_some, sort_asc h hp]
/-- a list or a tuple of things -/
def sqD (b : Bool) (xs : List D) : D := if b = true then .lst xs else .tup xs
@[simp] theorem asItems_sq (b : Bool) (xs : List D) : asItems (sqD b xs) = .ok xs := by cases b <;> rfl
theorem bTuple_sq (b : Bool) (xs : List D) : bTuple (sqD b xs) = .ok (.tup xs) := by cases b <;> rfl
theorem sorted_sq (b : Bool) {ps hs : List (Int × Int)} (h : hs.Pairwise fun p q => p.1 < q.1) (hp : ps.Perm hs) : bSorted (sqD b (ps.map pairD)) = .ok (.lst (hs.map pairD)) := by
  cases b
  · exact sorted_tup h hp
  · exact sorted_lst h hp
theorem forL_find {α β γ τ : Type} {f : D → γ → τ → R (Fl γ γ × τ)} {enc : α → D} (q : α → Bool) (g : α → D) {a : γ} {s : τ} : ∀ (xs : List α),
    (∀ x ∈ xs, f (enc x) a s = if q x = true then .ok (.rt (g x), s) else .ok (.nx a, s)) →
    forL (γ := β) f (xs.map enc) a s = match xs.find? q with | some x => .ok (.rt (g x), s) | none => .ok (.nx a, s)
  | [], _ => rfl
  | x :: xs, h => by
    rw [List.map_cons, forL_cons, h x (List.mem_cons_self ..)]
    by_cases c : q x = true
    · simp [c]
    · rw [if_neg c, List.find?_cons_of_neg c]
      exact forL_find q g xs fun y hy => h y (List.mem_cons_of_mem _ hy)
theorem part2 (a b : D) : partTup 2 (.tup [a, b]) = some [a, b] := rfl
theorem part3 (a b c : D) : partTup 3 (.tup [a, b, c]) = some [a, b, c] := rfl
theorem asFre_fre (xs : List D) : asFre (.fre xs) = .ok xs := rfl
theorem dealOf_ok (dl : Deal) : dealOf (.lst [.lst (dl.1.map .int), .int dl.2]) = .ok dl := by simp [dealOf, asLst, two, asInts_map]
theorem callL_id {α : Type} (n : Nat) (f : List D → Deal → R (α × Deal)) (ds : List D) (dl : Deal) (h : ds.length = n) : callL n 0 [] f ds [] dl = f ds dl := by
  unfold callL argsM
  simp [h]
theorem callM_id {α : Type} (n : Nat) (f : List D → R α) (ds : List D) (h : ds.length = n) : callM n 0 [] f ds [] = f ds := by
  unfold callM argsM
  simp [h]
theorem len_le {α : Type} {xs : List α} {n : Nat} (h : xs.length ≤ n) : (xs.length ≤ n) = True := eq_true h
theorem ne_nilCT {xs : List D} (h : ∀ d ∈ xs, Cmp d) : opNe (.tup xs) (.tup []) = .ok (.bl (decide (xs ≠ []))) := by
  obtain ⟨ps, e, c, d, l⟩ := toPs_cmp h
  have h1 : SeqAt.shaped (.tuple ps) = true := by
    unfold SeqAt.shaped
    simp [PyData.canLay0, c, PyData.depth]
    omega
  have h2 : SeqAt.shaped (.tuple []) = true := by decide
  simp only [opNe, toP, e, toPs, Option.map_some, h1, h2, Bool.and_self, chk, if_true]
  cases xs with
  | nil => cases ps with
    | nil => simp [PyData.eqv, PyData.eqvAll]
    | cons p ps => simp at l
  | cons x xs => cases ps with
    | nil => simp at l
    | cons p ps => simp [PyData.eqv, PyData.eqvAll]
theorem eq_nilCT {xs : List D} (h : ∀ d ∈ xs, Cmp d) : opEq (.tup xs) (.tup []) = .ok (.bl (decide (xs = []))) := by
  obtain ⟨ps, e, c, d, l⟩ := toPs_cmp h
  have h1 : SeqAt.shaped (.tuple ps) = true := by
    unfold SeqAt.shaped
    simp [PyData.canLay0, c, PyData.depth]
    omega
  have h2 : SeqAt.shaped (.tuple []) = true := by decide
  simp only [opEq, toP, e, toPs, Option.map_some, h1, h2, Bool.and_self, chk, if_true]
  cases xs with
  | nil => cases ps with
    | nil => simp [PyData.eqv, PyData.eqvAll]
    | cons p ps => simp at l
  | cons x xs => cases ps with
    | nil => simp at l
    | cons p ps => simp [PyData.eqv, PyData.eqvAll]
theorem Cmp.tup {xs : List D} (h : ∀ d ∈ xs, ∃ p, toP d = some p ∧ p.canLay0 = true ∧ p.depth ≤ 50) : Cmp (.tup xs) := by
  have : ∃ ps, toPs xs = some ps ∧ PyData.canLayAll0 ps = true ∧ PyData.depthAll ps ≤ 50 := by
    induction xs with
    | nil => exact ⟨[], rfl, by simp [PyData.canLayAll0], by simp [PyData.depthAll]⟩
    | cons x xs ih =>
      obtain ⟨p, e1, c1, d1⟩ := h x (List.mem_cons_self ..)
      obtain ⟨ps, e2, c2, d2⟩ := ih fun d hd => h d (List.mem_cons_of_mem _ hd)
      exact ⟨p :: ps, by simp [toPs, e1, e2], by simp [PyData.canLayAll0, c1, c2], by simp [PyData.depthAll]; omega⟩
  obtain ⟨ps, e, c, d⟩ := this
  exact ⟨.tuple ps, by simp [toP, e], by simpa [PyData.canLay0] using c, by simp [PyData.depth]; omega⟩
theorem callM0 {α : Type} (f : List D → R α) : callM 0 0 [] f [] [] = f [] := rfl
theorem callL0 {α : Type} (f : List D → Deal → R (α × Deal)) (dl : Deal) : callL 0 0 [] f [] [] dl = f [] dl := rfl
theorem callM1 {α : Type} (f : List D → R α) (a0 : D) : callM 1 0 [] f [a0] [] = f [a0] := rfl
theorem callL1 {α : Type} (f : List D → Deal → R (α × Deal)) (a0 : D) (dl : Deal) : callL 1 0 [] f [a0] [] dl = f [a0] dl := rfl
theorem callM2 {α : Type} (f : List D → R α) (a0 a1 : D) : callM 2 0 [] f [a0, a1] [] = f [a0, a1] := rfl
theorem callL2 {α : Type} (f : List D → Deal → R (α × Deal)) (a0 a1 : D) (dl : Deal) : callL 2 0 [] f [a0, a1] [] dl = f [a0, a1] dl := rfl
theorem callM3 {α : Type} (f : List D → R α) (a0 a1 a2 : D) : callM 3 0 [] f [a0, a1, a2] [] = f [a0, a1, a2] := rfl
theorem callL3 {α : Type} (f : List D → Deal → R (α × Deal)) (a0 a1 a2 : D) (dl : Deal) : callL 3 0 [] f [a0, a1, a2] [] dl = f [a0, a1, a2] dl := rfl
theorem callM4 {α : Type} (f : List D → R α) (a0 a1 a2 a3 : D) : callM 4 0 [] f [a0, a1, a2, a3] [] = f [a0, a1, a2, a3] := rfl
theorem callL4 {α : Type} (f : List D → Deal → R (α × Deal)) (a0 a1 a2 a3 : D) (dl : Deal) : callL 4 0 [] f [a0, a1, a2, a3] [] dl = f [a0, a1, a2, a3] dl := rfl
theorem callM5 {α : Type} (f : List D → R α) (a0 a1 a2 a3 a4 : D) : callM 5 0 [] f [a0, a1, a2, a3, a4] [] = f [a0, a1, a2, a3, a4] := rfl
theorem callL5 {α : Type} (f : List D → Deal → R (α × Deal)) (a0 a1 a2 a3 a4 : D) (dl : Deal) : callL 5 0 [] f [a0, a1, a2, a3, a4] [] dl = f [a0, a1, a2, a3, a4] dl := rfl
theorem callM6 {α : Type} (f : List D → R α) (a0 a1 a2 a3 a4 a5 : D) : callM 6 0 [] f [a0, a1, a2, a3, a4, a5] [] = f [a0, a1, a2, a3, a4, a5] := rfl
theorem callL6 {α : Type} (f : List D → Deal → R (α × Deal)) (a0 a1 a2 a3 a4 a5 : D) (dl : Deal) : callL 6 0 [] f [a0, a1, a2, a3, a4, a5] [] dl = f [a0, a1, a2, a3, a4, a5] dl := rfl
theorem perm_map {α : Type} {enc : α → D} {l1 l2 : List D} (h : l1.Perm l2) : ∀ {xs : List α}, l2 = xs.map enc → ∃ ps : List α, l1 = ps.map enc ∧ ps.Perm xs := by
  induction h with
  | nil =>
    intro xs e
    exact ⟨[], rfl, by cases xs with | nil => exact .nil | cons x xs => simp at e⟩
  | cons x _ ih =>
    intro xs e
    cases xs with
    | nil => simp at e
    | cons a xs =>
      simp only [List.map_cons, List.cons.injEq] at e
      obtain ⟨ps, e1, e2⟩ := ih e.2
      exact ⟨a :: ps, by simp [e.1, e1], e2.cons a⟩
  | swap x y l =>
    intro xs e
    match xs, e with
    | a :: b :: xs, e =>
      simp only [List.map_cons, List.cons.injEq] at e
      exact ⟨b :: a :: xs, by simp [e.1, e.2.1, e.2.2], .swap ..⟩
  | trans _ _ ih1 ih2 =>
    intro xs e
    obtain ⟨ps, e1, e2⟩ := ih2 e
    obtain ⟨qs, e3, e4⟩ := ih1 e1
    exact ⟨qs, e3, e4.trans e2⟩
theorem ix_lastT (xs : List D) (x : D) : opIx (.tup (xs ++ [x])) (.int (-1)) = .ok x := by
  show opt (atI (xs ++ [x]) (-1)) = _
  have : ixN (xs ++ [x]).length (-1) = some xs.length := by
    unfold ixN
    rw [if_neg (by decide), if_pos (by simp; omega)]
    congr 1
    simp only [List.length_append, List.length_cons, List.length_nil]
    omega
  unfold atI
  rw [this]
  simp
theorem cut_allR (xs : List D) : opCut (.tup xs) (some 1) none = .ok (.tup xs.tail) := by
  have := cut_dR xs 1
  rw [show ((1 : Nat) : Int) = 1 from rfl] at this
  rw [this, List.drop_one]
theorem add_lst (xs ys : List D) (h : xs.length + ys.length ≤ 1000000) : opAdd (.lst xs) (.lst ys) = .ok (.lst (xs ++ ys)) := by simp [opAdd, chk, h]
theorem add_tup (xs ys : List D) (h : xs.length + ys.length ≤ 1000000) : opAdd (.tup xs) (.tup ys) = .ok (.tup (xs ++ ys)) := by simp [opAdd, chk, h]
theorem tl7 (a b c d e f g : D) : ([a, b, c, d, e, f, g].length ≤ 1000000) = True := eq_true (by simp)
end Pv
set_option linter.all false
namespace PySem
namespace SupX
open PySem.W PySem.Calls PyProof.Rows PySem.HandSPX
theorem sup_mk {P : Program} {K : Frag} {mg : Str → Option Value} {x qual : Str} {C fI : Addr} {nm q N bs bm sn sub ab col dd k0 k1 k2 k3 k5}
 {oc : Value} {od : Option Addr} {doc pm : Value} {an : Option Addr} {cda cc : Addr} {ct : Value} {osl : Array (Option Value)} {z : Str} {jj : Nat} {p1 p2 r1 r2 r3 r4 r5 r6 q1 q2 q3 q4 : Pos}
 {ccl cl : Value} {cdd cld : Option Addr} {ccs csl : Array (Option Value)} {vs : Array Value} {file : Str} {tf : Tok}
 (gC : mg x = some (.ref C))
 (cls : K.lookup C = some (excClassObj nm q C N bs bm true sn sub ab col dd k0 k1 k2 k3 k5 "ValueError.__new__")) (cls2 : refsVE bm = true)
 (sa : findIn K (.ref C) "__setattr__" = some (some (.builtin "object.__setattr__")))
 (ga : findIn K (.ref C) "__getattribute__" = some (some (.builtin "BaseException.__getattribute__")))
 (gg : findIn K (.ref C) "__getattr__" = some none)
 (noN : findIn K (.ref C) "at" = some none)
 (iC : findIn K (.ref C) "__init__" = some (some (.ref fI)))
 (tC : typeIn K (.ref fI) = some (.type "function"))
 (kC : keepIn K (.ref C) = true)
 (exC : subIn K (.ref C) (.type "BaseException") = some true)
 (tyC : typeIn K (.ref C) = some (.type "type"))
 (hdC : hasDictIn K C = true)
 (supm : ks_superIn K C C "__init__" = some (some (.builtin "ValueError.__init__")))
 (subS : mroIn K C (.ref C) = some true)
 (subV : subIn K (.ref C) (.type "ValueError") = some true)
 (opq : nsIn K cStatics "thirdparty.any" = some none)
 (noS : mg "super" = none)
 (top : (P.main.scope.names.lookup ("super" : Str)).isSome = false)
 (f1 : K.lookup fI = some ⟨oc, od, .func (ksFn "__init__" qual (iA p1 p2) (iB z jj r1 r2 r3 r4 r5 r6 q1 q2 q3 q4) iS .none .none doc pm an (.ref cda) ct cc), osl⟩) (f2 : codeIn K (.ref cda) qual = true)
 (f3 : K.lookup cda = some ⟨ccl, cdd, .fields vs, ccs⟩) (f4 : vs[2]? = some (.str file tf)) (f5 : ((P.main.file : Str) == file) = true) (f6 : K.lookup cc = some ⟨cl, cld, .cell (some (.ref C)), csl⟩)
 (f7 : ∀ env : Env, ∃ pl : Sem Bool, eval (.Call (.Attribute (.Call (.Name "super" r1) [] [] r2) "__init__" r3) [.Constant (.str z) jj r4] [] r5) env = (do
      let ov ← attributeBase (.Call (.Name "super" r1) [] [] r2) "__init__" env (eval (.Call (.Name "super" r1) [] [] r2) env)
      standAt r3.atName
      let (f, first) ← holding [ov] (getMethod ov "__init__" pl)
      callWith r5 f first (backTo r5 (starEach [.Constant (.str z) jj r4] env)) []))
 : SupTxt P K mg x qual C fI :=
  ⟨gC, ⟨_, _, _, _, _, _, _, _, _, _, _, _, _, _, _, cls, cls2⟩, sa, ga, gg, noN, iC, tC, kC, exC, tyC, hdC, supm, subS, subV, opq, noS, top, ⟨_, _, _, _, _, _, _, _, _, _, _, _, _, _, _, _, _, _, _, _, _, _, _, _, _, _, _, _, _, _, _, _, f1, f2, f3, f4, f5, f6, f7⟩⟩
end SupX
end PySem
set_option Elab.async false
set_option linter.all false
set_option maxRecDepth 100000
set_option maxHeartbeats 4000000
namespace Gk03
open PySem PySem.Spec PyProof.Rows L2 Pv
abbrev top (i : Nat) : Stmt := PySem.Challenge.pw_lateslips_k03_heaps_of_slips.main.body.getD i (.Pass ⟨0, 0, 0, 0⟩)
abbrev s__law_draw : Stmt := top 24
abbrev s__law_any : Stmt := top 25
abbrev s__law_of : Stmt := top 26
abbrev s__law_columns : Stmt := top 28
abbrev s__law_mixed : Stmt := top 27
abbrev s__law_column : Stmt := top 29
abbrev s__law_machine : Stmt := top 30
abbrev s__law_wide : Stmt := top 35
abbrev s_is_sequence : Stmt := top 10
abbrev s_is_integer : Stmt := top 7
abbrev s_is_number : Stmt := top 8
abbrev s_is_index : Stmt := top 9
abbrev s_is_slip : Stmt := top 15
abbrev s_checked_heap : Stmt := top 17
abbrev s_Machine_init : Stmt := inClass (top 12) 0
abbrev s__law_heap : Stmt := top 32
abbrev s_checked_slip : Stmt := top 16
abbrev s_put_in : Stmt := top 19
abbrev s__law_bad_slip : Stmt := top 34
abbrev s_row_of : Stmt := top 18
abbrev s_led : Stmt := top 13
abbrev s_truth : Stmt := top 22
abbrev s__law_asked : Stmt := top 33
abbrev s__law_led : Stmt := top 31
abbrev s_since : Stmt := top 20
abbrev s_until : Stmt := top 21
abbrev s__law_parts_at : Stmt := top 36
abbrev s_law : Stmt := top 37
structure Facts (T : Txt) : Prop where
  d__law_draw : DefAt T "_law_draw" "_law_draw" s__law_draw
  b_abs : T.mg "abs" = none
  b_int : T.mg "int" = none
  d__law_any : DefAt T "_law_any" "_law_any" s__law_any
  d__law_of : DefAt T "_law_of" "_law_of" s__law_of
  b_len : T.mg "len" = none
  d__law_columns : DefAt T "_law_columns" "_law_columns" s__law_columns
  b_range : T.mg "range" = none
  d__law_mixed : DefAt T "_law_mixed" "_law_mixed" s__law_mixed
  b_list : T.mg "list" = none
  d__law_column : DefAt T "_law_column" "_law_column" s__law_column
  b_max : T.mg "max" = none
  b_min : T.mg "min" = none
  d__law_machine : DefAt T "_law_machine" "_law_machine" s__law_machine
  d__law_wide : DefAt T "_law_wide" "_law_wide" s__law_wide
  d_is_sequence : DefAt T "is_sequence" "is_sequence" s_is_sequence
  tc : TyC T ["Machine"]
  b_isinstance : T.mg "isinstance" = none
  b_tuple : T.mg "tuple" = none
  d_is_integer : DefAt T "is_integer" "is_integer" s_is_integer
  b_bool : T.mg "bool" = none
  d_is_number : DefAt T "is_number" "is_number" s_is_number
  d_is_index : DefAt T "is_index" "is_index" s_is_index
  d_is_slip : DefAt T "is_slip" "is_slip" s_is_slip
  at_Machine_commands : ClsC T "Machine" "commands"
  d_checked_heap : DefAt T "checked_heap" "checked_heap" s_checked_heap
  er_InvalidSlip : ErrC T "InvalidSlip"
  b_enumerate : T.mg "enumerate" = none
  b_sorted : T.mg "sorted" = none
  mk_Machine : MkAt T "Machine" "Machine.__init__" s_Machine_init
  er_InvalidMachine : ErrC T "InvalidMachine"
  b_all : T.mg "all" = none
  at_Machine_states : ClsC T "Machine" "states"
  at_Machine_steps : ClsC T "Machine" "steps"
  at_Machine__found : ClsC T "Machine" "_found"
  d__law_heap : DefAt T "_law_heap" "_law_heap" s__law_heap
  d_checked_slip : DefAt T "checked_slip" "checked_slip" s_checked_slip
  d_put_in : DefAt T "put_in" "put_in" s_put_in
  er_Refused : ErrC T "Refused"
  d__law_bad_slip : DefAt T "_law_bad_slip" "_law_bad_slip" s__law_bad_slip
  d_row_of : DefAt T "row_of" "row_of" s_row_of
  d_led : DefAt T "led" "led" s_led
  d_truth : DefAt T "truth" "truth" s_truth
  d__law_asked : DefAt T "_law_asked" "_law_asked" s__law_asked
  ex_Refused : ExcN T "Refused"
  ex_InvalidSlip : ExcN T "InvalidSlip"
  d__law_led : DefAt T "_law_led" "_law_led" s__law_led
  d_since : DefAt T "since" "since" s_since
  d_until : DefAt T "until" "until" s_until
  d__law_parts_at : DefAt T "_law_parts_at" "_law_parts_at" s__law_parts_at
  d_law : DefAt T "law" "law" s_law
  b_repr : T.mg "repr" = none
theorem sc__law_draw : FnScope ["_law_script", "_law_salt", "_law_cell", "_law_cells", "_law_blend"] ["_law_script", "_law_salt"] (defScope s__law_draw) := ⟨rfl, rfl, rfl, by decide +kernel, rfl, by decide +kernel, by decide +kernel⟩
noncomputable def pk__law_draw : {m : D → D → Unit → R (Fl Unit Unit × Unit) // ∀ (T : Txt) (h : Facts T) (f : Addr) (cdv : Value) (A : Around) (outer : List Env) (s : Shared) (H : Hp) (E : XK) (F : Hp) (d0 : D) (d1 : D), JB (bodyCtx T ["_law_script", "_law_salt", "_law_cell", "_law_cells", "_law_blend"] "_law_draw" s__law_draw f cdv A outer s H E 0 F fun _ => False) (fun _ : Unit => [some (.val d0), some (.val d1), none, none, none]) (defBody s__law_draw) (fun (_ : Unit) _ => []) (fun (_ : Unit) _ => []) (fun _ => []) (m d0 d1)} := ⟨fun d0 d1 => _, fun T h f cdv A outer s H E F d0 d1 => (jb_setLc1 3 2 [("_law_cell", 2)] (ji_seq (je_cut (je_var 0 (f := fun _ => d0)) jo_none (jo_some je_int))) (fun _ => jg_name 2) (fun _ v2 => jts_nil) (fun _ v2 => (je_blt (h.b_abs) cd_abs (ja_cons (je_blt (h.b_int) cd_int (ja_cons (je_var 2 (f := fun _ => v2)) ja_nil)) ja_nil))) (fun w1 => (jb_set 4 (je_op od_add je_int (je_op od_mul je_int (je_var 1 (f := fun _ => d1)))) (fun v3 => (jb_freeze 3 (f := fun _ => w1) (jb_for 2 (fun (a4 : D) _ => [some (.val d0), some (.val d1), none, some (.val (.lst w1)), some (.val a4)]) (fun _ => v3) (ji_seq (je_var 3 (f := fun _ => (.lst w1)))) (fun _ => (SlotsLe.cons_same (SlotsLe.cons_same (SlotsLe.cons_none (SlotsLe.cons_same (SlotsLe.cons_same (SlotsLe.nil _))))))) (fun _ => Nat.le_of_ble_eq_true rfl) (fun v5 a4 => (jb_set 4 (je_op od_mod (je_blt (h.b_int) cd_int (ja_cons (je_op od_add (je_op od_add (je_op od_mul (je_var 4 (f := fun _ => a4)) je_int) (je_op od_mod (je_var 2 (f := fun _ => v5)) je_int)) je_int) ja_nil)) je_int) (fun v6 => (jb_nil (fun _ => v6) (fun _ => (SlotsLe.cons_same (SlotsLe.cons_same (SlotsLe.cons_none (SlotsLe.cons_same (SlotsLe.cons_same (SlotsLe.nil _))))))) (fun _ => Nat.le_of_ble_eq_true rfl))))) (fun a4 => (jb_ret (je_lst (ja_cons (je_rev (je_ofL (jel_lc1 2 [("_law_cell", 2)] (ji_seq (je_var 3 (f := fun _ => (.lst w1)))) (fun _ => jg_name 2) (fun _ v7 => (jts_one (jt_cmp od_ge (je_var 2 (f := fun _ => v7)) (je_op od_pow je_int je_int)))) (fun _ v7 => (je_var 2 (f := fun _ => v7)))))) (ja_cons (je_var 4 (f := fun _ => a4)) ja_nil))) (fun _ => SlotsLe.nil _) (fun _ => Nat.le_of_ble_eq_true rfl)))))))))⟩
noncomputable def m__law_draw : List D → R D := fun ds => finish1 ((ar2 .bad fun d0 d1 => pk__law_draw.1 d0 d1 ()) ds)
theorem ok__law_draw {T : Txt} (h : Facts T) (f : Addr) (fd : FuncData) (F : Fun T.K "_law_draw" "_law_draw" s__law_draw f fd) : FnG T.P T.w T.K T.mg T.base (L2.CX T.P T.w) 1 f fd ["_law_script", "_law_salt"] (SpD T 2 m__law_draw) := fn_ok F sc__law_draw (fun cdv A outer s H E G ds hl => match ds, hl with | [d0, d1], _ => pk__law_draw.2 T h f cdv A outer s H E G d0 d1)
theorem ce__law_draw_2 {T : Txt} (h : Facts T) : CalleeD T "_law_draw" 2 [] 1 (callM 2 0 [] m__law_draw) := mk_calleeD (ps := ["_law_script", "_law_salt"]) (pm := []) h.d__law_draw (fun f fd F => ok__law_draw h f fd F) rfl (fun kV doc pmv an cdv ct us ws hl hw => match us, hl, ws, hw with | [_, _], _, [], _ => rfl)
theorem sc__law_any : FnScope ["_law_deal", "_law_bound", "_law_rest"] ["_law_deal", "_law_bound"] (defScope s__law_any) := ⟨rfl, rfl, rfl, by decide +kernel, rfl, by decide +kernel, by decide +kernel⟩
noncomputable def pk__law_any : {m : D → Deal → R (Fl Unit Unit × Deal) // ∀ (T : Txt) (h : Facts T) (f : Addr) (cdv : Value) (A : Around) (outer : List Env) (s : Shared) (H : Hp) (E : XK) (F : Hp) (l1 l2 : Addr) (d1 : D), JB (bodyCtx T ["_law_deal", "_law_bound", "_law_rest"] "_law_any" s__law_any f cdv A outer s H E 0 F (onDeal l1 l2)) (fun dl : Deal => [some (.deal l1 l2 dl.1 dl.2), some (.val d1), none]) (defBody s__law_any) (fun (_ : Unit) dl => [some (.deal l1 l2 dl.1 dl.2)]) (fun (_ : Unit) _ => []) (fun dl => [some (.deal l1 l2 dl.1 dl.2)]) (m d1)} := ⟨fun d1 => _, fun T h f cdv A outer s H E F l1 l2 d1 => (jb_while 1000 (fun (a1 : Unit) dl => [some (.deal l1 l2 dl.1 dl.2), some (.val d1), none]) (fun _ => ()) (fun _ => (SlotsLe.cons_same (SlotsLe.cons_same (SlotsLe.cons_none (SlotsLe.nil _))))) (fun _ => Nat.le_of_ble_eq_true rfl) (fun a1 => (jt_borrow fun dl _ _ => (jt_w (jw_and (jt_cmp od_ne (je_ix (je_var 0 (f := fun _ => (.lst [.lst (dl.1.map .int), .int dl.2]))) je_int) (je_lst ja_nil)) (jw_and1 (jt_cmp od_eq (je_ix (je_ix (je_var 0 (f := fun _ => (.lst [.lst (dl.1.map .int), .int dl.2]))) je_int) (je_neg je_int)) je_int)))))) (fun a1 => (jb_drop (je_dealPop 0) (jb_nil (fun _ => ()) (fun _ => (SlotsLe.cons_same (SlotsLe.cons_same (SlotsLe.cons_none (SlotsLe.nil _))))) (fun _ => Nat.le_of_ble_eq_true rfl)))) (fun a1 => (jb_if (fun (a2 : Unit) dl => [some (.deal l1 l2 dl.1 dl.2), some (.val d1), none]) (jt_borrow fun dl _ _ => (jt_cmp od_ne (je_ix (je_var 0 (f := fun _ => (.lst [.lst (dl.1.map .int), .int dl.2]))) je_int) (je_lst ja_nil))) (jb_set 2 (je_blt (h.b_int) cd_int (ja_cons (je_dealPop 0) ja_nil)) (fun v3 => (jb_drop (je_dealApp 0 (je_op od_div (je_var 2 (f := fun _ => v3)) (je_var 1 (f := fun _ => d1)))) (jb_ret (je_op od_mod (je_var 2 (f := fun _ => v3)) (je_var 1 (f := fun _ => d1))) (fun _ => SlotsLe.cons_same (SlotsLe.nil _)) (fun _ => Nat.le_of_ble_eq_true rfl))))) (jb_nil (fun _ => ()) (fun _ => (SlotsLe.cons_same (SlotsLe.cons_same (SlotsLe.cons_none (SlotsLe.nil _))))) (fun _ => Nat.le_of_ble_eq_true rfl)) (fun a2 => (jb_dealSet 0 (je_borrow fun dl _ _ => (je_op od_mod (je_blt (h.b_int) cd_int (ja_cons (je_op od_add (je_op od_mul (je_ix (je_var 0 (f := fun _ => (.lst [.lst (dl.1.map .int), .int dl.2]))) je_int) je_int) je_int) ja_nil)) je_int)) (jb_ret (je_borrow fun dl _ _ => (je_op od_mod (je_blt (h.b_int) cd_int (ja_cons (je_op od_div (je_ix (je_var 0 (f := fun _ => (.lst [.lst (dl.1.map .int), .int dl.2]))) je_int) je_int) ja_nil)) (je_var 1 (f := fun _ => d1)))) (fun _ => SlotsLe.cons_same (SlotsLe.nil _)) (fun _ => Nat.le_of_ble_eq_true rfl)))))))⟩
noncomputable def m__law_any : List D → Deal → R (D × Deal) := fun ds dl => finish (ar1 (fun _ => .bad) pk__law_any.1 ds dl)
theorem ok__law_any {T : Txt} (h : Facts T) (f : Addr) (fd : FuncData) (F : Fun T.K "_law_any" "_law_any" s__law_any f fd) : FnG T.P T.w T.K T.mg T.base (L2.CX T.P T.w) 1 f fd ["_law_deal", "_law_bound"] (SpL T 1 m__law_any) := fn_okL F sc__law_any (by decide) (fun cdv A outer s H E G l1 l2 ds hl => match ds, hl with | [d1], _ => pk__law_any.2 T h f cdv A outer s H E G l1 l2 d1)
theorem ce__law_any_1 {T : Txt} (h : Facts T) : CalleeL T "_law_any" 1 [] 1 (callL 1 0 [] m__law_any) := mk_calleeL (ps := ["_law_deal", "_law_bound"]) (pm := []) h.d__law_any (fun f fd F => ok__law_any h f fd F) rfl (fun kV doc pmv an cdv ct us ws hl hw => match us, hl, ws, hw with | [_, _], _, [], _ => rfl)
theorem sc__law_of : FnScope ["_law_deal", "_law_some"] ["_law_deal", "_law_some"] (defScope s__law_of) := ⟨rfl, rfl, rfl, by decide +kernel, rfl, by decide +kernel, by decide +kernel⟩
noncomputable def pk__law_of : {m : D → Deal → R (Fl Unit Unit × Deal) // ∀ (T : Txt) (h : Facts T) (f : Addr) (cdv : Value) (A : Around) (outer : List Env) (s : Shared) (H : Hp) (E : XK) (F : Hp) (l1 l2 : Addr) (d1 : D), JB (bodyCtx T ["_law_deal", "_law_some"] "_law_of" s__law_of f cdv A outer s H E 1 F (onDeal l1 l2)) (fun dl : Deal => [some (.deal l1 l2 dl.1 dl.2), some (.val d1)]) (defBody s__law_of) (fun (_ : Unit) dl => [some (.deal l1 l2 dl.1 dl.2)]) (fun (_ : Unit) _ => []) (fun dl => [some (.deal l1 l2 dl.1 dl.2)]) (m d1)} := ⟨fun d1 => _, fun T h f cdv A outer s H E F l1 l2 d1 => (jb_ret (je_ix (je_var 1 (f := fun _ => d1)) (je_callL 0 (ce__law_any_1 h) (Nat.le_of_ble_eq_true rfl) (ja_cons (je_blt (h.b_len) cd_len (ja_cons (je_var 1 (f := fun _ => d1)) ja_nil)) ja_nil))) (fun _ => SlotsLe.cons_same (SlotsLe.nil _)) (fun _ => Nat.le_of_ble_eq_true rfl))⟩
noncomputable def m__law_of : List D → Deal → R (D × Deal) := fun ds dl => finish (ar1 (fun _ => .bad) pk__law_of.1 ds dl)
theorem ok__law_of {T : Txt} (h : Facts T) (f : Addr) (fd : FuncData) (F : Fun T.K "_law_of" "_law_of" s__law_of f fd) : FnG T.P T.w T.K T.mg T.base (L2.CX T.P T.w) 2 f fd ["_law_deal", "_law_some"] (SpL T 1 m__law_of) := fn_okL F sc__law_of (by decide) (fun cdv A outer s H E G l1 l2 ds hl => match ds, hl with | [d1], _ => pk__law_of.2 T h f cdv A outer s H E G l1 l2 d1)
theorem ce__law_of_1 {T : Txt} (h : Facts T) : CalleeL T "_law_of" 1 [] 2 (callL 1 0 [] m__law_of) := mk_calleeL (ps := ["_law_deal", "_law_some"]) (pm := []) h.d__law_of (fun f fd F => ok__law_of h f fd F) rfl (fun kV doc pmv an cdv ct us ws hl hw => match us, hl, ws, hw with | [_, _], _, [], _ => rfl)
theorem sc__law_columns : FnScope ["_law_columns_here", "_law_column_here", "_law_state"] ["_law_columns_here"] (defScope s__law_columns) := ⟨rfl, rfl, rfl, by decide +kernel, rfl, by decide +kernel, by decide +kernel⟩
noncomputable def pk__law_columns : {m : D → Unit → R (Fl Unit Unit × Unit) // ∀ (T : Txt) (h : Facts T) (f : Addr) (cdv : Value) (A : Around) (outer : List Env) (s : Shared) (H : Hp) (E : XK) (F : Hp) (d0 : D), JB (bodyCtx T ["_law_columns_here", "_law_column_here", "_law_state"] "_law_columns" s__law_columns f cdv A outer s H E 0 F fun _ => False) (fun _ : Unit => [some (.val d0), none, none]) (defBody s__law_columns) (fun (_ : Unit) _ => []) (fun (_ : Unit) _ => []) (fun _ => []) (m d0)} := ⟨fun d0 => _, fun T h f cdv A outer s H E F d0 => (jb_ret (je_ofL (jel_lc1 2 [("_law_state", 2)] (ji_range1 (h.b_range) (je_blt (h.b_len) cd_len (ja_cons (je_ix (je_var 0 (f := fun _ => d0)) je_int) ja_nil))) (fun _ => jg_name 2) (fun _ v1 => jts_nil) (fun _ v1 => (je_ofL (jel_lc1 1 [("_law_column_here", 1)] (ji_seq (je_var 0 (f := fun _ => d0))) (fun _ => jg_name 1) (fun _ v2 => jts_nil) (fun _ v2 => (je_ix (je_var 1 (f := fun _ => v2)) (je_var 2 (f := fun _ => v1))))))))) (fun _ => SlotsLe.nil _) (fun _ => Nat.le_of_ble_eq_true rfl))⟩
noncomputable def m__law_columns : List D → R D := fun ds => finish1 ((ar1 .bad fun d0 => pk__law_columns.1 d0 ()) ds)
theorem ok__law_columns {T : Txt} (h : Facts T) (f : Addr) (fd : FuncData) (F : Fun T.K "_law_columns" "_law_columns" s__law_columns f fd) : FnG T.P T.w T.K T.mg T.base (L2.CX T.P T.w) 1 f fd ["_law_columns_here"] (SpD T 1 m__law_columns) := fn_ok F sc__law_columns (fun cdv A outer s H E G ds hl => match ds, hl with | [d0], _ => pk__law_columns.2 T h f cdv A outer s H E G d0)
theorem ce__law_columns_1 {T : Txt} (h : Facts T) : CalleeD T "_law_columns" 1 [] 1 (callM 1 0 [] m__law_columns) := mk_calleeD (ps := ["_law_columns_here"]) (pm := []) h.d__law_columns (fun f fd F => ok__law_columns h f fd F) rfl (fun kV doc pmv an cdv ct us ws hl hw => match us, hl, ws, hw with | [_], _, [], _ => rfl)
theorem sc__law_mixed : FnScope ["_law_deal", "_law_some", "_law_left", "_law_found"] ["_law_deal", "_law_some"] (defScope s__law_mixed) := ⟨rfl, rfl, rfl, by decide +kernel, rfl, by decide +kernel, by decide +kernel⟩
noncomputable def pk__law_mixed : {m : D → Deal → R (Fl Unit Unit × Deal) // ∀ (T : Txt) (h : Facts T) (f : Addr) (cdv : Value) (A : Around) (outer : List Env) (s : Shared) (H : Hp) (E : XK) (F : Hp) (l1 l2 : Addr) (d1 : D), JB (bodyCtx T ["_law_deal", "_law_some", "_law_left", "_law_found"] "_law_mixed" s__law_mixed f cdv A outer s H E 1 F (onDeal l1 l2)) (fun dl : Deal => [some (.deal l1 l2 dl.1 dl.2), some (.val d1), none, none]) (defBody s__law_mixed) (fun (_ : Unit) dl => [some (.deal l1 l2 dl.1 dl.2)]) (fun (_ : Unit) _ => []) (fun dl => [some (.deal l1 l2 dl.1 dl.2)]) (m d1)} := ⟨fun d1 => _, fun T h f cdv A outer s H E F l1 l2 d1 => (jb_par2ll 2 3 (jel_list (h.b_list) (je_var 1 (f := fun _ => d1))) (fun w1 => (jb_while 1000 (fun (a2 : List D × List D) dl => [some (.deal l1 l2 dl.1 dl.2), some (.val d1), some (.own a2.1), some (.own a2.2)]) (fun _ => (w1, [])) (fun _ => (SlotsLe.cons_same (SlotsLe.cons_same (SlotsLe.cons_same (SlotsLe.cons_same (SlotsLe.nil _)))))) (fun _ => Nat.le_of_ble_eq_true rfl) (fun a2 => (jt_borrow fun dl _ _ => (jt_cmp od_ne (je_var 2 (f := fun _ => (.lst a2.1))) (je_lst ja_nil)))) (fun a2 => (jb_appPop 3 2 (f := fun _ => a2.2) (g' := fun _ => a2.1) (je_callL 0 (ce__law_any_1 h) (Nat.le_of_ble_eq_true rfl) (ja_cons (je_borrow fun dl _ _ => (je_blt (h.b_len) cd_len (ja_cons (je_var 2 (f := fun _ => (.lst a2.1))) ja_nil))) ja_nil)) (fun w3 w4 => (jb_nil (fun _ => (w4, w3)) (fun _ => (SlotsLe.cons_same (SlotsLe.cons_same (SlotsLe.cons_same (SlotsLe.cons_same (SlotsLe.nil _)))))) (fun _ => Nat.le_of_ble_eq_true rfl))) (by decide))) (fun a2 => (jb_retOwn 3 (f := fun _ => a2.2) (fun _ _ z => ⟨0, l1, l2, _, _, by decide, rfl, z⟩) (fun _ => SlotsLe.cons_same (SlotsLe.nil _)) (fun _ => Nat.le_of_ble_eq_true rfl))))))⟩
noncomputable def m__law_mixed : List D → Deal → R (D × Deal) := fun ds dl => finish (ar1 (fun _ => .bad) pk__law_mixed.1 ds dl)
theorem ok__law_mixed {T : Txt} (h : Facts T) (f : Addr) (fd : FuncData) (F : Fun T.K "_law_mixed" "_law_mixed" s__law_mixed f fd) : FnG T.P T.w T.K T.mg T.base (L2.CX T.P T.w) 2 f fd ["_law_deal", "_law_some"] (SpL T 1 m__law_mixed) := fn_okL F sc__law_mixed (by decide) (fun cdv A outer s H E G l1 l2 ds hl => match ds, hl with | [d1], _ => pk__law_mixed.2 T h f cdv A outer s H E G l1 l2 d1)
theorem ce__law_mixed_1 {T : Txt} (h : Facts T) : CalleeL T "_law_mixed" 1 [] 2 (callL 1 0 [] m__law_mixed) := mk_calleeL (ps := ["_law_deal", "_law_some"]) (pm := []) h.d__law_mixed (fun f fd F => ok__law_mixed h f fd F) rfl (fun kV doc pmv an cdv ct us ws hl hw => match us, hl, ws, hw with | [_, _], _, [], _ => rfl)
theorem sc__law_column : FnScope ["_law_deal", "_law_form", "_law_many", "_law_to", "_law_state", "_law_half"] ["_law_deal", "_law_form", "_law_many"] (defScope s__law_column) := ⟨rfl, rfl, rfl, by decide +kernel, rfl, by decide +kernel, by decide +kernel⟩
noncomputable def pk__law_column : {m : D → D → Deal → R (Fl Unit Unit × Deal) // ∀ (T : Txt) (h : Facts T) (f : Addr) (cdv : Value) (A : Around) (outer : List Env) (s : Shared) (H : Hp) (E : XK) (F : Hp) (l1 l2 : Addr) (d1 : D) (d2 : D), JB (bodyCtx T ["_law_deal", "_law_form", "_law_many", "_law_to", "_law_state", "_law_half"] "_law_column" s__law_column f cdv A outer s H E 2 F (onDeal l1 l2)) (fun dl : Deal => [some (.deal l1 l2 dl.1 dl.2), some (.val d1), some (.val d2), none, none, none]) (defBody s__law_column) (fun (_ : Unit) dl => [some (.deal l1 l2 dl.1 dl.2)]) (fun (_ : Unit) _ => []) (fun dl => [some (.deal l1 l2 dl.1 dl.2)]) (m d1 d2)} := ⟨fun d1 d2 => _, fun T h f cdv A outer s H E F l1 l2 d1 d2 => (jb_set 3 (je_callL 0 (ce__law_any_1 h) (Nat.le_of_ble_eq_true rfl) (ja_cons (je_var 2 (f := fun _ => d2)) ja_nil)) (fun v1 => (jb_if (fun (a2 : Unit) dl => [some (.deal l1 l2 dl.1 dl.2), some (.val d1), some (.val d2), some (.val v1), none, none]) (jt_cmp od_eq (je_var 1 (f := fun _ => d1)) je_int) (jb_ret (je_ofL (jel_lc1 4 [("_law_state", 4)] (ji_range1 (h.b_range) (je_var 2 (f := fun _ => d2))) (fun _ => jg_name 4) (fun _ v3 => jts_nil) (fun _ v3 => (je_op od_mod (je_blt (h.b_int) cd_int (ja_cons (je_op od_add (je_var 4 (f := fun _ => v3)) (je_var 3 (f := fun _ => v1))) ja_nil)) (je_var 2 (f := fun _ => d2)))))) (fun _ => SlotsLe.cons_same (SlotsLe.nil _)) (fun _ => Nat.le_of_ble_eq_true rfl)) (jb_nil (fun _ => ()) (fun _ => (SlotsLe.cons_same (SlotsLe.cons_same (SlotsLe.cons_same (SlotsLe.cons_same (SlotsLe.cons_none (SlotsLe.cons_none (SlotsLe.nil _)))))))) (fun _ => Nat.le_of_ble_eq_true rfl)) (fun a2 => (jb_if (fun (a4 : Unit) dl => [some (.deal l1 l2 dl.1 dl.2), some (.val d1), some (.val d2), some (.val v1), none, none]) (jt_cmp od_eq (je_var 1 (f := fun _ => d1)) je_int) (jb_ret (je_op od_mul (je_lst (ja_cons (je_var 3 (f := fun _ => v1)) ja_nil)) (je_var 2 (f := fun _ => d2))) (fun _ => SlotsLe.cons_same (SlotsLe.nil _)) (fun _ => Nat.le_of_ble_eq_true rfl)) (jb_nil (fun _ => ()) (fun _ => (SlotsLe.cons_same (SlotsLe.cons_same (SlotsLe.cons_same (SlotsLe.cons_same (SlotsLe.cons_none (SlotsLe.cons_none (SlotsLe.nil _)))))))) (fun _ => Nat.le_of_ble_eq_true rfl)) (fun a4 => (jb_if (fun (a5 : Unit) dl => [some (.deal l1 l2 dl.1 dl.2), some (.val d1), some (.val d2), some (.val v1), none, none]) (jt_cmp od_eq (je_var 1 (f := fun _ => d1)) je_int) (jb_ret (je_ofL (jel_lc1 4 [("_law_state", 4)] (ji_range1 (h.b_range) (je_var 2 (f := fun _ => d2))) (fun _ => jg_name 4) (fun _ v6 => jts_nil) (fun _ v6 => (je_if (jt_cmp od_eq (je_var 4 (f := fun _ => v6)) je_int) (je_var 3 (f := fun _ => v1)) (je_var 4 (f := fun _ => v6)))))) (fun _ => SlotsLe.cons_same (SlotsLe.nil _)) (fun _ => Nat.le_of_ble_eq_true rfl)) (jb_nil (fun _ => ()) (fun _ => (SlotsLe.cons_same (SlotsLe.cons_same (SlotsLe.cons_same (SlotsLe.cons_same (SlotsLe.cons_none (SlotsLe.cons_none (SlotsLe.nil _)))))))) (fun _ => Nat.le_of_ble_eq_true rfl)) (fun a5 => (jb_if (fun (a7 : Unit) dl => [some (.deal l1 l2 dl.1 dl.2), some (.val d1), some (.val d2), some (.val v1), none, none]) (jt_cmp od_eq (je_var 1 (f := fun _ => d1)) je_int) (jb_ret (je_ofL (jel_lc1 4 [("_law_state", 4)] (ji_range1 (h.b_range) (je_var 2 (f := fun _ => d2))) (fun _ => jg_name 4) (fun _ v8 => jts_nil) (fun _ v8 => (je_blt (h.b_max) cd_max2 (ja_cons je_int (ja_cons (je_blt (h.b_min) cd_min2 (ja_cons (je_op od_sub (je_var 2 (f := fun _ => d2)) je_int) (ja_cons (je_op od_sub (je_op od_add (je_var 4 (f := fun _ => v8)) (je_var 3 (f := fun _ => v1))) je_int) ja_nil))) ja_nil)))))) (fun _ => SlotsLe.cons_same (SlotsLe.nil _)) (fun _ => Nat.le_of_ble_eq_true rfl)) (jb_nil (fun _ => ()) (fun _ => (SlotsLe.cons_same (SlotsLe.cons_same (SlotsLe.cons_same (SlotsLe.cons_same (SlotsLe.cons_none (SlotsLe.cons_none (SlotsLe.nil _)))))))) (fun _ => Nat.le_of_ble_eq_true rfl)) (fun a7 => (jb_if (fun (a9 : Unit) dl => [some (.deal l1 l2 dl.1 dl.2), some (.val d1), some (.val d2), some (.val v1), none, none]) (jt_cmp od_eq (je_var 1 (f := fun _ => d1)) je_int) (jb_ret (je_callL 0 (ce__law_mixed_1 h) (Nat.le_of_ble_eq_true rfl) (ja_cons (je_ofL (jel_rg1 (h.b_list) (h.b_range) (je_var 2 (f := fun _ => d2)))) ja_nil)) (fun _ => SlotsLe.cons_same (SlotsLe.nil _)) (fun _ => Nat.le_of_ble_eq_true rfl)) (jb_nil (fun _ => ()) (fun _ => (SlotsLe.cons_same (SlotsLe.cons_same (SlotsLe.cons_same (SlotsLe.cons_same (SlotsLe.cons_none (SlotsLe.cons_none (SlotsLe.nil _)))))))) (fun _ => Nat.le_of_ble_eq_true rfl)) (fun a9 => (jb_if (fun (a10 : Unit) dl => [some (.deal l1 l2 dl.1 dl.2), some (.val d1), some (.val d2), some (.val v1), none, none]) (jt_cmp od_eq (je_var 1 (f := fun _ => d1)) je_int) (jb_ret (je_ofL (jel_lc1 4 [("_law_state", 4)] (ji_range1 (h.b_range) (je_var 2 (f := fun _ => d2))) (fun _ => jg_name 4) (fun _ v11 => jts_nil) (fun _ v11 => (je_blt (h.b_max) cd_max2 (ja_cons (je_var 4 (f := fun _ => v11)) (ja_cons (je_var 3 (f := fun _ => v1)) ja_nil)))))) (fun _ => SlotsLe.cons_same (SlotsLe.nil _)) (fun _ => Nat.le_of_ble_eq_true rfl)) (jb_nil (fun _ => ()) (fun _ => (SlotsLe.cons_same (SlotsLe.cons_same (SlotsLe.cons_same (SlotsLe.cons_same (SlotsLe.cons_none (SlotsLe.cons_none (SlotsLe.nil _)))))))) (fun _ => Nat.le_of_ble_eq_true rfl)) (fun a10 => (jb_if (fun (a12 : Unit) dl => [some (.deal l1 l2 dl.1 dl.2), some (.val d1), some (.val d2), some (.val v1), none, none]) (jt_cmp od_eq (je_var 1 (f := fun _ => d1)) je_int) (jb_set 5 (je_blt (h.b_max) cd_max2 (ja_cons je_int (ja_cons (je_op od_div (je_var 2 (f := fun _ => d2)) je_int) ja_nil))) (fun v13 => (jb_ret (je_ofL (jel_lc1 4 [("_law_state", 4)] (ji_range1 (h.b_range) (je_var 2 (f := fun _ => d2))) (fun _ => jg_name 4) (fun _ v14 => jts_nil) (fun _ v14 => (je_op od_add (je_op od_mod (je_blt (h.b_int) cd_int (ja_cons (je_op od_add (je_var 4 (f := fun _ => v14)) (je_var 3 (f := fun _ => v1))) ja_nil)) (je_var 5 (f := fun _ => v13))) (je_if (jt_w (jw_and (jt_cmp od_ge (je_var 4 (f := fun _ => v14)) (je_var 5 (f := fun _ => v13))) (jw_and1 (jt_cmp od_le (je_op od_mul je_int (je_var 5 (f := fun _ => v13))) (je_var 2 (f := fun _ => d2)))))) (je_var 5 (f := fun _ => v13)) je_int))))) (fun _ => SlotsLe.cons_same (SlotsLe.nil _)) (fun _ => Nat.le_of_ble_eq_true rfl)))) (jb_nil (fun _ => ()) (fun _ => (SlotsLe.cons_same (SlotsLe.cons_same (SlotsLe.cons_same (SlotsLe.cons_same (SlotsLe.cons_none (SlotsLe.cons_none (SlotsLe.nil _)))))))) (fun _ => Nat.le_of_ble_eq_true rfl)) (fun a12 => (jb_ret (je_ofL (jel_lc1 4 [("_law_state", 4)] (ji_range1 (h.b_range) (je_var 2 (f := fun _ => d2))) (fun _ => jg_name 4) (fun _ v15 => jts_nil) (fun _ v15 => (je_callL 0 (ce__law_any_1 h) (Nat.le_of_ble_eq_true rfl) (ja_cons (je_var 2 (f := fun _ => d2)) ja_nil))))) (fun _ => SlotsLe.cons_same (SlotsLe.nil _)) (fun _ => Nat.le_of_ble_eq_true rfl))))))))))))))))))⟩
noncomputable def m__law_column : List D → Deal → R (D × Deal) := fun ds dl => finish (ar2 (fun _ => .bad) pk__law_column.1 ds dl)
theorem ok__law_column {T : Txt} (h : Facts T) (f : Addr) (fd : FuncData) (F : Fun T.K "_law_column" "_law_column" s__law_column f fd) : FnG T.P T.w T.K T.mg T.base (L2.CX T.P T.w) 3 f fd ["_law_deal", "_law_form", "_law_many"] (SpL T 2 m__law_column) := fn_okL F sc__law_column (by decide) (fun cdv A outer s H E G l1 l2 ds hl => match ds, hl with | [d1, d2], _ => pk__law_column.2 T h f cdv A outer s H E G l1 l2 d1 d2)
theorem ce__law_column_2 {T : Txt} (h : Facts T) : CalleeL T "_law_column" 2 [] 3 (callL 2 0 [] m__law_column) := mk_calleeL (ps := ["_law_deal", "_law_form", "_law_many"]) (pm := []) h.d__law_column (fun f fd F => ok__law_column h f fd F) rfl (fun kV doc pmv an cdv ct us ws hl hw => match us, hl, ws, hw with | [_, _, _], _, [], _ => rfl)
theorem sc__law_machine : FnScope ["_law_deal", "_law_most", "_law_form", "_law_commands", "_law_one", "_law_other", "_law_s", "_law_many", "_law_columns_here", "_law_command", "_law_kind"] ["_law_deal", "_law_most"] (defScope s__law_machine) := ⟨rfl, rfl, rfl, by decide +kernel, rfl, by decide +kernel, by decide +kernel⟩
noncomputable def pk__law_machine : {m : D → Deal → R (Fl Unit Unit × Deal) // ∀ (T : Txt) (h : Facts T) (f : Addr) (cdv : Value) (A : Around) (outer : List Env) (s : Shared) (H : Hp) (E : XK) (F : Hp) (l1 l2 : Addr) (d1 : D), JB (bodyCtx T ["_law_deal", "_law_most", "_law_form", "_law_commands", "_law_one", "_law_other", "_law_s", "_law_many", "_law_columns_here", "_law_command", "_law_kind"] "_law_machine" s__law_machine f cdv A outer s H E 3 F (onDeal l1 l2)) (fun dl : Deal => [some (.deal l1 l2 dl.1 dl.2), some (.val d1), none, none, none, none, none, none, none, none, none]) (defBody s__law_machine) (fun (_ : Unit) dl => [some (.deal l1 l2 dl.1 dl.2)]) (fun (_ : Unit) _ => []) (fun dl => [some (.deal l1 l2 dl.1 dl.2)]) (m d1)} := ⟨fun d1 => _, fun T h f cdv A outer s H E F l1 l2 d1 => (jb_par2 2 3 (ja_cons (je_callL 0 (ce__law_any_1 h) (Nat.le_of_ble_eq_true rfl) (ja_cons je_int ja_nil)) (ja_cons (je_callL 0 (ce__law_of_1 h) (Nat.le_of_ble_eq_true rfl) (ja_cons (je_lst (ja_cons je_int (ja_cons je_int (ja_cons je_int (ja_cons je_int (ja_cons je_int ja_nil)))))) ja_nil)) ja_nil)) (fun v1 v2 => (jb_if (fun (a3 : Unit) dl => [some (.deal l1 l2 dl.1 dl.2), some (.val d1), some (.val v1), some (.val v2), none, none, none, none, none, none, none]) (jt_w (jw_and (jt_cmp od_eq (je_var 2 (f := fun _ => v1)) je_int) (jw_and1 (jt_cmp od_gt (je_var 1 (f := fun _ => d1)) je_int)))) (jb_ret (je_tup (ja_cons je_int (ja_cons (je_lst (ja_cons (je_lst (ja_cons je_int (ja_cons je_int ja_nil))) (ja_cons (je_lst (ja_cons je_int (ja_cons je_int ja_nil))) (ja_cons (je_lst (ja_cons je_int (ja_cons je_int ja_nil))) (ja_cons (je_lst (ja_cons je_int (ja_cons je_int ja_nil))) ja_nil))))) ja_nil))) (fun _ => SlotsLe.cons_same (SlotsLe.nil _)) (fun _ => Nat.le_of_ble_eq_true rfl)) (jb_nil (fun _ => ()) (fun _ => (SlotsLe.cons_same (SlotsLe.cons_same (SlotsLe.cons_same (SlotsLe.cons_same (SlotsLe.cons_none (SlotsLe.cons_none (SlotsLe.cons_none (SlotsLe.cons_none (SlotsLe.cons_none (SlotsLe.cons_none (SlotsLe.cons_none (SlotsLe.nil _))))))))))))) (fun _ => Nat.le_of_ble_eq_true rfl)) (fun a3 => (jb_if (fun (a4 : Unit) dl => [some (.deal l1 l2 dl.1 dl.2), some (.val d1), some (.val v1), some (.val v2), none, none, none, none, none, none, none]) (jt_w (jw_and (jt_cmp od_eq (je_var 2 (f := fun _ => v1)) je_int) (jw_and1 (jt_cmp od_gt (je_var 1 (f := fun _ => d1)) je_int)))) (jb_unp2 4 5 (je_tup (ja_cons (je_callL 0 (ce__law_any_1 h) (Nat.le_of_ble_eq_true rfl) (ja_cons je_int ja_nil)) (ja_cons (je_callL 0 (ce__law_of_1 h) (Nat.le_of_ble_eq_true rfl) (ja_cons (je_lst (ja_cons je_int (ja_cons je_int ja_nil))) ja_nil)) ja_nil))) (jg_tup (jgs_cons 4 (jgs_cons 5 jgs_nil))) (fun v5 v6 => (jb_ret (je_tup (ja_cons je_int (ja_cons (je_ofL (jel_lc1 6 [("_law_s", 6)] (ji_range1 (h.b_range) je_int) (fun _ => jg_name 6) (fun _ v7 => jts_nil) (fun _ v7 => (je_lst (ja_cons (je_op od_add (je_op od_mul je_int (je_op od_div (je_var 6 (f := fun _ => v7)) je_int)) (je_var 4 (f := fun _ => v5))) (ja_cons (je_if (jt_cmp od_eq (je_op od_mod (je_var 6 (f := fun _ => v7)) je_int) je_int) (je_op od_mod (je_blt (h.b_int) cd_int (ja_cons (je_op od_add (je_var 6 (f := fun _ => v7)) (je_var 5 (f := fun _ => v6))) ja_nil)) je_int) (je_op od_mod (je_blt (h.b_int) cd_int (ja_cons (je_op od_add (je_var 6 (f := fun _ => v7)) je_int) ja_nil)) je_int)) ja_nil)))))) ja_nil))) (fun _ => SlotsLe.cons_same (SlotsLe.nil _)) (fun _ => Nat.le_of_ble_eq_true rfl)))) (jb_nil (fun _ => ()) (fun _ => (SlotsLe.cons_same (SlotsLe.cons_same (SlotsLe.cons_same (SlotsLe.cons_same (SlotsLe.cons_none (SlotsLe.cons_none (SlotsLe.cons_none (SlotsLe.cons_none (SlotsLe.cons_none (SlotsLe.cons_none (SlotsLe.cons_none (SlotsLe.nil _))))))))))))) (fun _ => Nat.le_of_ble_eq_true rfl)) (fun a4 => (jb_par2vl 7 8 (je_op od_add je_int (je_callL 0 (ce__law_any_1 h) (Nat.le_of_ble_eq_true rfl) (ja_cons (je_var 1 (f := fun _ => d1)) ja_nil))) (jel_lst ja_nil) (fun v8 w9 => (jb_for 9 (fun (a10 : List D) dl => [some (.deal l1 l2 dl.1 dl.2), some (.val d1), some (.val v1), some (.val v2), none, none, none, some (.val v8), some (.own a10), none, none]) (fun _ => w9) (ji_range1 (h.b_range) (je_var 3 (f := fun _ => v2))) (fun _ => (SlotsLe.cons_same (SlotsLe.cons_same (SlotsLe.cons_same (SlotsLe.cons_same (SlotsLe.cons_none (SlotsLe.cons_none (SlotsLe.cons_none (SlotsLe.cons_same (SlotsLe.cons_same (SlotsLe.cons_none (SlotsLe.cons_none (SlotsLe.nil _))))))))))))) (fun _ => Nat.le_of_ble_eq_true rfl) (fun v11 a10 => (jb_set 10 (je_if (jt_cmp od_gt (je_var 2 (f := fun _ => v1)) je_int) (je_callL 0 (ce__law_any_1 h) (Nat.le_of_ble_eq_true rfl) (ja_cons je_int ja_nil)) (je_var 2 (f := fun _ => v1))) (fun v12 => (jb_append 8 (f := fun _ => a10) (je_callL 0 (ce__law_column_2 h) (Nat.le_of_ble_eq_true rfl) (ja_cons (je_var 10 (f := fun _ => v12)) (ja_cons (je_var 7 (f := fun _ => v8)) ja_nil))) (fun w13 => (jb_nil (fun _ => w13) (fun _ => (SlotsLe.cons_same (SlotsLe.cons_same (SlotsLe.cons_same (SlotsLe.cons_same (SlotsLe.cons_none (SlotsLe.cons_none (SlotsLe.cons_none (SlotsLe.cons_same (SlotsLe.cons_same (SlotsLe.cons_none (SlotsLe.cons_none (SlotsLe.nil _))))))))))))) (fun _ => Nat.le_of_ble_eq_true rfl))))))) (fun a10 => (jb_freeze 8 (f := fun _ => a10) (jb_ret (je_tup (ja_cons (je_var 3 (f := fun _ => v2)) (ja_cons (je_call (ce__law_columns_1 h) (Nat.le_of_ble_eq_true rfl) (ja_cons (je_var 8 (f := fun _ => (.lst a10))) ja_nil)) ja_nil))) (fun _ => SlotsLe.cons_same (SlotsLe.nil _)) (fun _ => Nat.le_of_ble_eq_true rfl)))))))))))))⟩
noncomputable def m__law_machine : List D → Deal → R (D × Deal) := fun ds dl => finish (ar1 (fun _ => .bad) pk__law_machine.1 ds dl)
theorem ok__law_machine {T : Txt} (h : Facts T) (f : Addr) (fd : FuncData) (F : Fun T.K "_law_machine" "_law_machine" s__law_machine f fd) : FnG T.P T.w T.K T.mg T.base (L2.CX T.P T.w) 4 f fd ["_law_deal", "_law_most"] (SpL T 1 m__law_machine) := fn_okL F sc__law_machine (by decide) (fun cdv A outer s H E G l1 l2 ds hl => match ds, hl with | [d1], _ => pk__law_machine.2 T h f cdv A outer s H E G l1 l2 d1)
theorem ce__law_machine_1 {T : Txt} (h : Facts T) : CalleeL T "_law_machine" 1 [] 4 (callL 1 0 [] m__law_machine) := mk_calleeL (ps := ["_law_deal", "_law_most"]) (pm := []) h.d__law_machine (fun f fd F => ok__law_machine h f fd F) rfl (fun kV doc pmv an cdv ct us ws hl hw => match us, hl, ws, hw with | [_, _], _, [], _ => rfl)
theorem sc__law_wide : FnScope ["_law_deal", "_law_most", "_law_commands", "_law_steps", "_law_more", "_law_row"] ["_law_deal", "_law_most"] (defScope s__law_wide) := ⟨rfl, rfl, rfl, by decide +kernel, rfl, by decide +kernel, by decide +kernel⟩
noncomputable def pk__law_wide : {m : D → Deal → R (Fl Unit Unit × Deal) // ∀ (T : Txt) (h : Facts T) (f : Addr) (cdv : Value) (A : Around) (outer : List Env) (s : Shared) (H : Hp) (E : XK) (F : Hp) (l1 l2 : Addr) (d1 : D), JB (bodyCtx T ["_law_deal", "_law_most", "_law_commands", "_law_steps", "_law_more", "_law_row"] "_law_wide" s__law_wide f cdv A outer s H E 4 F (onDeal l1 l2)) (fun dl : Deal => [some (.deal l1 l2 dl.1 dl.2), some (.val d1), none, none, none, none]) (defBody s__law_wide) (fun (_ : Unit) dl => [some (.deal l1 l2 dl.1 dl.2)]) (fun (_ : Unit) _ => []) (fun dl => [some (.deal l1 l2 dl.1 dl.2)]) (m d1)} := ⟨fun d1 => _, fun T h f cdv A outer s H E F l1 l2 d1 => (jb_unp2 2 3 (je_callL 0 (ce__law_machine_1 h) (Nat.le_of_ble_eq_true rfl) (ja_cons (je_var 1 (f := fun _ => d1)) ja_nil)) (jg_tup (jgs_cons 2 (jgs_cons 3 jgs_nil))) (fun v1 v2 => (jb_if (fun (a3 : Unit) dl => [some (.deal l1 l2 dl.1 dl.2), some (.val d1), some (.val v1), some (.val v2), none, none]) (jt_cmp od_gt (je_callL 0 (ce__law_any_1 h) (Nat.le_of_ble_eq_true rfl) (ja_cons je_int ja_nil)) je_int) (jb_ret (je_tup (ja_cons (je_var 2 (f := fun _ => v1)) (ja_cons (je_var 3 (f := fun _ => v2)) ja_nil))) (fun _ => SlotsLe.cons_same (SlotsLe.nil _)) (fun _ => Nat.le_of_ble_eq_true rfl)) (jb_nil (fun _ => ()) (fun _ => (SlotsLe.cons_same (SlotsLe.cons_same (SlotsLe.cons_same (SlotsLe.cons_same (SlotsLe.cons_none (SlotsLe.cons_none (SlotsLe.nil _)))))))) (fun _ => Nat.le_of_ble_eq_true rfl)) (fun a3 => (jb_ret (je_tup (ja_cons je_int (ja_cons (je_ofL (jel_lc1 5 [("_law_row", 5)] (ji_seq (je_var 3 (f := fun _ => v2))) (fun _ => jg_name 5) (fun _ v4 => jts_nil) (fun _ v4 => (je_op od_add (je_blt (h.b_list) cd_list (ja_cons (je_var 5 (f := fun _ => v4)) ja_nil)) (je_ofL (jel_lc1 4 [("_law_more", 4)] (ji_range1 (h.b_range) (je_op od_sub je_int (je_var 2 (f := fun _ => v1)))) (fun _ => jg_name 4) (fun _ v5 => jts_nil) (fun _ v5 => (je_callL 0 (ce__law_any_1 h) (Nat.le_of_ble_eq_true rfl) (ja_cons (je_blt (h.b_len) cd_len (ja_cons (je_var 3 (f := fun _ => v2)) ja_nil)) ja_nil))))))))) ja_nil))) (fun _ => SlotsLe.cons_same (SlotsLe.nil _)) (fun _ => Nat.le_of_ble_eq_true rfl))))))⟩
noncomputable def m__law_wide : List D → Deal → R (D × Deal) := fun ds dl => finish (ar1 (fun _ => .bad) pk__law_wide.1 ds dl)
theorem ok__law_wide {T : Txt} (h : Facts T) (f : Addr) (fd : FuncData) (F : Fun T.K "_law_wide" "_law_wide" s__law_wide f fd) : FnG T.P T.w T.K T.mg T.base (L2.CX T.P T.w) 5 f fd ["_law_deal", "_law_most"] (SpL T 1 m__law_wide) := fn_okL F sc__law_wide (by decide) (fun cdv A outer s H E G l1 l2 ds hl => match ds, hl with | [d1], _ => pk__law_wide.2 T h f cdv A outer s H E G l1 l2 d1)
theorem ce__law_wide_1 {T : Txt} (h : Facts T) : CalleeL T "_law_wide" 1 [] 5 (callL 1 0 [] m__law_wide) := mk_calleeL (ps := ["_law_deal", "_law_most"]) (pm := []) h.d__law_wide (fun f fd F => ok__law_wide h f fd F) rfl (fun kV doc pmv an cdv ct us ws hl hw => match us, hl, ws, hw with | [_, _], _, [], _ => rfl)
theorem sc_is_sequence : FnScope ["value"] ["value"] (defScope s_is_sequence) := ⟨rfl, rfl, rfl, by decide +kernel, rfl, by decide +kernel, by decide +kernel⟩
noncomputable def pk_is_sequence : {m : D → Unit → R (Fl Unit Unit × Unit) // ∀ (T : Txt) (h : Facts T) (f : Addr) (cdv : Value) (A : Around) (outer : List Env) (s : Shared) (H : Hp) (E : XK) (F : Hp) (d0 : D), JB (bodyCtx T ["value"] "is_sequence" s_is_sequence f cdv A outer s H E 0 F fun _ => False) (fun _ : Unit => [some (.val d0)]) (defBody s_is_sequence) (fun (_ : Unit) _ => []) (fun (_ : Unit) _ => []) (fun _ => []) (m d0)} := ⟨fun d0 => _, fun T h f cdv A outer s H E F d0 => (jb_ret (je_isi2 (h.tc) ⟨kit_list, by decide⟩ ⟨kit_tuple, by decide⟩ (h.b_isinstance) (h.b_list) (h.b_tuple) (je_var 0 (f := fun _ => d0))) (fun _ => SlotsLe.nil _) (fun _ => Nat.le_of_ble_eq_true rfl))⟩
noncomputable def m_is_sequence : List D → R D := fun ds => finish1 ((ar1 .bad fun d0 => pk_is_sequence.1 d0 ()) ds)
theorem ok_is_sequence {T : Txt} (h : Facts T) (f : Addr) (fd : FuncData) (F : Fun T.K "is_sequence" "is_sequence" s_is_sequence f fd) : FnG T.P T.w T.K T.mg T.base (L2.CX T.P T.w) 1 f fd ["value"] (SpD T 1 m_is_sequence) := fn_ok F sc_is_sequence (fun cdv A outer s H E G ds hl => match ds, hl with | [d0], _ => pk_is_sequence.2 T h f cdv A outer s H E G d0)
theorem ce_is_sequence_1 {T : Txt} (h : Facts T) : CalleeD T "is_sequence" 1 [] 1 (callM 1 0 [] m_is_sequence) := mk_calleeD (ps := ["value"]) (pm := []) h.d_is_sequence (fun f fd F => ok_is_sequence h f fd F) rfl (fun kV doc pmv an cdv ct us ws hl hw => match us, hl, ws, hw with | [_], _, [], _ => rfl)
theorem sc_is_integer : FnScope ["value"] ["value"] (defScope s_is_integer) := ⟨rfl, rfl, rfl, by decide +kernel, rfl, by decide +kernel, by decide +kernel⟩
noncomputable def pk_is_integer : {m : D → Unit → R (Fl Unit Unit × Unit) // ∀ (T : Txt) (h : Facts T) (f : Addr) (cdv : Value) (A : Around) (outer : List Env) (s : Shared) (H : Hp) (E : XK) (F : Hp) (d0 : D), JB (bodyCtx T ["value"] "is_integer" s_is_integer f cdv A outer s H E 0 F fun _ => False) (fun _ : Unit => [some (.val d0)]) (defBody s_is_integer) (fun (_ : Unit) _ => []) (fun (_ : Unit) _ => []) (fun _ => []) (m d0)} := ⟨fun d0 => _, fun T h f cdv A outer s H E F d0 => (jb_ret (je_and (je_isi (h.tc) ⟨kit_int, by decide⟩ (h.b_isinstance) (h.b_int) (je_var 0 (f := fun _ => d0))) (je_one (je_not (je_isi (h.tc) ⟨kit_bool, by decide⟩ (h.b_isinstance) (h.b_bool) (je_var 0 (f := fun _ => d0)))))) (fun _ => SlotsLe.nil _) (fun _ => Nat.le_of_ble_eq_true rfl))⟩
noncomputable def m_is_integer : List D → R D := fun ds => finish1 ((ar1 .bad fun d0 => pk_is_integer.1 d0 ()) ds)
theorem ok_is_integer {T : Txt} (h : Facts T) (f : Addr) (fd : FuncData) (F : Fun T.K "is_integer" "is_integer" s_is_integer f fd) : FnG T.P T.w T.K T.mg T.base (L2.CX T.P T.w) 1 f fd ["value"] (SpD T 1 m_is_integer) := fn_ok F sc_is_integer (fun cdv A outer s H E G ds hl => match ds, hl with | [d0], _ => pk_is_integer.2 T h f cdv A outer s H E G d0)
theorem ce_is_integer_1 {T : Txt} (h : Facts T) : CalleeD T "is_integer" 1 [] 1 (callM 1 0 [] m_is_integer) := mk_calleeD (ps := ["value"]) (pm := []) h.d_is_integer (fun f fd F => ok_is_integer h f fd F) rfl (fun kV doc pmv an cdv ct us ws hl hw => match us, hl, ws, hw with | [_], _, [], _ => rfl)
theorem sc_is_number : FnScope ["value"] ["value"] (defScope s_is_number) := ⟨rfl, rfl, rfl, by decide +kernel, rfl, by decide +kernel, by decide +kernel⟩
noncomputable def pk_is_number : {m : D → Unit → R (Fl Unit Unit × Unit) // ∀ (T : Txt) (h : Facts T) (f : Addr) (cdv : Value) (A : Around) (outer : List Env) (s : Shared) (H : Hp) (E : XK) (F : Hp) (d0 : D), JB (bodyCtx T ["value"] "is_number" s_is_number f cdv A outer s H E 1 F fun _ => False) (fun _ : Unit => [some (.val d0)]) (defBody s_is_number) (fun (_ : Unit) _ => []) (fun (_ : Unit) _ => []) (fun _ => []) (m d0)} := ⟨fun d0 => _, fun T h f cdv A outer s H E F d0 => (jb_ret (je_and (je_call (ce_is_integer_1 h) (Nat.le_of_ble_eq_true rfl) (ja_cons (je_var 0 (f := fun _ => d0)) ja_nil)) (je_one (je_cmp od_ge (je_var 0 (f := fun _ => d0)) je_int))) (fun _ => SlotsLe.nil _) (fun _ => Nat.le_of_ble_eq_true rfl))⟩
noncomputable def m_is_number : List D → R D := fun ds => finish1 ((ar1 .bad fun d0 => pk_is_number.1 d0 ()) ds)
theorem ok_is_number {T : Txt} (h : Facts T) (f : Addr) (fd : FuncData) (F : Fun T.K "is_number" "is_number" s_is_number f fd) : FnG T.P T.w T.K T.mg T.base (L2.CX T.P T.w) 2 f fd ["value"] (SpD T 1 m_is_number) := fn_ok F sc_is_number (fun cdv A outer s H E G ds hl => match ds, hl with | [d0], _ => pk_is_number.2 T h f cdv A outer s H E G d0)
theorem ce_is_number_1 {T : Txt} (h : Facts T) : CalleeD T "is_number" 1 [] 2 (callM 1 0 [] m_is_number) := mk_calleeD (ps := ["value"]) (pm := []) h.d_is_number (fun f fd F => ok_is_number h f fd F) rfl (fun kV doc pmv an cdv ct us ws hl hw => match us, hl, ws, hw with | [_], _, [], _ => rfl)
theorem sc_is_index : FnScope ["value", "many"] ["value", "many"] (defScope s_is_index) := ⟨rfl, rfl, rfl, by decide +kernel, rfl, by decide +kernel, by decide +kernel⟩
noncomputable def pk_is_index : {m : D → D → Unit → R (Fl Unit Unit × Unit) // ∀ (T : Txt) (h : Facts T) (f : Addr) (cdv : Value) (A : Around) (outer : List Env) (s : Shared) (H : Hp) (E : XK) (F : Hp) (d0 : D) (d1 : D), JB (bodyCtx T ["value", "many"] "is_index" s_is_index f cdv A outer s H E 2 F fun _ => False) (fun _ : Unit => [some (.val d0), some (.val d1)]) (defBody s_is_index) (fun (_ : Unit) _ => []) (fun (_ : Unit) _ => []) (fun _ => []) (m d0 d1)} := ⟨fun d0 d1 => _, fun T h f cdv A outer s H E F d0 d1 => (jb_ret (je_and (je_call (ce_is_number_1 h) (Nat.le_of_ble_eq_true rfl) (ja_cons (je_var 0 (f := fun _ => d0)) ja_nil)) (je_one (je_cmp od_lt (je_var 0 (f := fun _ => d0)) (je_var 1 (f := fun _ => d1))))) (fun _ => SlotsLe.nil _) (fun _ => Nat.le_of_ble_eq_true rfl))⟩
noncomputable def m_is_index : List D → R D := fun ds => finish1 ((ar2 .bad fun d0 d1 => pk_is_index.1 d0 d1 ()) ds)
theorem ok_is_index {T : Txt} (h : Facts T) (f : Addr) (fd : FuncData) (F : Fun T.K "is_index" "is_index" s_is_index f fd) : FnG T.P T.w T.K T.mg T.base (L2.CX T.P T.w) 3 f fd ["value", "many"] (SpD T 2 m_is_index) := fn_ok F sc_is_index (fun cdv A outer s H E G ds hl => match ds, hl with | [d0, d1], _ => pk_is_index.2 T h f cdv A outer s H E G d0 d1)
theorem ce_is_index_2 {T : Txt} (h : Facts T) : CalleeD T "is_index" 2 [] 3 (callM 2 0 [] m_is_index) := mk_calleeD (ps := ["value", "many"]) (pm := []) h.d_is_index (fun f fd F => ok_is_index h f fd F) rfl (fun kV doc pmv an cdv ct us ws hl hw => match us, hl, ws, hw with | [_, _], _, [], _ => rfl)
theorem sc_is_slip : FnScope ["machine", "value"] ["machine", "value"] (defScope s_is_slip) := ⟨rfl, rfl, rfl, by decide +kernel, rfl, by decide +kernel, by decide +kernel⟩
noncomputable def pk_is_slip : {m : D → D → Unit → R (Fl Unit Unit × Unit) // ∀ (T : Txt) (h : Facts T) (f : Addr) (cdv : Value) (A : Around) (outer : List Env) (s : Shared) (H : Hp) (E : XK) (F : Hp) (d0 : D) (d1 : D), JB (bodyCtx T ["machine", "value"] "is_slip" s_is_slip f cdv A outer s H E 3 F fun _ => False) (fun _ : Unit => [some (.val d0), some (.val d1)]) (defBody s_is_slip) (fun (_ : Unit) _ => []) (fun (_ : Unit) _ => []) (fun _ => []) (m d0 d1)} := ⟨fun d0 d1 => _, fun T h f cdv A outer s H E F d0 d1 => (jb_if (fun (a1 : Unit) _ => [some (.val d0), some (.val d1)]) (jt_w (jw_or (jt_not (jt_val (je_isi (h.tc) ⟨kit_tuple, by decide⟩ (h.b_isinstance) (h.b_tuple) (je_var 1 (f := fun _ => d1))))) (jw_or1 (jt_cmp od_ne (je_blt (h.b_len) cd_len (ja_cons (je_var 1 (f := fun _ => d1)) ja_nil)) je_int)))) (jb_ret je_bl (fun _ => SlotsLe.nil _) (fun _ => Nat.le_of_ble_eq_true rfl)) (jb_nil (fun _ => ()) (fun _ => (SlotsLe.cons_same (SlotsLe.cons_same (SlotsLe.nil _)))) (fun _ => Nat.le_of_ble_eq_true rfl)) (fun a1 => (jb_ret (je_and (je_call (ce_is_number_1 h) (Nat.le_of_ble_eq_true rfl) (ja_cons (je_ix (je_var 1 (f := fun _ => d1)) je_int) ja_nil)) (je_one (je_call (ce_is_index_2 h) (Nat.le_of_ble_eq_true rfl) (ja_cons (je_ix (je_var 1 (f := fun _ => d1)) je_int) (ja_cons (je_attr "Machine" (h.at_Machine_commands) (je_var 0 (f := fun _ => d0))) ja_nil))))) (fun _ => SlotsLe.nil _) (fun _ => Nat.le_of_ble_eq_true rfl))))⟩
noncomputable def m_is_slip : List D → R D := fun ds => finish1 ((ar2 .bad fun d0 d1 => pk_is_slip.1 d0 d1 ()) ds)
theorem ok_is_slip {T : Txt} (h : Facts T) (f : Addr) (fd : FuncData) (F : Fun T.K "is_slip" "is_slip" s_is_slip f fd) : FnG T.P T.w T.K T.mg T.base (L2.CX T.P T.w) 4 f fd ["machine", "value"] (SpD T 2 m_is_slip) := fn_ok F sc_is_slip (fun cdv A outer s H E G ds hl => match ds, hl with | [d0, d1], _ => pk_is_slip.2 T h f cdv A outer s H E G d0 d1)
theorem ce_is_slip_2 {T : Txt} (h : Facts T) : CalleeD T "is_slip" 2 [] 4 (callM 2 0 [] m_is_slip) := mk_calleeD (ps := ["machine", "value"]) (pm := []) h.d_is_slip (fun f fd F => ok_is_slip h f fd F) rfl (fun kV doc pmv an cdv ct us ws hl hw => match us, hl, ws, hw with | [_, _], _, [], _ => rfl)
theorem sc_checked_heap : FnScope ["machine", "value", "times", "at", "slip"] ["machine", "value"] (defScope s_checked_heap) := ⟨rfl, rfl, rfl, by decide +kernel, rfl, by decide +kernel, by decide +kernel⟩
noncomputable def pk_checked_heap : {m : D → D → Unit → R (Fl Unit Unit × Unit) // ∀ (T : Txt) (h : Facts T) (f : Addr) (cdv : Value) (A : Around) (outer : List Env) (s : Shared) (H : Hp) (E : XK) (F : Hp) (d0 : D) (d1 : D), JB (bodyCtx T ["machine", "value", "times", "at", "slip"] "checked_heap" s_checked_heap f cdv A outer s H E 4 F fun _ => False) (fun _ : Unit => [some (.val d0), some (.val d1), none, none, none]) (defBody s_checked_heap) (fun (_ : Unit) _ => []) (fun (_ : Unit) _ => []) (fun _ => []) (m d0 d1)} := ⟨fun d0 d1 => _, fun T h f cdv A outer s H E F d0 d1 => (jb_if (fun (a1 : Unit) _ => [some (.val d0), some (.val d1), none, none, none]) (jt_not (jt_val (je_call (ce_is_sequence_1 h) (Nat.le_of_ble_eq_true rfl) (ja_cons (je_var 1 (f := fun _ => d1)) ja_nil)))) (jb_raise (h.er_InvalidSlip) je_int) (jb_nil (fun _ => ()) (fun _ => (SlotsLe.cons_same (SlotsLe.cons_same (SlotsLe.cons_none (SlotsLe.cons_none (SlotsLe.cons_none (SlotsLe.nil _))))))) (fun _ => Nat.le_of_ble_eq_true rfl)) (fun a1 => (jb_newK 2 (jb_for2 3 4 (fun (a2 : List (Key × D)) _ => [some (.val d0), some (.val d1), some (.owk a2), none, none]) (fun _ => []) (ji_enum (h.b_enumerate) (je_var 1 (f := fun _ => d1))) (fun _ => (SlotsLe.cons_same (SlotsLe.cons_same (SlotsLe.cons_same (SlotsLe.cons_none (SlotsLe.cons_none (SlotsLe.nil _))))))) (fun _ => Nat.le_of_ble_eq_true rfl) (fun v3 v4 a2 => (jb_if (fun (a5 : Unit) _ => [some (.val d0), some (.val d1), some (.owk a2), some (.val v3), some (.val v4)]) (jt_w (jw_or (jt_not (jt_val (je_call (ce_is_slip_2 h) (Nat.le_of_ble_eq_true rfl) (ja_cons (je_var 0 (f := fun _ => d0)) (ja_cons (je_var 4 (f := fun _ => v4)) ja_nil))))) (jw_or1 (jt_inK 2 (f := fun _ => a2) (je_ix (je_var 4 (f := fun _ => v4)) je_int))))) (jb_raise (h.er_InvalidSlip) (je_var 3 (f := fun _ => v3))) (jb_nil (fun _ => ()) (fun _ => (SlotsLe.cons_same (SlotsLe.cons_same (SlotsLe.cons_same (SlotsLe.cons_same (SlotsLe.cons_same (SlotsLe.nil _))))))) (fun _ => Nat.le_of_ble_eq_true rfl)) (fun a5 => (jb_putK 2 (f := fun _ => a2) je_bl (je_ix (je_var 4 (f := fun _ => v4)) je_int) (fun w6 => (jb_nil (fun _ => w6) (fun _ => (SlotsLe.cons_same (SlotsLe.cons_same (SlotsLe.cons_same (SlotsLe.cons_none (SlotsLe.cons_none (SlotsLe.nil _))))))) (fun _ => Nat.le_of_ble_eq_true rfl))))))) (fun a2 => (jb_ret (je_blt (h.b_tuple) cd_tuple (ja_cons (je_blt (h.b_sorted) cd_sorted (ja_cons (je_var 1 (f := fun _ => d1)) ja_nil)) ja_nil)) (fun _ => SlotsLe.nil _) (fun _ => Nat.le_of_ble_eq_true rfl)))))))⟩
noncomputable def m_checked_heap : List D → R D := fun ds => finish1 ((ar2 .bad fun d0 d1 => pk_checked_heap.1 d0 d1 ()) ds)
theorem ok_checked_heap {T : Txt} (h : Facts T) (f : Addr) (fd : FuncData) (F : Fun T.K "checked_heap" "checked_heap" s_checked_heap f fd) : FnG T.P T.w T.K T.mg T.base (L2.CX T.P T.w) 5 f fd ["machine", "value"] (SpD T 2 m_checked_heap) := fn_ok F sc_checked_heap (fun cdv A outer s H E G ds hl => match ds, hl with | [d0, d1], _ => pk_checked_heap.2 T h f cdv A outer s H E G d0 d1)
theorem ce_checked_heap_2 {T : Txt} (h : Facts T) : CalleeD T "checked_heap" 2 [] 5 (callM 2 0 [] m_checked_heap) := mk_calleeD (ps := ["machine", "value"]) (pm := []) h.d_checked_heap (fun f fd F => ok_checked_heap h f fd F) rfl (fun kV doc pmv an cdv ct us ws hl hw => match us, hl, ws, hw with | [_, _], _, [], _ => rfl)
theorem ce_checked_heap_0_value_machine {T : Txt} (h : Facts T) : CalleeD T "checked_heap" 0 ["value", "machine"] 5 (callM 0 2 [1, 0] m_checked_heap) := mk_calleeD (ps := ["machine", "value"]) (pm := [1, 0]) h.d_checked_heap (fun f fd F => ok_checked_heap h f fd F) rfl (fun kV doc pmv an cdv ct us ws hl hw => match us, hl, ws, hw with | [], _, [_, _], _ => rfl)
theorem sc_Machine_init : FnScope ["self", "commands", "steps", "state", "row", "to"] ["self", "commands", "steps"] (defScope s_Machine_init) := ⟨rfl, rfl, rfl, by decide +kernel, rfl, by decide +kernel, by decide +kernel⟩
noncomputable def pk_Machine_init : {m : D → D → Unit → R (Fl (List (Str × D)) Unit × Unit) // ∀ (T : Txt) (h : Facts T) (f : Addr) (cdv : Value) (A : Around) (outer : List Env) (s : Shared) (H : Hp) (E : XK) (F : Hp) (p dx : Addr) (d1 : D) (d2 : D), JB (bodyCtx T ["self", "commands", "steps", "state", "row", "to"] "Machine.__init__" s_Machine_init f cdv A outer s H E 3 F (fun a => a = p)) (fun _ : Unit => [some (.ins p dx "Machine" []), some (.val d1), some (.val d2), none, none, none]) (defBody s_Machine_init) (fun (a : List (Str × D)) _ => [some (.ins p dx "Machine" a)]) (fun (_ : Unit) _ => []) (fun _ => []) (m d1 d2)} := ⟨fun d1 d2 => _, fun T h f cdv A outer s H E F p dx d1 d2 => (jb_if (fun (a1 : Unit) _ => [some (.ins p dx "Machine" []), some (.val d1), some (.val d2), none, none, none]) (jt_w (jw_or (jt_not (jt_val (je_call (ce_is_number_1 h) (Nat.le_of_ble_eq_true rfl) (ja_cons (je_var 1 (f := fun _ => d1)) ja_nil)))) (jw_or1 (jt_cmp od_eq (je_var 1 (f := fun _ => d1)) je_int)))) (jb_raise (h.er_InvalidMachine) je_int) (jb_nil (fun _ => ()) (fun _ => (SlotsLe.cons_same (SlotsLe.cons_same (SlotsLe.cons_same (SlotsLe.cons_none (SlotsLe.cons_none (SlotsLe.cons_none (SlotsLe.nil _)))))))) (fun _ => Nat.le_of_ble_eq_true rfl)) (fun a1 => (jb_if (fun (a2 : Unit) _ => [some (.ins p dx "Machine" []), some (.val d1), some (.val d2), none, none, none]) (jt_w (jw_or (jt_not (jt_val (je_call (ce_is_sequence_1 h) (Nat.le_of_ble_eq_true rfl) (ja_cons (je_var 2 (f := fun _ => d2)) ja_nil)))) (jw_or1 (jt_cmp od_eq (je_blt (h.b_len) cd_len (ja_cons (je_var 2 (f := fun _ => d2)) ja_nil)) je_int)))) (jb_raise (h.er_InvalidMachine) je_int) (jb_nil (fun _ => ()) (fun _ => (SlotsLe.cons_same (SlotsLe.cons_same (SlotsLe.cons_same (SlotsLe.cons_none (SlotsLe.cons_none (SlotsLe.cons_none (SlotsLe.nil _)))))))) (fun _ => Nat.le_of_ble_eq_true rfl)) (fun a2 => (jb_for2 3 4 (fun (a3 : Unit) _ => [some (.ins p dx "Machine" []), some (.val d1), some (.val d2), none, none, none]) (fun _ => ()) (ji_enum (h.b_enumerate) (je_var 2 (f := fun _ => d2))) (fun _ => (SlotsLe.cons_same (SlotsLe.cons_same (SlotsLe.cons_same (SlotsLe.cons_none (SlotsLe.cons_none (SlotsLe.cons_none (SlotsLe.nil _)))))))) (fun _ => Nat.le_of_ble_eq_true rfl) (fun v4 v5 a3 => (jb_if (fun (a6 : Unit) _ => [some (.ins p dx "Machine" []), some (.val d1), some (.val d2), some (.val v4), some (.val v5), none]) (jt_w (jw_or (jt_not (jt_val (je_call (ce_is_sequence_1 h) (Nat.le_of_ble_eq_true rfl) (ja_cons (je_var 4 (f := fun _ => v5)) ja_nil)))) (jw_or (jt_cmp od_ne (je_blt (h.b_len) cd_len (ja_cons (je_var 4 (f := fun _ => v5)) ja_nil)) (je_var 1 (f := fun _ => d1))) (jw_or1 (jt_not (jt_val (je_blt (h.b_all) cd_all (ja_cons (je_ofL (jel_lc1 5 [("to", 5)] (ji_seq (je_var 4 (f := fun _ => v5))) (fun _ => jg_name 5) (fun _ v7 => jts_nil) (fun _ v7 => (je_call (ce_is_index_2 h) (Nat.le_of_ble_eq_true rfl) (ja_cons (je_var 5 (f := fun _ => v7)) (ja_cons (je_blt (h.b_len) cd_len (ja_cons (je_var 2 (f := fun _ => d2)) ja_nil)) ja_nil)))))) ja_nil)))))))) (jb_raise (h.er_InvalidMachine) (je_op od_add je_int (je_var 3 (f := fun _ => v4)))) (jb_nil (fun _ => ()) (fun _ => (SlotsLe.cons_same (SlotsLe.cons_same (SlotsLe.cons_same (SlotsLe.cons_same (SlotsLe.cons_same (SlotsLe.cons_none (SlotsLe.nil _)))))))) (fun _ => Nat.le_of_ble_eq_true rfl)) (fun a6 => (jb_nil (fun _ => ()) (fun _ => (SlotsLe.cons_same (SlotsLe.cons_same (SlotsLe.cons_same (SlotsLe.cons_none (SlotsLe.cons_none (SlotsLe.cons_none (SlotsLe.nil _)))))))) (fun _ => Nat.le_of_ble_eq_true rfl))))) (fun a3 => (jb_fld 0 (h.at_Machine_commands) (je_var 1 (f := fun _ => d1)) (by intro _; rfl) (fun _ => (Nat.lt_of_lt_of_le (Nat.zero_lt_one : ([] : List (Str × D)).length < 1) (Nat.le_of_ble_eq_true rfl))) (fun v8 => (jb_fld 0 (h.at_Machine_states) (je_blt (h.b_len) cd_len (ja_cons (je_var 2 (f := fun _ => d2)) ja_nil)) (by intro _; rfl) (fun _ => (Nat.lt_of_lt_of_le (lt_put (Nat.zero_lt_one : ([] : List (Str × D)).length < 1)) (Nat.le_of_ble_eq_true rfl))) (fun v9 => (jb_fld 0 (h.at_Machine_steps) (je_blt (h.b_tuple) cd_tuple (ja_cons (je_ofL (jel_lc1 4 [("row", 4)] (ji_seq (je_var 2 (f := fun _ => d2))) (fun _ => jg_name 4) (fun _ v10 => jts_nil) (fun _ v10 => (je_blt (h.b_tuple) cd_tuple (ja_cons (je_var 4 (f := fun _ => v10)) ja_nil))))) ja_nil)) (by intro _; rfl) (fun _ => (Nat.lt_of_lt_of_le (lt_put (lt_put (Nat.zero_lt_one : ([] : List (Str × D)).length < 1))) (Nat.le_of_ble_eq_true rfl))) (fun v11 => (jb_fld 0 (h.at_Machine__found) je_dct0 (by intro _; rfl) (fun _ => (Nat.lt_of_lt_of_le (lt_put (lt_put (lt_put (Nat.zero_lt_one : ([] : List (Str × D)).length < 1)))) (Nat.le_of_ble_eq_true rfl))) (fun v12 => (jb_nil (fun _ => (putD "_found" v12 (putD "steps" v11 (putD "states" v9 (putD "commands" v8 []))))) (fun _ => SlotsLe.cons_same (SlotsLe.nil _)) (fun _ => Nat.le_of_ble_eq_true rfl))))))))))))))))⟩
noncomputable def m_Machine_init : List D → R (List (Str × D)) := fun ds => finishI ((ar2 .bad fun d1 d2 => pk_Machine_init.1 d1 d2 ()) ds) id
theorem ok_Machine_init {T : Txt} (h : Facts T) (f : Addr) (fd : FuncData) (F : Fun T.K "__init__" "Machine.__init__" s_Machine_init f fd) : FnG T.P T.w T.K T.mg T.base (L2.CX T.P T.w) 4 f fd ["self", "commands", "steps"] (SpI T "Machine" 2 m_Machine_init) := fn_okI F sc_Machine_init (by decide) (fun cdv A outer s H E G p dx ds hl => match ds, hl with | [d1, d2], _ => pk_Machine_init.2 T h f cdv A outer s H E G p dx d1 d2)
theorem ce_Machine_init_2 {T : Txt} (h : Facts T) : CalleeI T "Machine" 2 [] 4 (callM 2 0 [] m_Machine_init) := mk_calleeI (ps := ["self", "commands", "steps"]) (pm := []) h.mk_Machine (fun f fd F => ok_Machine_init h f fd F) rfl (fun kV doc pmv an cdv ct us ws hl hw => match us, hl, ws, hw with | [_, _, _], _, [], _ => rfl)
theorem sc__law_heap : FnScope ["_law_deal", "_law_commands", "_law_many", "_law_time", "_law_found", "_law_turn"] ["_law_deal", "_law_commands", "_law_many"] (defScope s__law_heap) := ⟨rfl, rfl, rfl, by decide +kernel, rfl, by decide +kernel, by decide +kernel⟩
noncomputable def pk__law_heap : {m : D → D → Deal → R (Fl Unit Unit × Deal) // ∀ (T : Txt) (h : Facts T) (f : Addr) (cdv : Value) (A : Around) (outer : List Env) (s : Shared) (H : Hp) (E : XK) (F : Hp) (l1 l2 : Addr) (d1 : D) (d2 : D), JB (bodyCtx T ["_law_deal", "_law_commands", "_law_many", "_law_time", "_law_found", "_law_turn"] "_law_heap" s__law_heap f cdv A outer s H E 1 F (onDeal l1 l2)) (fun dl : Deal => [some (.deal l1 l2 dl.1 dl.2), some (.val d1), some (.val d2), none, none, none]) (defBody s__law_heap) (fun (_ : Unit) dl => [some (.deal l1 l2 dl.1 dl.2)]) (fun (_ : Unit) _ => []) (fun dl => [some (.deal l1 l2 dl.1 dl.2)]) (m d1 d2)} := ⟨fun d1 d2 => _, fun T h f cdv A outer s H E F l1 l2 d1 d2 => (jb_par2vl 3 4 (je_callL 0 (ce__law_any_1 h) (Nat.le_of_ble_eq_true rfl) (ja_cons je_int ja_nil)) (jel_lst ja_nil) (fun v1 w2 => (jb_for 5 (fun (a3 : D × List D) dl => [some (.deal l1 l2 dl.1 dl.2), some (.val d1), some (.val d2), some (.val a3.1), some (.own a3.2), none]) (fun _ => (v1, w2)) (ji_range1 (h.b_range) (je_var 2 (f := fun _ => d2))) (fun _ => (SlotsLe.cons_same (SlotsLe.cons_same (SlotsLe.cons_same (SlotsLe.cons_same (SlotsLe.cons_same (SlotsLe.cons_none (SlotsLe.nil _)))))))) (fun _ => Nat.le_of_ble_eq_true rfl) (fun v4 a3 => (jb_append 4 (f := fun _ => a3.2) (je_tup (ja_cons (je_var 3 (f := fun _ => a3.1)) (ja_cons (je_callL 0 (ce__law_any_1 h) (Nat.le_of_ble_eq_true rfl) (ja_cons (je_var 1 (f := fun _ => d1)) ja_nil)) ja_nil))) (fun w5 => (jb_set 3 (je_op od_add (je_op od_add (je_var 3 (f := fun _ => a3.1)) je_int) (je_callL 0 (ce__law_any_1 h) (Nat.le_of_ble_eq_true rfl) (ja_cons je_int ja_nil))) (fun v6 => (jb_nil (fun _ => (v6, w5)) (fun _ => (SlotsLe.cons_same (SlotsLe.cons_same (SlotsLe.cons_same (SlotsLe.cons_same (SlotsLe.cons_same (SlotsLe.cons_none (SlotsLe.nil _)))))))) (fun _ => Nat.le_of_ble_eq_true rfl))))))) (fun a3 => (jb_freeze 4 (f := fun _ => a3.2) (jb_ret (je_blt (h.b_tuple) cd_tuple (ja_cons (je_var 4 (f := fun _ => (.lst a3.2))) ja_nil)) (fun _ => SlotsLe.cons_same (SlotsLe.nil _)) (fun _ => Nat.le_of_ble_eq_true rfl)))))))⟩
noncomputable def m__law_heap : List D → Deal → R (D × Deal) := fun ds dl => finish (ar2 (fun _ => .bad) pk__law_heap.1 ds dl)
theorem ok__law_heap {T : Txt} (h : Facts T) (f : Addr) (fd : FuncData) (F : Fun T.K "_law_heap" "_law_heap" s__law_heap f fd) : FnG T.P T.w T.K T.mg T.base (L2.CX T.P T.w) 2 f fd ["_law_deal", "_law_commands", "_law_many"] (SpL T 2 m__law_heap) := fn_okL F sc__law_heap (by decide) (fun cdv A outer s H E G l1 l2 ds hl => match ds, hl with | [d1, d2], _ => pk__law_heap.2 T h f cdv A outer s H E G l1 l2 d1 d2)
theorem ce__law_heap_2 {T : Txt} (h : Facts T) : CalleeL T "_law_heap" 2 [] 2 (callL 2 0 [] m__law_heap) := mk_calleeL (ps := ["_law_deal", "_law_commands", "_law_many"]) (pm := []) h.d__law_heap (fun f fd F => ok__law_heap h f fd F) rfl (fun kV doc pmv an cdv ct us ws hl hw => match us, hl, ws, hw with | [_, _, _], _, [], _ => rfl)
theorem sc_checked_slip : FnScope ["machine", "value"] ["machine", "value"] (defScope s_checked_slip) := ⟨rfl, rfl, rfl, by decide +kernel, rfl, by decide +kernel, by decide +kernel⟩
noncomputable def pk_checked_slip : {m : D → D → Unit → R (Fl Unit Unit × Unit) // ∀ (T : Txt) (h : Facts T) (f : Addr) (cdv : Value) (A : Around) (outer : List Env) (s : Shared) (H : Hp) (E : XK) (F : Hp) (d0 : D) (d1 : D), JB (bodyCtx T ["machine", "value"] "checked_slip" s_checked_slip f cdv A outer s H E 4 F fun _ => False) (fun _ : Unit => [some (.val d0), some (.val d1)]) (defBody s_checked_slip) (fun (_ : Unit) _ => []) (fun (_ : Unit) _ => []) (fun _ => []) (m d0 d1)} := ⟨fun d0 d1 => _, fun T h f cdv A outer s H E F d0 d1 => (jb_if (fun (a1 : Unit) _ => [some (.val d0), some (.val d1)]) (jt_not (jt_val (je_call (ce_is_slip_2 h) (Nat.le_of_ble_eq_true rfl) (ja_cons (je_var 0 (f := fun _ => d0)) (ja_cons (je_var 1 (f := fun _ => d1)) ja_nil))))) (jb_raise (h.er_InvalidSlip) je_int) (jb_nil (fun _ => ()) (fun _ => (SlotsLe.cons_same (SlotsLe.cons_same (SlotsLe.nil _)))) (fun _ => Nat.le_of_ble_eq_true rfl)) (fun a1 => (jb_ret (je_var 1 (f := fun _ => d1)) (fun _ => SlotsLe.nil _) (fun _ => Nat.le_of_ble_eq_true rfl))))⟩
noncomputable def m_checked_slip : List D → R D := fun ds => finish1 ((ar2 .bad fun d0 d1 => pk_checked_slip.1 d0 d1 ()) ds)
theorem ok_checked_slip {T : Txt} (h : Facts T) (f : Addr) (fd : FuncData) (F : Fun T.K "checked_slip" "checked_slip" s_checked_slip f fd) : FnG T.P T.w T.K T.mg T.base (L2.CX T.P T.w) 5 f fd ["machine", "value"] (SpD T 2 m_checked_slip) := fn_ok F sc_checked_slip (fun cdv A outer s H E G ds hl => match ds, hl with | [d0, d1], _ => pk_checked_slip.2 T h f cdv A outer s H E G d0 d1)
theorem ce_checked_slip_2 {T : Txt} (h : Facts T) : CalleeD T "checked_slip" 2 [] 5 (callM 2 0 [] m_checked_slip) := mk_calleeD (ps := ["machine", "value"]) (pm := []) h.d_checked_slip (fun f fd F => ok_checked_slip h f fd F) rfl (fun kV doc pmv an cdv ct us ws hl hw => match us, hl, ws, hw with | [_, _], _, [], _ => rfl)
theorem ce_checked_slip_0_value_machine {T : Txt} (h : Facts T) : CalleeD T "checked_slip" 0 ["value", "machine"] 5 (callM 0 2 [1, 0] m_checked_slip) := mk_calleeD (ps := ["machine", "value"]) (pm := [1, 0]) h.d_checked_slip (fun f fd F => ok_checked_slip h f fd F) rfl (fun kV doc pmv an cdv ct us ws hl hw => match us, hl, ws, hw with | [], _, [_, _], _ => rfl)
theorem sc_put_in : FnScope ["machine", "heap", "slip", "some", "late", "time", "command"] ["machine", "heap", "slip"] (defScope s_put_in) := ⟨rfl, rfl, rfl, by decide +kernel, rfl, by decide +kernel, by decide +kernel⟩
noncomputable def pk_put_in : {m : D → D → D → Unit → R (Fl Unit Unit × Unit) // ∀ (T : Txt) (h : Facts T) (f : Addr) (cdv : Value) (A : Around) (outer : List Env) (s : Shared) (H : Hp) (E : XK) (F : Hp) (d0 : D) (d1 : D) (d2 : D), JB (bodyCtx T ["machine", "heap", "slip", "some", "late", "time", "command"] "put_in" s_put_in f cdv A outer s H E 5 F fun _ => False) (fun _ : Unit => [some (.val d0), some (.val d1), some (.val d2), none, none, none, none]) (defBody s_put_in) (fun (_ : Unit) _ => []) (fun (_ : Unit) _ => []) (fun _ => []) (m d0 d1 d2)} := ⟨fun d0 d1 d2 => _, fun T h f cdv A outer s H E F d0 d1 d2 => (jb_par2 3 4 (ja_cons (je_call (ce_checked_heap_2 h) (Nat.le_of_ble_eq_true rfl) (ja_cons (je_var 0 (f := fun _ => d0)) (ja_cons (je_var 1 (f := fun _ => d1)) ja_nil))) (ja_cons (je_call (ce_checked_slip_2 h) (Nat.le_of_ble_eq_true rfl) (ja_cons (je_var 0 (f := fun _ => d0)) (ja_cons (je_var 2 (f := fun _ => d2)) ja_nil))) ja_nil)) (fun v1 v2 => (jb_if (fun (a3 : Unit) _ => [some (.val d0), some (.val d1), some (.val d2), some (.val v1), some (.val v2), none, none]) (jt_cmp od_in (je_ix (je_var 4 (f := fun _ => v2)) je_int) (je_ofL (jel_lc2 5 6 [("time", 5), ("command", 6)] (ji_seq (je_var 3 (f := fun _ => v1))) (fun _ => jg_tup (jgs_cons 5 (jgs_cons 6 jgs_nil))) (fun _ v4 v5 => jts_nil) (fun _ v4 v5 => (je_var 5 (f := fun _ => v4)))))) (jb_raise (h.er_Refused) je_int) (jb_nil (fun _ => ()) (fun _ => (SlotsLe.cons_same (SlotsLe.cons_same (SlotsLe.cons_same (SlotsLe.cons_same (SlotsLe.cons_same (SlotsLe.cons_none (SlotsLe.cons_none (SlotsLe.nil _))))))))) (fun _ => Nat.le_of_ble_eq_true rfl)) (fun a3 => (jb_ret (je_blt (h.b_tuple) cd_tuple (ja_cons (je_blt (h.b_sorted) cd_sorted (ja_cons (je_lst (ja_star (je_var 3 (f := fun _ => v1)) (ja_cons (je_var 4 (f := fun _ => v2)) ja_nil))) ja_nil)) ja_nil)) (fun _ => SlotsLe.nil _) (fun _ => Nat.le_of_ble_eq_true rfl))))))⟩
noncomputable def m_put_in : List D → R D := fun ds => finish1 ((ar3 .bad fun d0 d1 d2 => pk_put_in.1 d0 d1 d2 ()) ds)
theorem ok_put_in {T : Txt} (h : Facts T) (f : Addr) (fd : FuncData) (F : Fun T.K "put_in" "put_in" s_put_in f fd) : FnG T.P T.w T.K T.mg T.base (L2.CX T.P T.w) 6 f fd ["machine", "heap", "slip"] (SpD T 3 m_put_in) := fn_ok F sc_put_in (fun cdv A outer s H E G ds hl => match ds, hl with | [d0, d1, d2], _ => pk_put_in.2 T h f cdv A outer s H E G d0 d1 d2)
theorem ce_put_in_0_slip_heap_machine {T : Txt} (h : Facts T) : CalleeD T "put_in" 0 ["slip", "heap", "machine"] 6 (callM 0 3 [2, 1, 0] m_put_in) := mk_calleeD (ps := ["machine", "heap", "slip"]) (pm := [2, 1, 0]) h.d_put_in (fun f fd F => ok_put_in h f fd F) rfl (fun kV doc pmv an cdv ct us ws hl hw => match us, hl, ws, hw with | [], _, [_, _, _], _ => rfl)
theorem ce_put_in_3 {T : Txt} (h : Facts T) : CalleeD T "put_in" 3 [] 6 (callM 3 0 [] m_put_in) := mk_calleeD (ps := ["machine", "heap", "slip"]) (pm := []) h.d_put_in (fun f fd F => ok_put_in h f fd F) rfl (fun kV doc pmv an cdv ct us ws hl hw => match us, hl, ws, hw with | [_, _, _], _, [], _ => rfl)
theorem sc__law_bad_slip : FnScope ["_law_deal", "_law_commands", "_law_odd"] ["_law_deal", "_law_commands"] (defScope s__law_bad_slip) := ⟨rfl, rfl, rfl, by decide +kernel, rfl, by decide +kernel, by decide +kernel⟩
noncomputable def pk__law_bad_slip : {m : D → Deal → R (Fl Unit Unit × Deal) // ∀ (T : Txt) (h : Facts T) (f : Addr) (cdv : Value) (A : Around) (outer : List Env) (s : Shared) (H : Hp) (E : XK) (F : Hp) (l1 l2 : Addr) (d1 : D), JB (bodyCtx T ["_law_deal", "_law_commands", "_law_odd"] "_law_bad_slip" s__law_bad_slip f cdv A outer s H E 2 F (onDeal l1 l2)) (fun dl : Deal => [some (.deal l1 l2 dl.1 dl.2), some (.val d1), none]) (defBody s__law_bad_slip) (fun (_ : Unit) dl => [some (.deal l1 l2 dl.1 dl.2)]) (fun (_ : Unit) _ => []) (fun dl => [some (.deal l1 l2 dl.1 dl.2)]) (m d1)} := ⟨fun d1 => _, fun T h f cdv A outer s H E F l1 l2 d1 => (jb_set 2 (je_lst (ja_cons (je_lst (ja_cons je_int (ja_cons je_int ja_nil))) (ja_cons (je_tup (ja_cons je_int ja_nil)) (ja_cons (je_tup (ja_cons je_int (ja_cons je_int (ja_cons je_int ja_nil)))) (ja_cons je_non (ja_cons (je_tup (ja_cons (je_neg je_int) (ja_cons je_int ja_nil))) (ja_cons (je_tup (ja_cons je_bl (ja_cons je_int ja_nil))) (ja_cons (je_tup (ja_cons je_int (ja_cons (je_var 1 (f := fun _ => d1)) ja_nil))) (ja_cons (je_tup (ja_cons je_int (ja_cons je_bl ja_nil))) (ja_cons (je_tup (ja_cons je_str (ja_cons je_int ja_nil))) (ja_cons (je_tup (ja_cons je_int (ja_cons je_non ja_nil))) ja_nil))))))))))) (fun v1 => (jb_ret (je_callL 0 (ce__law_of_1 h) (Nat.le_of_ble_eq_true rfl) (ja_cons (je_var 2 (f := fun _ => v1)) ja_nil)) (fun _ => SlotsLe.cons_same (SlotsLe.nil _)) (fun _ => Nat.le_of_ble_eq_true rfl))))⟩
noncomputable def m__law_bad_slip : List D → Deal → R (D × Deal) := fun ds dl => finish (ar1 (fun _ => .bad) pk__law_bad_slip.1 ds dl)
theorem ok__law_bad_slip {T : Txt} (h : Facts T) (f : Addr) (fd : FuncData) (F : Fun T.K "_law_bad_slip" "_law_bad_slip" s__law_bad_slip f fd) : FnG T.P T.w T.K T.mg T.base (L2.CX T.P T.w) 3 f fd ["_law_deal", "_law_commands"] (SpL T 1 m__law_bad_slip) := fn_okL F sc__law_bad_slip (by decide) (fun cdv A outer s H E G l1 l2 ds hl => match ds, hl with | [d1], _ => pk__law_bad_slip.2 T h f cdv A outer s H E G l1 l2 d1)
theorem ce__law_bad_slip_1 {T : Txt} (h : Facts T) : CalleeL T "_law_bad_slip" 1 [] 3 (callL 1 0 [] m__law_bad_slip) := mk_calleeL (ps := ["_law_deal", "_law_commands"]) (pm := []) h.d__law_bad_slip (fun f fd F => ok__law_bad_slip h f fd F) rfl (fun kV doc pmv an cdv ct us ws hl hw => match us, hl, ws, hw with | [_, _], _, [], _ => rfl)
theorem sc_row_of : FnScope ["machine", "heap", "time", "command"] ["machine", "heap"] (defScope s_row_of) := ⟨rfl, rfl, rfl, by decide +kernel, rfl, by decide +kernel, by decide +kernel⟩
noncomputable def pk_row_of : {m : D → D → Unit → R (Fl Unit Unit × Unit) // ∀ (T : Txt) (h : Facts T) (f : Addr) (cdv : Value) (A : Around) (outer : List Env) (s : Shared) (H : Hp) (E : XK) (F : Hp) (d0 : D) (d1 : D), JB (bodyCtx T ["machine", "heap", "time", "command"] "row_of" s_row_of f cdv A outer s H E 5 F fun _ => False) (fun _ : Unit => [some (.val d0), some (.val d1), none, none]) (defBody s_row_of) (fun (_ : Unit) _ => []) (fun (_ : Unit) _ => []) (fun _ => []) (m d0 d1)} := ⟨fun d0 d1 => _, fun T h f cdv A outer s H E F d0 d1 => (jb_ret (je_blt (h.b_tuple) cd_tuple (ja_cons (je_ofL (jel_lc2 2 3 [("time", 2), ("command", 3)] (ji_seq (je_call (ce_checked_heap_2 h) (Nat.le_of_ble_eq_true rfl) (ja_cons (je_var 0 (f := fun _ => d0)) (ja_cons (je_var 1 (f := fun _ => d1)) ja_nil)))) (fun _ => jg_tup (jgs_cons 2 (jgs_cons 3 jgs_nil))) (fun _ v1 v2 => jts_nil) (fun _ v1 v2 => (je_var 3 (f := fun _ => v2))))) ja_nil)) (fun _ => SlotsLe.nil _) (fun _ => Nat.le_of_ble_eq_true rfl))⟩
noncomputable def m_row_of : List D → R D := fun ds => finish1 ((ar2 .bad fun d0 d1 => pk_row_of.1 d0 d1 ()) ds)
theorem ok_row_of {T : Txt} (h : Facts T) (f : Addr) (fd : FuncData) (F : Fun T.K "row_of" "row_of" s_row_of f fd) : FnG T.P T.w T.K T.mg T.base (L2.CX T.P T.w) 6 f fd ["machine", "heap"] (SpD T 2 m_row_of) := fn_ok F sc_row_of (fun cdv A outer s H E G ds hl => match ds, hl with | [d0, d1], _ => pk_row_of.2 T h f cdv A outer s H E G d0 d1)
theorem ce_row_of_2 {T : Txt} (h : Facts T) : CalleeD T "row_of" 2 [] 6 (callM 2 0 [] m_row_of) := mk_calleeD (ps := ["machine", "heap"]) (pm := []) h.d_row_of (fun f fd F => ok_row_of h f fd F) rfl (fun kV doc pmv an cdv ct us ws hl hw => match us, hl, ws, hw with | [_, _], _, [], _ => rfl)
theorem ce_row_of_0_heap_machine {T : Txt} (h : Facts T) : CalleeD T "row_of" 0 ["heap", "machine"] 6 (callM 0 2 [1, 0] m_row_of) := mk_calleeD (ps := ["machine", "heap"]) (pm := [1, 0]) h.d_row_of (fun f fd F => ok_row_of h f fd F) rfl (fun kV doc pmv an cdv ct us ws hl hw => match us, hl, ws, hw with | [], _, [_, _], _ => rfl)
theorem sc_led : FnScope ["machine", "state", "row", "command"] ["machine", "state", "row"] (defScope s_led) := ⟨rfl, rfl, rfl, by decide +kernel, rfl, by decide +kernel, by decide +kernel⟩
noncomputable def pk_led : {m : D → D → D → Unit → R (Fl Unit Unit × Unit) // ∀ (T : Txt) (h : Facts T) (f : Addr) (cdv : Value) (A : Around) (outer : List Env) (s : Shared) (H : Hp) (E : XK) (F : Hp) (d0 : D) (d1 : D) (d2 : D), JB (bodyCtx T ["machine", "state", "row", "command"] "led" s_led f cdv A outer s H E 0 F fun _ => False) (fun _ : Unit => [some (.val d0), some (.val d1), some (.val d2), none]) (defBody s_led) (fun (_ : Unit) _ => []) (fun (_ : Unit) _ => []) (fun _ => []) (m d0 d1 d2)} := ⟨fun d0 d1 d2 => _, fun T h f cdv A outer s H E F d0 d1 d2 => (jb_for 3 (fun (a1 : D) _ => [some (.val d0), some (.val a1), some (.val d2), none]) (fun _ => d1) (ji_seq (je_var 2 (f := fun _ => d2))) (fun _ => (SlotsLe.cons_same (SlotsLe.cons_same (SlotsLe.cons_same (SlotsLe.cons_none (SlotsLe.nil _)))))) (fun _ => Nat.le_of_ble_eq_true rfl) (fun v2 a1 => (jb_set 1 (je_ix (je_ix (je_attr "Machine" (h.at_Machine_steps) (je_var 0 (f := fun _ => d0))) (je_var 1 (f := fun _ => a1))) (je_var 3 (f := fun _ => v2))) (fun v3 => (jb_nil (fun _ => v3) (fun _ => (SlotsLe.cons_same (SlotsLe.cons_same (SlotsLe.cons_same (SlotsLe.cons_none (SlotsLe.nil _)))))) (fun _ => Nat.le_of_ble_eq_true rfl))))) (fun a1 => (jb_ret (je_var 1 (f := fun _ => a1)) (fun _ => SlotsLe.nil _) (fun _ => Nat.le_of_ble_eq_true rfl))))⟩
noncomputable def m_led : List D → R D := fun ds => finish1 ((ar3 .bad fun d0 d1 d2 => pk_led.1 d0 d1 d2 ()) ds)
theorem ok_led {T : Txt} (h : Facts T) (f : Addr) (fd : FuncData) (F : Fun T.K "led" "led" s_led f fd) : FnG T.P T.w T.K T.mg T.base (L2.CX T.P T.w) 1 f fd ["machine", "state", "row"] (SpD T 3 m_led) := fn_ok F sc_led (fun cdv A outer s H E G ds hl => match ds, hl with | [d0, d1, d2], _ => pk_led.2 T h f cdv A outer s H E G d0 d1 d2)
theorem ce_led_3 {T : Txt} (h : Facts T) : CalleeD T "led" 3 [] 1 (callM 3 0 [] m_led) := mk_calleeD (ps := ["machine", "state", "row"]) (pm := []) h.d_led (fun f fd F => ok_led h f fd F) rfl (fun kV doc pmv an cdv ct us ws hl hw => match us, hl, ws, hw with | [_, _, _], _, [], _ => rfl)
theorem sc_truth : FnScope ["machine", "state", "heap"] ["machine", "state", "heap"] (defScope s_truth) := ⟨rfl, rfl, rfl, by decide +kernel, rfl, by decide +kernel, by decide +kernel⟩
noncomputable def pk_truth : {m : D → D → D → Unit → R (Fl Unit Unit × Unit) // ∀ (T : Txt) (h : Facts T) (f : Addr) (cdv : Value) (A : Around) (outer : List Env) (s : Shared) (H : Hp) (E : XK) (F : Hp) (d0 : D) (d1 : D) (d2 : D), JB (bodyCtx T ["machine", "state", "heap"] "truth" s_truth f cdv A outer s H E 6 F fun _ => False) (fun _ : Unit => [some (.val d0), some (.val d1), some (.val d2)]) (defBody s_truth) (fun (_ : Unit) _ => []) (fun (_ : Unit) _ => []) (fun _ => []) (m d0 d1 d2)} := ⟨fun d0 d1 d2 => _, fun T h f cdv A outer s H E F d0 d1 d2 => (jb_if (fun (a1 : Unit) _ => [some (.val d0), some (.val d1), some (.val d2)]) (jt_not (jt_val (je_call (ce_is_index_2 h) (Nat.le_of_ble_eq_true rfl) (ja_cons (je_var 1 (f := fun _ => d1)) (ja_cons (je_attr "Machine" (h.at_Machine_states) (je_var 0 (f := fun _ => d0))) ja_nil))))) (jb_raise (h.er_Refused) je_int) (jb_nil (fun _ => ()) (fun _ => (SlotsLe.cons_same (SlotsLe.cons_same (SlotsLe.cons_same (SlotsLe.nil _))))) (fun _ => Nat.le_of_ble_eq_true rfl)) (fun a1 => (jb_ret (je_call (ce_led_3 h) (Nat.le_of_ble_eq_true rfl) (ja_cons (je_var 0 (f := fun _ => d0)) (ja_cons (je_var 1 (f := fun _ => d1)) (ja_cons (je_call (ce_row_of_2 h) (Nat.le_of_ble_eq_true rfl) (ja_cons (je_var 0 (f := fun _ => d0)) (ja_cons (je_var 2 (f := fun _ => d2)) ja_nil))) ja_nil)))) (fun _ => SlotsLe.nil _) (fun _ => Nat.le_of_ble_eq_true rfl))))⟩
noncomputable def m_truth : List D → R D := fun ds => finish1 ((ar3 .bad fun d0 d1 d2 => pk_truth.1 d0 d1 d2 ()) ds)
theorem ok_truth {T : Txt} (h : Facts T) (f : Addr) (fd : FuncData) (F : Fun T.K "truth" "truth" s_truth f fd) : FnG T.P T.w T.K T.mg T.base (L2.CX T.P T.w) 7 f fd ["machine", "state", "heap"] (SpD T 3 m_truth) := fn_ok F sc_truth (fun cdv A outer s H E G ds hl => match ds, hl with | [d0, d1, d2], _ => pk_truth.2 T h f cdv A outer s H E G d0 d1 d2)
theorem ce_truth_0_heap_state_machine {T : Txt} (h : Facts T) : CalleeD T "truth" 0 ["heap", "state", "machine"] 7 (callM 0 3 [2, 1, 0] m_truth) := mk_calleeD (ps := ["machine", "state", "heap"]) (pm := [2, 1, 0]) h.d_truth (fun f fd F => ok_truth h f fd F) rfl (fun kV doc pmv an cdv ct us ws hl hw => match us, hl, ws, hw with | [], _, [_, _, _], _ => rfl)
theorem sc__law_asked : FnScope ["_law_machine_here", "_law_form", "_law_heap_here", "_law_other", "wrong"] ["_law_machine_here", "_law_form", "_law_heap_here", "_law_other"] (defScope s__law_asked) := ⟨rfl, rfl, rfl, by decide +kernel, rfl, by decide +kernel, by decide +kernel⟩
noncomputable def pk__law_asked : {m : D → D → D → D → Unit → R (Fl Unit Unit × Unit) // ∀ (T : Txt) (h : Facts T) (f : Addr) (cdv : Value) (A : Around) (outer : List Env) (s : Shared) (H : Hp) (E : XK) (F : Hp) (d0 : D) (d1 : D) (d2 : D) (d3 : D), JB (bodyCtx T ["_law_machine_here", "_law_form", "_law_heap_here", "_law_other", "wrong"] "_law_asked" s__law_asked f cdv A outer s H E 7 F fun _ => False) (fun _ : Unit => [some (.val d0), some (.val d1), some (.val d2), some (.val d3), none]) (defBody s__law_asked) (fun (_ : Unit) _ => []) (fun (_ : Unit) _ => []) (fun _ => []) (m d0 d1 d2 d3)} := ⟨fun d0 d1 d2 d3 => _, fun T h f cdv A outer s H E F d0 d1 d2 d3 => (jb_try (fun _ => [some (.val d0), some (.val d1), some (.val d2), some (.val d3), none]) (fun (a1 : Unit) _ => [some (.val d0), some (.val d1), some (.val d2), some (.val d3), none]) (fun _ _ _ _ _ _ => (jb_if (fun (a2 : Unit) _ => [some (.val d0), some (.val d1), some (.val d2), some (.val d3), none]) (jt_cmp od_eq (je_var 1 (f := fun _ => d1)) je_int) (jb_ret (je_callKw0 (ce_checked_heap_0_value_machine h) (Nat.le_of_ble_eq_true rfl) (jkw_cons (je_var 2 (f := fun _ => d2)) (jkw_cons (je_var 0 (f := fun _ => d0)) jkw_nil)) (hle := fun _ => ⟨(SlotsLe.cons_same (SlotsLe.cons_same (SlotsLe.cons_same (SlotsLe.cons_same (SlotsLe.cons_none (SlotsLe.nil _)))))), Nat.le_of_ble_eq_true rfl⟩)) (fun _ => SlotsLe.nil _) (fun _ => Nat.le_of_ble_eq_true rfl)) (jb_nil (fun _ => ()) (fun _ => (SlotsLe.cons_same (SlotsLe.cons_same (SlotsLe.cons_same (SlotsLe.cons_same (SlotsLe.cons_none (SlotsLe.nil _))))))) (fun _ => Nat.le_of_ble_eq_true rfl)) (fun a2 => (jb_if (fun (a3 : Unit) _ => [some (.val d0), some (.val d1), some (.val d2), some (.val d3), none]) (jt_cmp od_eq (je_var 1 (f := fun _ => d1)) je_int) (jb_ret (je_callKw0 (ce_put_in_0_slip_heap_machine h) (Nat.le_of_ble_eq_true rfl) (jkw_cons (je_var 3 (f := fun _ => d3)) (jkw_cons (je_var 2 (f := fun _ => d2)) (jkw_cons (je_var 0 (f := fun _ => d0)) jkw_nil))) (hle := fun _ => ⟨(SlotsLe.cons_same (SlotsLe.cons_same (SlotsLe.cons_same (SlotsLe.cons_same (SlotsLe.cons_none (SlotsLe.nil _)))))), Nat.le_of_ble_eq_true rfl⟩)) (fun _ => SlotsLe.nil _) (fun _ => Nat.le_of_ble_eq_true rfl)) (jb_nil (fun _ => ()) (fun _ => (SlotsLe.cons_same (SlotsLe.cons_same (SlotsLe.cons_same (SlotsLe.cons_same (SlotsLe.cons_none (SlotsLe.nil _))))))) (fun _ => Nat.le_of_ble_eq_true rfl)) (fun a3 => (jb_if (fun (a4 : Unit) _ => [some (.val d0), some (.val d1), some (.val d2), some (.val d3), none]) (jt_cmp od_eq (je_var 1 (f := fun _ => d1)) je_int) (jb_ret (je_callKw0 (ce_row_of_0_heap_machine h) (Nat.le_of_ble_eq_true rfl) (jkw_cons (je_var 2 (f := fun _ => d2)) (jkw_cons (je_var 0 (f := fun _ => d0)) jkw_nil)) (hle := fun _ => ⟨(SlotsLe.cons_same (SlotsLe.cons_same (SlotsLe.cons_same (SlotsLe.cons_same (SlotsLe.cons_none (SlotsLe.nil _)))))), Nat.le_of_ble_eq_true rfl⟩)) (fun _ => SlotsLe.nil _) (fun _ => Nat.le_of_ble_eq_true rfl)) (jb_nil (fun _ => ()) (fun _ => (SlotsLe.cons_same (SlotsLe.cons_same (SlotsLe.cons_same (SlotsLe.cons_same (SlotsLe.cons_none (SlotsLe.nil _))))))) (fun _ => Nat.le_of_ble_eq_true rfl)) (fun a4 => (jb_ret (je_if (jt_cmp od_eq (je_var 1 (f := fun _ => d1)) je_int) (je_callKw0 (ce_truth_0_heap_state_machine h) (Nat.le_of_ble_eq_true rfl) (jkw_cons (je_var 2 (f := fun _ => d2)) (jkw_cons (je_var 3 (f := fun _ => d3)) (jkw_cons (je_var 0 (f := fun _ => d0)) jkw_nil))) (hle := fun _ => ⟨(SlotsLe.cons_same (SlotsLe.cons_same (SlotsLe.cons_same (SlotsLe.cons_same (SlotsLe.cons_none (SlotsLe.nil _)))))), Nat.le_of_ble_eq_true rfl⟩)) (je_callKw0 (ce_checked_slip_0_value_machine h) (Nat.le_of_ble_eq_true rfl) (jkw_cons (je_var 3 (f := fun _ => d3)) (jkw_cons (je_var 0 (f := fun _ => d0)) jkw_nil)) (hle := fun _ => ⟨(SlotsLe.cons_same (SlotsLe.cons_same (SlotsLe.cons_same (SlotsLe.cons_same (SlotsLe.cons_none (SlotsLe.nil _)))))), Nat.le_of_ble_eq_true rfl⟩))) (fun _ => SlotsLe.nil _) (fun _ => Nat.le_of_ble_eq_true rfl))))))))) (fun _ => (jh_as 4 (h.ex_InvalidSlip) (fun _ _ _ _ _ _ he hz hf => (jb_ret (je_tup (ja_cons je_str (ja_cons (je_at 4 he hz hf) ja_nil))) (fun _ => SlotsLe.nil _) (fun _ => Nat.le_of_ble_eq_true rfl))) (by intro _; rfl) (by intro _; rfl) (jh_as 4 (h.ex_Refused) (fun _ _ _ _ _ _ he hz hf => (jb_ret (je_tup (ja_cons je_str (ja_cons (je_at 4 he hz hf) ja_nil))) (fun _ => SlotsLe.nil _) (fun _ => Nat.le_of_ble_eq_true rfl))) (by intro _; rfl) (by intro _; rfl) (jh_nil (SlotsLe.nil _) (Nat.zero_le _))))) (fun a1 => (jb_nil (fun _ => ()) (fun _ => SlotsLe.nil _) (fun _ => Nat.zero_le _))))⟩
noncomputable def m__law_asked : List D → R D := fun ds => finish1 ((ar4 .bad fun d0 d1 d2 d3 => pk__law_asked.1 d0 d1 d2 d3 ()) ds)
theorem ok__law_asked {T : Txt} (h : Facts T) (f : Addr) (fd : FuncData) (F : Fun T.K "_law_asked" "_law_asked" s__law_asked f fd) : FnG T.P T.w T.K T.mg T.base (L2.CX T.P T.w) 8 f fd ["_law_machine_here", "_law_form", "_law_heap_here", "_law_other"] (SpD T 4 m__law_asked) := fn_ok F sc__law_asked (fun cdv A outer s H E G ds hl => match ds, hl with | [d0, d1, d2, d3], _ => pk__law_asked.2 T h f cdv A outer s H E G d0 d1 d2 d3)
theorem ce__law_asked_4 {T : Txt} (h : Facts T) : CalleeD T "_law_asked" 4 [] 8 (callM 4 0 [] m__law_asked) := mk_calleeD (ps := ["_law_machine_here", "_law_form", "_law_heap_here", "_law_other"]) (pm := []) h.d__law_asked (fun f fd F => ok__law_asked h f fd F) rfl (fun kV doc pmv an cdv ct us ws hl hw => match us, hl, ws, hw with | [_, _, _, _], _, [], _ => rfl)
theorem sc__law_led : FnScope ["_law_steps", "_law_state", "_law_row", "_law_command"] ["_law_steps", "_law_state", "_law_row"] (defScope s__law_led) := ⟨rfl, rfl, rfl, by decide +kernel, rfl, by decide +kernel, by decide +kernel⟩
noncomputable def pk__law_led : {m : D → D → D → Unit → R (Fl Unit Unit × Unit) // ∀ (T : Txt) (h : Facts T) (f : Addr) (cdv : Value) (A : Around) (outer : List Env) (s : Shared) (H : Hp) (E : XK) (F : Hp) (d0 : D) (d1 : D) (d2 : D), JB (bodyCtx T ["_law_steps", "_law_state", "_law_row", "_law_command"] "_law_led" s__law_led f cdv A outer s H E 0 F fun _ => False) (fun _ : Unit => [some (.val d0), some (.val d1), some (.val d2), none]) (defBody s__law_led) (fun (_ : Unit) _ => []) (fun (_ : Unit) _ => []) (fun _ => []) (m d0 d1 d2)} := ⟨fun d0 d1 d2 => _, fun T h f cdv A outer s H E F d0 d1 d2 => (jb_for 3 (fun (a1 : D) _ => [some (.val d0), some (.val a1), some (.val d2), none]) (fun _ => d1) (ji_seq (je_var 2 (f := fun _ => d2))) (fun _ => (SlotsLe.cons_same (SlotsLe.cons_same (SlotsLe.cons_same (SlotsLe.cons_none (SlotsLe.nil _)))))) (fun _ => Nat.le_of_ble_eq_true rfl) (fun v2 a1 => (jb_set 1 (je_ix (je_ix (je_var 0 (f := fun _ => d0)) (je_var 1 (f := fun _ => a1))) (je_var 3 (f := fun _ => v2))) (fun v3 => (jb_nil (fun _ => v3) (fun _ => (SlotsLe.cons_same (SlotsLe.cons_same (SlotsLe.cons_same (SlotsLe.cons_none (SlotsLe.nil _)))))) (fun _ => Nat.le_of_ble_eq_true rfl))))) (fun a1 => (jb_ret (je_var 1 (f := fun _ => a1)) (fun _ => SlotsLe.nil _) (fun _ => Nat.le_of_ble_eq_true rfl))))⟩
noncomputable def m__law_led : List D → R D := fun ds => finish1 ((ar3 .bad fun d0 d1 d2 => pk__law_led.1 d0 d1 d2 ()) ds)
theorem ok__law_led {T : Txt} (h : Facts T) (f : Addr) (fd : FuncData) (F : Fun T.K "_law_led" "_law_led" s__law_led f fd) : FnG T.P T.w T.K T.mg T.base (L2.CX T.P T.w) 1 f fd ["_law_steps", "_law_state", "_law_row"] (SpD T 3 m__law_led) := fn_ok F sc__law_led (fun cdv A outer s H E G ds hl => match ds, hl with | [d0, d1, d2], _ => pk__law_led.2 T h f cdv A outer s H E G d0 d1 d2)
theorem ce__law_led_3 {T : Txt} (h : Facts T) : CalleeD T "_law_led" 3 [] 1 (callM 3 0 [] m__law_led) := mk_calleeD (ps := ["_law_steps", "_law_state", "_law_row"]) (pm := []) h.d__law_led (fun f fd F => ok__law_led h f fd F) rfl (fun kV doc pmv an cdv ct us ws hl hw => match us, hl, ws, hw with | [_, _, _], _, [], _ => rfl)
theorem sc_since : FnScope ["machine", "heap", "time", "slip"] ["machine", "heap", "time"] (defScope s_since) := ⟨rfl, rfl, rfl, by decide +kernel, rfl, by decide +kernel, by decide +kernel⟩
noncomputable def pk_since : {m : D → D → D → Unit → R (Fl Unit Unit × Unit) // ∀ (T : Txt) (h : Facts T) (f : Addr) (cdv : Value) (A : Around) (outer : List Env) (s : Shared) (H : Hp) (E : XK) (F : Hp) (d0 : D) (d1 : D) (d2 : D), JB (bodyCtx T ["machine", "heap", "time", "slip"] "since" s_since f cdv A outer s H E 5 F fun _ => False) (fun _ : Unit => [some (.val d0), some (.val d1), some (.val d2), none]) (defBody s_since) (fun (_ : Unit) _ => []) (fun (_ : Unit) _ => []) (fun _ => []) (m d0 d1 d2)} := ⟨fun d0 d1 d2 => _, fun T h f cdv A outer s H E F d0 d1 d2 => (jb_ret (je_blt (h.b_tuple) cd_tuple (ja_cons (je_ofL (jel_lc1 3 [("slip", 3)] (ji_seq (je_call (ce_checked_heap_2 h) (Nat.le_of_ble_eq_true rfl) (ja_cons (je_var 0 (f := fun _ => d0)) (ja_cons (je_var 1 (f := fun _ => d1)) ja_nil)))) (fun _ => jg_name 3) (fun _ v1 => (jts_one (jt_cmp od_gt (je_ix (je_var 3 (f := fun _ => v1)) je_int) (je_var 2 (f := fun _ => d2))))) (fun _ v1 => (je_var 3 (f := fun _ => v1))))) ja_nil)) (fun _ => SlotsLe.nil _) (fun _ => Nat.le_of_ble_eq_true rfl))⟩
noncomputable def m_since : List D → R D := fun ds => finish1 ((ar3 .bad fun d0 d1 d2 => pk_since.1 d0 d1 d2 ()) ds)
theorem ok_since {T : Txt} (h : Facts T) (f : Addr) (fd : FuncData) (F : Fun T.K "since" "since" s_since f fd) : FnG T.P T.w T.K T.mg T.base (L2.CX T.P T.w) 6 f fd ["machine", "heap", "time"] (SpD T 3 m_since) := fn_ok F sc_since (fun cdv A outer s H E G ds hl => match ds, hl with | [d0, d1, d2], _ => pk_since.2 T h f cdv A outer s H E G d0 d1 d2)
theorem ce_since_3 {T : Txt} (h : Facts T) : CalleeD T "since" 3 [] 6 (callM 3 0 [] m_since) := mk_calleeD (ps := ["machine", "heap", "time"]) (pm := []) h.d_since (fun f fd F => ok_since h f fd F) rfl (fun kV doc pmv an cdv ct us ws hl hw => match us, hl, ws, hw with | [_, _, _], _, [], _ => rfl)
theorem ce_since_0_time_heap_machine {T : Txt} (h : Facts T) : CalleeD T "since" 0 ["time", "heap", "machine"] 6 (callM 0 3 [2, 1, 0] m_since) := mk_calleeD (ps := ["machine", "heap", "time"]) (pm := [2, 1, 0]) h.d_since (fun f fd F => ok_since h f fd F) rfl (fun kV doc pmv an cdv ct us ws hl hw => match us, hl, ws, hw with | [], _, [_, _, _], _ => rfl)
theorem sc_until : FnScope ["machine", "heap", "time", "slip"] ["machine", "heap", "time"] (defScope s_until) := ⟨rfl, rfl, rfl, by decide +kernel, rfl, by decide +kernel, by decide +kernel⟩
noncomputable def pk_until : {m : D → D → D → Unit → R (Fl Unit Unit × Unit) // ∀ (T : Txt) (h : Facts T) (f : Addr) (cdv : Value) (A : Around) (outer : List Env) (s : Shared) (H : Hp) (E : XK) (F : Hp) (d0 : D) (d1 : D) (d2 : D), JB (bodyCtx T ["machine", "heap", "time", "slip"] "until" s_until f cdv A outer s H E 5 F fun _ => False) (fun _ : Unit => [some (.val d0), some (.val d1), some (.val d2), none]) (defBody s_until) (fun (_ : Unit) _ => []) (fun (_ : Unit) _ => []) (fun _ => []) (m d0 d1 d2)} := ⟨fun d0 d1 d2 => _, fun T h f cdv A outer s H E F d0 d1 d2 => (jb_ret (je_blt (h.b_tuple) cd_tuple (ja_cons (je_ofL (jel_lc1 3 [("slip", 3)] (ji_seq (je_call (ce_checked_heap_2 h) (Nat.le_of_ble_eq_true rfl) (ja_cons (je_var 0 (f := fun _ => d0)) (ja_cons (je_var 1 (f := fun _ => d1)) ja_nil)))) (fun _ => jg_name 3) (fun _ v1 => (jts_one (jt_cmp od_lt (je_ix (je_var 3 (f := fun _ => v1)) je_int) (je_var 2 (f := fun _ => d2))))) (fun _ v1 => (je_var 3 (f := fun _ => v1))))) ja_nil)) (fun _ => SlotsLe.nil _) (fun _ => Nat.le_of_ble_eq_true rfl))⟩
noncomputable def m_until : List D → R D := fun ds => finish1 ((ar3 .bad fun d0 d1 d2 => pk_until.1 d0 d1 d2 ()) ds)
theorem ok_until {T : Txt} (h : Facts T) (f : Addr) (fd : FuncData) (F : Fun T.K "until" "until" s_until f fd) : FnG T.P T.w T.K T.mg T.base (L2.CX T.P T.w) 6 f fd ["machine", "heap", "time"] (SpD T 3 m_until) := fn_ok F sc_until (fun cdv A outer s H E G ds hl => match ds, hl with | [d0, d1, d2], _ => pk_until.2 T h f cdv A outer s H E G d0 d1 d2)
theorem ce_until_3 {T : Txt} (h : Facts T) : CalleeD T "until" 3 [] 6 (callM 3 0 [] m_until) := mk_calleeD (ps := ["machine", "heap", "time"]) (pm := []) h.d_until (fun f fd F => ok_until h f fd F) rfl (fun kV doc pmv an cdv ct us ws hl hw => match us, hl, ws, hw with | [_, _, _], _, [], _ => rfl)
theorem ce_until_0_time_heap_machine {T : Txt} (h : Facts T) : CalleeD T "until" 0 ["time", "heap", "machine"] 6 (callM 0 3 [2, 1, 0] m_until) := mk_calleeD (ps := ["machine", "heap", "time"]) (pm := [2, 1, 0]) h.d_until (fun f fd F => ok_until h f fd F) rfl (fun kV doc pmv an cdv ct us ws hl hw => match us, hl, ws, hw with | [], _, [_, _, _], _ => rfl)
theorem sc__law_parts_at : FnScope ["_law_machine_here", "_law_heap_here", "_law_time", "_law_found", "_law_form", "wrong"] ["_law_machine_here", "_law_heap_here", "_law_time"] (defScope s__law_parts_at) := ⟨rfl, rfl, rfl, by decide +kernel, rfl, by decide +kernel, by decide +kernel⟩
noncomputable def pk__law_parts_at : {m : D → D → D → Unit → R (Fl Unit Unit × Unit) // ∀ (T : Txt) (h : Facts T) (f : Addr) (cdv : Value) (A : Around) (outer : List Env) (s : Shared) (H : Hp) (E : XK) (F : Hp) (d0 : D) (d1 : D) (d2 : D), JB (bodyCtx T ["_law_machine_here", "_law_heap_here", "_law_time", "_law_found", "_law_form", "wrong"] "_law_parts_at" s__law_parts_at f cdv A outer s H E 6 F fun _ => False) (fun _ : Unit => [some (.val d0), some (.val d1), some (.val d2), none, none, none]) (defBody s__law_parts_at) (fun (_ : Unit) _ => []) (fun (_ : Unit) _ => []) (fun _ => []) (m d0 d1 d2)} := ⟨fun d0 d1 d2 => _, fun T h f cdv A outer s H E F d0 d1 d2 => (jb_setL 3 (jel_lst ja_nil) (fun w1 => (jb_for 4 (fun (a2 : List D) _ => [some (.val d0), some (.val d1), some (.val d2), some (.own a2), none, none]) (fun _ => w1) (ji_range1 (h.b_range) je_int) (fun _ => (SlotsLe.cons_same (SlotsLe.cons_same (SlotsLe.cons_same (SlotsLe.cons_same (SlotsLe.cons_none (SlotsLe.cons_none (SlotsLe.nil _)))))))) (fun _ => Nat.le_of_ble_eq_true rfl) (fun v3 a2 => (jb_try (fun _ => [some (.val d0), some (.val d1), some (.val d2), some (.own a2), some (.val v3), none]) (fun (a4 : List D) _ => [some (.val d0), some (.val d1), some (.val d2), some (.own a4), some (.val v3), none]) (fun _ _ _ _ _ _ => (jb_append 3 (f := fun _ => a2) (je_if (jt_cmp od_eq (je_var 4 (f := fun _ => v3)) je_int) (je_call (ce_since_3 h) (Nat.le_of_ble_eq_true rfl) (ja_cons (je_var 0 (f := fun _ => d0)) (ja_cons (je_var 1 (f := fun _ => d1)) (ja_cons (je_var 2 (f := fun _ => d2)) ja_nil))) (hle := fun _ => ⟨(SlotsLe.cons_same (SlotsLe.cons_same (SlotsLe.cons_same (SlotsLe.cons_same (SlotsLe.cons_same (SlotsLe.cons_none (SlotsLe.nil _))))))), Nat.le_of_ble_eq_true rfl⟩)) (je_call (ce_until_3 h) (Nat.le_of_ble_eq_true rfl) (ja_cons (je_var 0 (f := fun _ => d0)) (ja_cons (je_var 1 (f := fun _ => d1)) (ja_cons (je_var 2 (f := fun _ => d2)) ja_nil))) (hle := fun _ => ⟨(SlotsLe.cons_same (SlotsLe.cons_same (SlotsLe.cons_same (SlotsLe.cons_same (SlotsLe.cons_same (SlotsLe.cons_none (SlotsLe.nil _))))))), Nat.le_of_ble_eq_true rfl⟩))) (fun w5 => (jb_nil (fun _ => w5) (fun _ => (SlotsLe.cons_same (SlotsLe.cons_same (SlotsLe.cons_same (SlotsLe.cons_same (SlotsLe.cons_same (SlotsLe.cons_none (SlotsLe.nil _)))))))) (fun _ => Nat.le_of_ble_eq_true rfl))))) (fun _ => (jh_as 5 (h.ex_InvalidSlip) (fun _ _ _ _ _ _ he hz hf => (jb_append 3 (f := fun _ => a2) (je_at 5 he hz hf) (fun w6 => (jb_nil (fun _ => w6) (fun _ => (SlotsLe.cons_same (SlotsLe.cons_same (SlotsLe.cons_same (SlotsLe.cons_same (SlotsLe.cons_same (SlotsLe.cons_none (SlotsLe.nil _)))))))) (fun _ => Nat.le_of_ble_eq_true rfl))))) (by intro _; rfl) (by intro _; rfl) (jh_nil (SlotsLe.nil _) (Nat.zero_le _)))) (fun a4 => (jb_nil (fun _ => a4) (fun _ => (SlotsLe.cons_same (SlotsLe.cons_same (SlotsLe.cons_same (SlotsLe.cons_same (SlotsLe.cons_none (SlotsLe.cons_none (SlotsLe.nil _)))))))) (fun _ => Nat.le_of_ble_eq_true rfl))))) (fun a2 => (jb_retOwn 3 (f := fun _ => a2) (fun _ _ z => z.elim) (fun _ => SlotsLe.nil _) (fun _ => Nat.le_of_ble_eq_true rfl))))))⟩
noncomputable def m__law_parts_at : List D → R D := fun ds => finish1 ((ar3 .bad fun d0 d1 d2 => pk__law_parts_at.1 d0 d1 d2 ()) ds)
theorem ok__law_parts_at {T : Txt} (h : Facts T) (f : Addr) (fd : FuncData) (F : Fun T.K "_law_parts_at" "_law_parts_at" s__law_parts_at f fd) : FnG T.P T.w T.K T.mg T.base (L2.CX T.P T.w) 7 f fd ["_law_machine_here", "_law_heap_here", "_law_time"] (SpD T 3 m__law_parts_at) := fn_ok F sc__law_parts_at (fun cdv A outer s H E G ds hl => match ds, hl with | [d0, d1, d2], _ => pk__law_parts_at.2 T h f cdv A outer s H E G d0 d1 d2)
theorem ce__law_parts_at_3 {T : Txt} (h : Facts T) : CalleeD T "_law_parts_at" 3 [] 7 (callM 3 0 [] m__law_parts_at) := mk_calleeD (ps := ["_law_machine_here", "_law_heap_here", "_law_time"]) (pm := []) h.d__law_parts_at (fun f fd F => ok__law_parts_at h f fd F) rfl (fun kV doc pmv an cdv ct us ws hl hw => match us, hl, ws, hw with | [_, _, _], _, [], _ => rfl)
theorem sc_law : FnScope ["_law_script", "_law_deal", "_law_commands", "_law_steps", "_law_many", "_law_machine_here", "_law_heap_here", "_law_given", "_law_told", "_law_time", "_law_command", "_law_state", "_law_at", "_law_slip", "_law_due", "_law_grown", "_law_one", "_law_kept", "_law_bad", "_law_place", "_law_rows", "_law_strange"] ["_law_script"] (defScope s_law) := ⟨rfl, rfl, rfl, by decide +kernel, rfl, by decide +kernel, by decide +kernel⟩
noncomputable def pk_law : {m : List Int → R (Fl Unit Unit × Unit) // ∀ (T : Txt) (h : Facts T) (f : Addr) (cdv : Value) (A : Around) (outer : List Env) (s : Shared) (H : Hp) (E : XK) (ns : List Int), (∀ b u, H b = some u → ∃ o xs, u = .frz o (.lst xs)) → LawB (bodyCtx T ["_law_script", "_law_deal", "_law_commands", "_law_steps", "_law_many", "_law_machine_here", "_law_heap_here", "_law_given", "_law_told", "_law_time", "_law_command", "_law_state", "_law_at", "_law_slip", "_law_due", "_law_grown", "_law_one", "_law_kept", "_law_bad", "_law_place", "_law_rows", "_law_strange"] "law" s_law f cdv A outer s H E 8 H fun _ => False) (startD ["_law_script", "_law_deal", "_law_commands", "_law_steps", "_law_many", "_law_machine_here", "_law_heap_here", "_law_given", "_law_told", "_law_time", "_law_command", "_law_state", "_law_at", "_law_slip", "_law_due", "_law_grown", "_law_one", "_law_kept", "_law_bad", "_law_place", "_law_rows", "_law_strange"] [.scr ns]) (defBody s_law) (m ns)} := ⟨fun ns => _, fun T h f cdv A outer s H E ns hO => (law_deal 1 (je_call (ce__law_draw_2 h) (Nat.le_of_ble_eq_true rfl) (ja_cons (je_var 0 (f := fun _ => (.scr ns))) (ja_cons je_int ja_nil))) onlyScr_start hO hO (fun _ z => z) (fun l1 l2 => (jb_unp2 2 3 (je_callL 1 (ce__law_wide_1 h) (Nat.le_of_ble_eq_true rfl) (ja_cons je_int ja_nil)) (jg_tup (jgs_cons 2 (jgs_cons 3 jgs_nil))) (fun v1 v2 => (jb_set 4 (je_if (jt_cmp od_gt (je_callL 1 (ce__law_any_1 h) (Nat.le_of_ble_eq_true rfl) (ja_cons je_int ja_nil)) je_int) (je_callL 1 (ce__law_any_1 h) (Nat.le_of_ble_eq_true rfl) (ja_cons je_int ja_nil)) (je_op od_add je_int (je_callL 1 (ce__law_any_1 h) (Nat.le_of_ble_eq_true rfl) (ja_cons je_int ja_nil)))) (fun v3 => (jb_par2 5 6 (ja_cons (je_make (ce_Machine_init_2 h) (Nat.le_of_ble_eq_true rfl) (ja_cons (je_var 2 (f := fun _ => v1)) (ja_cons (je_var 3 (f := fun _ => v2)) ja_nil))) (ja_cons (je_callL 1 (ce__law_heap_2 h) (Nat.le_of_ble_eq_true rfl) (ja_cons (je_var 2 (f := fun _ => v1)) (ja_cons (je_var 4 (f := fun _ => v3)) ja_nil))) ja_nil)) (fun v4 v5 => (jb_setL 7 (jel_callL 1 (ce__law_mixed_1 h) (Nat.le_of_ble_eq_true rfl) (ja_cons (je_var 6 (f := fun _ => v5)) ja_nil)) (fun w6 => (jb_freeze 7 (f := fun _ => w6) (jb_set 8 (je_if (jt_cmp od_eq (je_callL 1 (ce__law_any_1 h) (Nat.le_of_ble_eq_true rfl) (ja_cons je_int ja_nil)) je_int) (je_var 7 (f := fun _ => (.lst w6))) (je_blt (h.b_tuple) cd_tuple (ja_cons (je_var 7 (f := fun _ => (.lst w6))) ja_nil))) (fun v7 => (jb_if (fun (a8 : Unit) dl => [some (.val (.scr ns)), some (.deal l1 l2 dl.1 dl.2), some (.val v1), some (.val v2), some (.val v3), some (.val v4), some (.val v5), some (.val (.lst w6)), some (.val v7), none, none, none, none, none, none, none, none, none, none, none, none, none]) (jt_cmp od_ne (je_blt (h.b_repr) cd_repr (ja_cons (je_call (ce__law_asked_4 h) (Nat.le_of_ble_eq_true rfl) (ja_cons (je_var 5 (f := fun _ => v4)) (ja_cons je_int (ja_cons (je_var 8 (f := fun _ => v7)) (ja_cons je_non ja_nil))))) ja_nil)) (je_blt (h.b_repr) cd_repr (ja_cons (je_var 6 (f := fun _ => v5)) ja_nil))) (jb_ret je_bl (fun _ => SlotsLe.nil _) (fun _ => Nat.le_of_ble_eq_true rfl)) (jb_nil (fun _ => ()) (fun _ => (SlotsLe.cons_same (SlotsLe.cons_same (SlotsLe.cons_same (SlotsLe.cons_same (SlotsLe.cons_same (SlotsLe.cons_same (SlotsLe.cons_same (SlotsLe.cons_same (SlotsLe.cons_same (SlotsLe.cons_none (SlotsLe.cons_none (SlotsLe.cons_none (SlotsLe.cons_none (SlotsLe.cons_none (SlotsLe.cons_none (SlotsLe.cons_none (SlotsLe.cons_none (SlotsLe.cons_none (SlotsLe.cons_none (SlotsLe.cons_none (SlotsLe.cons_none (SlotsLe.cons_none (SlotsLe.nil _)))))))))))))))))))))))) (fun _ => Nat.le_of_ble_eq_true rfl)) (fun a8 => (jb_if (fun (a9 : Unit) dl => [some (.val (.scr ns)), some (.deal l1 l2 dl.1 dl.2), some (.val v1), some (.val v2), some (.val v3), some (.val v4), some (.val v5), some (.val (.lst w6)), some (.val v7), none, none, none, none, none, none, none, none, none, none, none, none, none]) (jt_cmp od_ne (je_blt (h.b_repr) cd_repr (ja_cons (je_call (ce__law_asked_4 h) (Nat.le_of_ble_eq_true rfl) (ja_cons (je_var 5 (f := fun _ => v4)) (ja_cons je_int (ja_cons (je_var 8 (f := fun _ => v7)) (ja_cons je_non ja_nil))))) ja_nil)) (je_blt (h.b_repr) cd_repr (ja_cons (je_blt (h.b_tuple) cd_tuple (ja_cons (je_ofL (jel_lc2 9 10 [("_law_time", 9), ("_law_command", 10)] (ji_seq (je_var 6 (f := fun _ => v5))) (fun _ => jg_tup (jgs_cons 9 (jgs_cons 10 jgs_nil))) (fun _ v10 v11 => jts_nil) (fun _ v10 v11 => (je_var 10 (f := fun _ => v11))))) ja_nil)) ja_nil))) (jb_ret je_bl (fun _ => SlotsLe.nil _) (fun _ => Nat.le_of_ble_eq_true rfl)) (jb_nil (fun _ => ()) (fun _ => (SlotsLe.cons_same (SlotsLe.cons_same (SlotsLe.cons_same (SlotsLe.cons_same (SlotsLe.cons_same (SlotsLe.cons_same (SlotsLe.cons_same (SlotsLe.cons_same (SlotsLe.cons_same (SlotsLe.cons_none (SlotsLe.cons_none (SlotsLe.cons_none (SlotsLe.cons_none (SlotsLe.cons_none (SlotsLe.cons_none (SlotsLe.cons_none (SlotsLe.cons_none (SlotsLe.cons_none (SlotsLe.cons_none (SlotsLe.cons_none (SlotsLe.cons_none (SlotsLe.cons_none (SlotsLe.nil _)))))))))))))))))))))))) (fun _ => Nat.le_of_ble_eq_true rfl)) (fun a9 => (jb_unp2 11 9 (je_tup (ja_cons (je_callL 1 (ce__law_any_1 h) (Nat.le_of_ble_eq_true rfl) (ja_cons (je_blt (h.b_len) cd_len (ja_cons (je_var 3 (f := fun _ => v2)) ja_nil)) ja_nil)) (ja_cons (je_callL 1 (ce__law_any_1 h) (Nat.le_of_ble_eq_true rfl) (ja_cons (je_if (jt_cmp od_lt (je_var 4 (f := fun _ => v3)) je_int) je_int je_int) ja_nil)) ja_nil))) (jg_tup (jgs_cons 11 (jgs_cons 9 jgs_nil))) (fun v12 v13 => (jb_if (fun (a14 : Unit) dl => [some (.val (.scr ns)), some (.deal l1 l2 dl.1 dl.2), some (.val v1), some (.val v2), some (.val v3), some (.val v4), some (.val v5), some (.val (.lst w6)), some (.val v7), some (.val v13), none, some (.val v12), none, none, none, none, none, none, none, none, none, none]) (jt_cmp od_ne (je_blt (h.b_repr) cd_repr (ja_cons (je_call (ce__law_asked_4 h) (Nat.le_of_ble_eq_true rfl) (ja_cons (je_var 5 (f := fun _ => v4)) (ja_cons je_int (ja_cons (je_var 8 (f := fun _ => v7)) (ja_cons (je_var 11 (f := fun _ => v12)) ja_nil))))) ja_nil)) (je_blt (h.b_repr) cd_repr (ja_cons (je_call (ce__law_led_3 h) (Nat.le_of_ble_eq_true rfl) (ja_cons (je_var 3 (f := fun _ => v2)) (ja_cons (je_var 11 (f := fun _ => v12)) (ja_cons (je_ofL (jel_lc2 12 10 [("_law_at", 12), ("_law_command", 10)] (ji_seq (je_var 6 (f := fun _ => v5))) (fun _ => jg_tup (jgs_cons 12 (jgs_cons 10 jgs_nil))) (fun _ v15 v16 => jts_nil) (fun _ v15 v16 => (je_var 10 (f := fun _ => v16))))) ja_nil)))) ja_nil))) (jb_ret je_bl (fun _ => SlotsLe.nil _) (fun _ => Nat.le_of_ble_eq_true rfl)) (jb_nil (fun _ => ()) (fun _ => (SlotsLe.cons_same (SlotsLe.cons_same (SlotsLe.cons_same (SlotsLe.cons_same (SlotsLe.cons_same (SlotsLe.cons_same (SlotsLe.cons_same (SlotsLe.cons_same (SlotsLe.cons_same (SlotsLe.cons_same (SlotsLe.cons_none (SlotsLe.cons_same (SlotsLe.cons_none (SlotsLe.cons_none (SlotsLe.cons_none (SlotsLe.cons_none (SlotsLe.cons_none (SlotsLe.cons_none (SlotsLe.cons_none (SlotsLe.cons_none (SlotsLe.cons_none (SlotsLe.cons_none (SlotsLe.nil _)))))))))))))))))))))))) (fun _ => Nat.le_of_ble_eq_true rfl)) (fun a14 => (jb_if (fun (a17 : Unit) dl => [some (.val (.scr ns)), some (.deal l1 l2 dl.1 dl.2), some (.val v1), some (.val v2), some (.val v3), some (.val v4), some (.val v5), some (.val (.lst w6)), some (.val v7), some (.val v13), none, some (.val v12), none, none, none, none, none, none, none, none, none, none]) (jt_cmp od_ne (je_blt (h.b_repr) cd_repr (ja_cons (je_callKw0 (ce_since_0_time_heap_machine h) (Nat.le_of_ble_eq_true rfl) (jkw_cons (je_var 9 (f := fun _ => v13)) (jkw_cons (je_var 8 (f := fun _ => v7)) (jkw_cons (je_var 5 (f := fun _ => v4)) jkw_nil)))) ja_nil)) (je_blt (h.b_repr) cd_repr (ja_cons (je_blt (h.b_tuple) cd_tuple (ja_cons (je_ofL (jel_lc1 13 [("_law_slip", 13)] (ji_seq (je_var 6 (f := fun _ => v5))) (fun _ => jg_name 13) (fun _ v18 => (jts_one (jt_cmp od_gt (je_ix (je_var 13 (f := fun _ => v18)) je_int) (je_var 9 (f := fun _ => v13))))) (fun _ v18 => (je_var 13 (f := fun _ => v18))))) ja_nil)) ja_nil))) (jb_ret je_bl (fun _ => SlotsLe.nil _) (fun _ => Nat.le_of_ble_eq_true rfl)) (jb_nil (fun _ => ()) (fun _ => (SlotsLe.cons_same (SlotsLe.cons_same (SlotsLe.cons_same (SlotsLe.cons_same (SlotsLe.cons_same (SlotsLe.cons_same (SlotsLe.cons_same (SlotsLe.cons_same (SlotsLe.cons_same (SlotsLe.cons_same (SlotsLe.cons_none (SlotsLe.cons_same (SlotsLe.cons_none (SlotsLe.cons_none (SlotsLe.cons_none (SlotsLe.cons_none (SlotsLe.cons_none (SlotsLe.cons_none (SlotsLe.cons_none (SlotsLe.cons_none (SlotsLe.cons_none (SlotsLe.cons_none (SlotsLe.nil _)))))))))))))))))))))))) (fun _ => Nat.le_of_ble_eq_true rfl)) (fun a17 => (jb_if (fun (a19 : Unit) dl => [some (.val (.scr ns)), some (.deal l1 l2 dl.1 dl.2), some (.val v1), some (.val v2), some (.val v3), some (.val v4), some (.val v5), some (.val (.lst w6)), some (.val v7), some (.val v13), none, some (.val v12), none, none, none, none, none, none, none, none, none, none]) (jt_cmp od_ne (je_blt (h.b_repr) cd_repr (ja_cons (je_callKw0 (ce_until_0_time_heap_machine h) (Nat.le_of_ble_eq_true rfl) (jkw_cons (je_var 9 (f := fun _ => v13)) (jkw_cons (je_var 8 (f := fun _ => v7)) (jkw_cons (je_var 5 (f := fun _ => v4)) jkw_nil)))) ja_nil)) (je_blt (h.b_repr) cd_repr (ja_cons (je_blt (h.b_tuple) cd_tuple (ja_cons (je_ofL (jel_lc1 13 [("_law_slip", 13)] (ji_seq (je_var 6 (f := fun _ => v5))) (fun _ => jg_name 13) (fun _ v20 => (jts_one (jt_cmp od_lt (je_ix (je_var 13 (f := fun _ => v20)) je_int) (je_var 9 (f := fun _ => v13))))) (fun _ v20 => (je_var 13 (f := fun _ => v20))))) ja_nil)) ja_nil))) (jb_ret je_bl (fun _ => SlotsLe.nil _) (fun _ => Nat.le_of_ble_eq_true rfl)) (jb_nil (fun _ => ()) (fun _ => (SlotsLe.cons_same (SlotsLe.cons_same (SlotsLe.cons_same (SlotsLe.cons_same (SlotsLe.cons_same (SlotsLe.cons_same (SlotsLe.cons_same (SlotsLe.cons_same (SlotsLe.cons_same (SlotsLe.cons_same (SlotsLe.cons_none (SlotsLe.cons_same (SlotsLe.cons_none (SlotsLe.cons_none (SlotsLe.cons_none (SlotsLe.cons_none (SlotsLe.cons_none (SlotsLe.cons_none (SlotsLe.cons_none (SlotsLe.cons_none (SlotsLe.cons_none (SlotsLe.cons_none (SlotsLe.nil _)))))))))))))))))))))))) (fun _ => Nat.le_of_ble_eq_true rfl)) (fun a19 => (jb_set 13 (je_tup (ja_cons (je_var 9 (f := fun _ => v13)) (ja_cons (je_callL 1 (ce__law_any_1 h) (Nat.le_of_ble_eq_true rfl) (ja_cons (je_var 2 (f := fun _ => v1)) ja_nil)) ja_nil))) (fun v21 => (jb_set 14 (je_if (jt_cmp od_in (je_var 9 (f := fun _ => v13)) (je_ofL (jel_lc2 12 10 [("_law_at", 12), ("_law_command", 10)] (ji_seq (je_var 6 (f := fun _ => v5))) (fun _ => jg_tup (jgs_cons 12 (jgs_cons 10 jgs_nil))) (fun _ v23 v24 => jts_nil) (fun _ v23 v24 => (je_var 12 (f := fun _ => v23)))))) (je_tup (ja_cons je_str (ja_cons je_int ja_nil))) (je_blt (h.b_tuple) cd_tuple (ja_cons (je_blt (h.b_sorted) cd_sorted (ja_cons (je_op od_add (je_var 6 (f := fun _ => v5)) (je_tup (ja_cons (je_var 13 (f := fun _ => v21)) ja_nil))) ja_nil)) ja_nil))) (fun v22 => (jb_if (fun (a25 : Unit) dl => [some (.val (.scr ns)), some (.deal l1 l2 dl.1 dl.2), some (.val v1), some (.val v2), some (.val v3), some (.val v4), some (.val v5), some (.val (.lst w6)), some (.val v7), some (.val v13), none, some (.val v12), none, some (.val v21), some (.val v22), none, none, none, none, none, none, none]) (jt_w (jw_or (jt_cmp od_ne (je_blt (h.b_repr) cd_repr (ja_cons (je_call (ce__law_asked_4 h) (Nat.le_of_ble_eq_true rfl) (ja_cons (je_var 5 (f := fun _ => v4)) (ja_cons je_int (ja_cons (je_var 8 (f := fun _ => v7)) (ja_cons (je_var 13 (f := fun _ => v21)) ja_nil))))) ja_nil)) (je_blt (h.b_repr) cd_repr (ja_cons (je_var 14 (f := fun _ => v22)) ja_nil))) (jw_or1 (jt_cmp od_ne (je_blt (h.b_repr) cd_repr (ja_cons (je_call (ce__law_asked_4 h) (Nat.le_of_ble_eq_true rfl) (ja_cons (je_var 5 (f := fun _ => v4)) (ja_cons je_int (ja_cons je_non (ja_cons (je_var 13 (f := fun _ => v21)) ja_nil))))) ja_nil)) (je_blt (h.b_repr) cd_repr (ja_cons (je_var 13 (f := fun _ => v21)) ja_nil)))))) (jb_ret je_bl (fun _ => SlotsLe.nil _) (fun _ => Nat.le_of_ble_eq_true rfl)) (jb_nil (fun _ => ()) (fun _ => (SlotsLe.cons_same (SlotsLe.cons_same (SlotsLe.cons_same (SlotsLe.cons_same (SlotsLe.cons_same (SlotsLe.cons_same (SlotsLe.cons_same (SlotsLe.cons_same (SlotsLe.cons_same (SlotsLe.cons_same (SlotsLe.cons_none (SlotsLe.cons_same (SlotsLe.cons_none (SlotsLe.cons_same (SlotsLe.cons_same (SlotsLe.cons_none (SlotsLe.cons_none (SlotsLe.cons_none (SlotsLe.cons_none (SlotsLe.cons_none (SlotsLe.cons_none (SlotsLe.cons_none (SlotsLe.nil _)))))))))))))))))))))))) (fun _ => Nat.le_of_ble_eq_true rfl)) (fun a25 => (jb_set 15 (je_tup ja_nil) (fun v26 => (jb_for 16 (fun (a27 : D) dl => [some (.val (.scr ns)), some (.deal l1 l2 dl.1 dl.2), some (.val v1), some (.val v2), some (.val v3), some (.val v4), some (.val v5), some (.val (.lst w6)), some (.val v7), some (.val v13), none, some (.val v12), none, some (.val v21), some (.val v22), some (.val a27), none, none, none, none, none, none]) (fun _ => v26) (ji_seq (je_callL 1 (ce__law_mixed_1 h) (Nat.le_of_ble_eq_true rfl) (ja_cons (je_cut (je_var 6 (f := fun _ => v5)) jo_none (jo_some je_int)) ja_nil))) (fun _ => (SlotsLe.cons_same (SlotsLe.cons_same (SlotsLe.cons_same (SlotsLe.cons_same (SlotsLe.cons_same (SlotsLe.cons_same (SlotsLe.cons_same (SlotsLe.cons_same (SlotsLe.cons_same (SlotsLe.cons_same (SlotsLe.cons_none (SlotsLe.cons_same (SlotsLe.cons_none (SlotsLe.cons_same (SlotsLe.cons_same (SlotsLe.cons_same (SlotsLe.cons_none (SlotsLe.cons_none (SlotsLe.cons_none (SlotsLe.cons_none (SlotsLe.cons_none (SlotsLe.cons_none (SlotsLe.nil _)))))))))))))))))))))))) (fun _ => Nat.le_of_ble_eq_true rfl) (fun v28 a27 => (jb_set 15 (je_call (ce_put_in_3 h) (Nat.le_of_ble_eq_true rfl) (ja_cons (je_var 5 (f := fun _ => v4)) (ja_cons (je_var 15 (f := fun _ => a27)) (ja_cons (je_var 16 (f := fun _ => v28)) ja_nil)))) (fun v29 => (jb_nil (fun _ => v29) (fun _ => (SlotsLe.cons_same (SlotsLe.cons_same (SlotsLe.cons_same (SlotsLe.cons_same (SlotsLe.cons_same (SlotsLe.cons_same (SlotsLe.cons_same (SlotsLe.cons_same (SlotsLe.cons_same (SlotsLe.cons_same (SlotsLe.cons_none (SlotsLe.cons_same (SlotsLe.cons_none (SlotsLe.cons_same (SlotsLe.cons_same (SlotsLe.cons_same (SlotsLe.cons_none (SlotsLe.cons_none (SlotsLe.cons_none (SlotsLe.cons_none (SlotsLe.cons_none (SlotsLe.cons_none (SlotsLe.nil _)))))))))))))))))))))))) (fun _ => Nat.le_of_ble_eq_true rfl))))) (fun a27 => (jb_if (fun (a30 : Unit) dl => [some (.val (.scr ns)), some (.deal l1 l2 dl.1 dl.2), some (.val v1), some (.val v2), some (.val v3), some (.val v4), some (.val v5), some (.val (.lst w6)), some (.val v7), some (.val v13), none, some (.val v12), none, some (.val v21), some (.val v22), some (.val a27), none, none, none, none, none, none]) (jt_cmp od_ne (je_var 15 (f := fun _ => a27)) (je_cut (je_var 6 (f := fun _ => v5)) jo_none (jo_some je_int))) (jb_ret je_bl (fun _ => SlotsLe.nil _) (fun _ => Nat.le_of_ble_eq_true rfl)) (jb_nil (fun _ => ()) (fun _ => (SlotsLe.cons_same (SlotsLe.cons_same (SlotsLe.cons_same (SlotsLe.cons_same (SlotsLe.cons_same (SlotsLe.cons_same (SlotsLe.cons_same (SlotsLe.cons_same (SlotsLe.cons_same (SlotsLe.cons_same (SlotsLe.cons_none (SlotsLe.cons_same (SlotsLe.cons_none (SlotsLe.cons_same (SlotsLe.cons_same (SlotsLe.cons_same (SlotsLe.cons_none (SlotsLe.cons_none (SlotsLe.cons_none (SlotsLe.cons_none (SlotsLe.cons_none (SlotsLe.cons_none (SlotsLe.nil _)))))))))))))))))))))))) (fun _ => Nat.le_of_ble_eq_true rfl)) (fun a30 => (jb_set 17 (je_call (ce_checked_heap_2 h) (Nat.le_of_ble_eq_true rfl) (ja_cons (je_var 5 (f := fun _ => v4)) (ja_cons (je_var 7 (f := fun _ => (.lst w6))) ja_nil))) (fun v31 => (jb_thaw 7 (fun (dl : Deal) => [none, some (.deal l1 l2 dl.1 dl.2), some (.val v1), some (.val v2), none, some (.val v4), some (.val v5), none, none, some (.val v13), none, some (.val v12), none, none, none, none, none, some (.val v31), none, none, none, none]) (fun _ => [farD w6 v1, farD w6 v2, farD w6 v4, farD w6 v5, farD w6 v13, farD w6 v12, farD w6 v31].all id) (f := fun _ => w6) (fun _ z => by simpa [calmS] using z) (by exact hO) (by exact hO) (by exact fun _ z => z) (fun _ => (SlotsLe.cons_none (SlotsLe.cons_same (SlotsLe.cons_same (SlotsLe.cons_same (SlotsLe.cons_none (SlotsLe.cons_same (SlotsLe.cons_same (SlotsLe.cons_none (SlotsLe.cons_none (SlotsLe.cons_same (SlotsLe.cons_none (SlotsLe.cons_same (SlotsLe.cons_none (SlotsLe.cons_none (SlotsLe.cons_none (SlotsLe.cons_none (SlotsLe.cons_none (SlotsLe.cons_same (SlotsLe.cons_none (SlotsLe.cons_none (SlotsLe.cons_none (SlotsLe.cons_none (SlotsLe.nil _)))))))))))))))))))))))) (fun _ => rfl) (jb_append 7 (f := fun _ => w6) je_non (fun w32 => (jb_if (fun (a33 : Unit) dl => [none, some (.deal l1 l2 dl.1 dl.2), some (.val v1), some (.val v2), none, some (.val v4), some (.val v5), some (.own w32), none, some (.val v13), none, some (.val v12), none, none, none, none, none, some (.val v31), none, none, none, none]) (jt_cmp od_ne (je_var 17 (f := fun _ => v31)) (je_var 6 (f := fun _ => v5))) (jb_ret je_bl (fun _ => SlotsLe.nil _) (fun _ => Nat.le_of_ble_eq_true rfl)) (jb_nil (fun _ => ()) (fun _ => (SlotsLe.cons_none (SlotsLe.cons_same (SlotsLe.cons_same (SlotsLe.cons_same (SlotsLe.cons_none (SlotsLe.cons_same (SlotsLe.cons_same (SlotsLe.cons_same (SlotsLe.cons_none (SlotsLe.cons_same (SlotsLe.cons_none (SlotsLe.cons_same (SlotsLe.cons_none (SlotsLe.cons_none (SlotsLe.cons_none (SlotsLe.cons_none (SlotsLe.cons_none (SlotsLe.cons_same (SlotsLe.cons_none (SlotsLe.cons_none (SlotsLe.cons_none (SlotsLe.cons_none (SlotsLe.nil _)))))))))))))))))))))))) (fun _ => Nat.le_of_ble_eq_true rfl)) (fun a33 => (jb_par2 18 19 (ja_cons (je_callL 1 (ce__law_bad_slip_1 h) (Nat.le_of_ble_eq_true rfl) (ja_cons (je_var 2 (f := fun _ => v1)) ja_nil)) (ja_cons (je_callL 1 (ce__law_any_1 h) (Nat.le_of_ble_eq_true rfl) (ja_cons (je_op od_add (je_blt (h.b_len) cd_len (ja_cons (je_var 6 (f := fun _ => v5)) ja_nil)) je_int) ja_nil)) ja_nil)) (fun v34 v35 => (jb_set 20 (je_op od_add (je_op od_add (je_blt (h.b_list) cd_list (ja_cons (je_cut (je_var 6 (f := fun _ => v5)) jo_none (jo_some (je_var 19 (f := fun _ => v35)))) ja_nil)) (je_lst (ja_cons (je_var 18 (f := fun _ => v34)) ja_nil))) (je_blt (h.b_list) cd_list (ja_cons (je_cut (je_var 6 (f := fun _ => v5)) (jo_some (je_var 19 (f := fun _ => v35))) jo_none) ja_nil))) (fun v36 => (jb_if (fun (a37 : Unit) dl => [none, some (.deal l1 l2 dl.1 dl.2), some (.val v1), some (.val v2), none, some (.val v4), some (.val v5), some (.own w32), none, some (.val v13), none, some (.val v12), none, none, none, none, none, some (.val v31), some (.val v34), some (.val v35), some (.val v36), none]) (jt_w (jw_or (jt_cmp od_ne (je_call (ce__law_parts_at_3 h) (Nat.le_of_ble_eq_true rfl) (ja_cons (je_var 5 (f := fun _ => v4)) (ja_cons (je_var 20 (f := fun _ => v36)) (ja_cons (je_var 9 (f := fun _ => v13)) ja_nil)))) (je_lst (ja_cons (je_var 19 (f := fun _ => v35)) (ja_cons (je_var 19 (f := fun _ => v35)) ja_nil)))) (jw_or1 (jt_cmp od_ne (je_call (ce__law_parts_at_3 h) (Nat.le_of_ble_eq_true rfl) (ja_cons (je_var 5 (f := fun _ => v4)) (ja_cons je_non (ja_cons (je_var 9 (f := fun _ => v13)) ja_nil)))) (je_lst (ja_cons je_int (ja_cons je_int ja_nil))))))) (jb_ret je_bl (fun _ => SlotsLe.nil _) (fun _ => Nat.le_of_ble_eq_true rfl)) (jb_nil (fun _ => ()) (fun _ => (SlotsLe.cons_none (SlotsLe.cons_same (SlotsLe.cons_same (SlotsLe.cons_same (SlotsLe.cons_none (SlotsLe.cons_same (SlotsLe.cons_same (SlotsLe.cons_same (SlotsLe.cons_none (SlotsLe.cons_same (SlotsLe.cons_none (SlotsLe.cons_same (SlotsLe.cons_none (SlotsLe.cons_none (SlotsLe.cons_none (SlotsLe.cons_none (SlotsLe.cons_none (SlotsLe.cons_same (SlotsLe.cons_same (SlotsLe.cons_same (SlotsLe.cons_same (SlotsLe.cons_none (SlotsLe.nil _)))))))))))))))))))))))) (fun _ => Nat.le_of_ble_eq_true rfl)) (fun a37 => (jb_if (fun (a38 : Unit) dl => [none, some (.deal l1 l2 dl.1 dl.2), some (.val v1), some (.val v2), none, some (.val v4), some (.val v5), some (.own w32), none, some (.val v13), none, some (.val v12), none, none, none, none, none, some (.val v31), some (.val v34), some (.val v35), some (.val v36), none]) (jt_w (jw_or (jt_cmp od_ne (je_call (ce__law_asked_4 h) (Nat.le_of_ble_eq_true rfl) (ja_cons (je_var 5 (f := fun _ => v4)) (ja_cons je_int (ja_cons (je_var 20 (f := fun _ => v36)) (ja_cons je_non ja_nil))))) (je_tup (ja_cons je_str (ja_cons (je_var 19 (f := fun _ => v35)) ja_nil)))) (jw_or1 (jt_cmp od_ne (je_call (ce__law_asked_4 h) (Nat.le_of_ble_eq_true rfl) (ja_cons (je_var 5 (f := fun _ => v4)) (ja_cons je_int (ja_cons je_non (ja_cons (je_var 18 (f := fun _ => v34)) ja_nil))))) (je_tup (ja_cons je_str (ja_cons je_int ja_nil))))))) (jb_ret je_bl (fun _ => SlotsLe.nil _) (fun _ => Nat.le_of_ble_eq_true rfl)) (jb_nil (fun _ => ()) (fun _ => (SlotsLe.cons_none (SlotsLe.cons_same (SlotsLe.cons_same (SlotsLe.cons_same (SlotsLe.cons_none (SlotsLe.cons_same (SlotsLe.cons_same (SlotsLe.cons_same (SlotsLe.cons_none (SlotsLe.cons_same (SlotsLe.cons_none (SlotsLe.cons_same (SlotsLe.cons_none (SlotsLe.cons_none (SlotsLe.cons_none (SlotsLe.cons_none (SlotsLe.cons_none (SlotsLe.cons_same (SlotsLe.cons_same (SlotsLe.cons_same (SlotsLe.cons_same (SlotsLe.cons_none (SlotsLe.nil _)))))))))))))))))))))))) (fun _ => Nat.le_of_ble_eq_true rfl)) (fun a38 => (jb_if (fun (a39 : Unit) dl => [none, some (.deal l1 l2 dl.1 dl.2), some (.val v1), some (.val v2), none, some (.val v4), some (.val v5), some (.own w32), none, some (.val v13), none, some (.val v12), none, none, none, none, none, some (.val v31), some (.val v34), some (.val v35), some (.val v36), none]) (jt_w (jw_or (jt_cmp od_ne (je_call (ce__law_asked_4 h) (Nat.le_of_ble_eq_true rfl) (ja_cons (je_var 5 (f := fun _ => v4)) (ja_cons je_int (ja_cons (je_var 20 (f := fun _ => v36)) (ja_cons (je_var 18 (f := fun _ => v34)) ja_nil))))) (je_tup (ja_cons je_str (ja_cons (je_var 19 (f := fun _ => v35)) ja_nil)))) (jw_or1 (jt_cmp od_ne (je_call (ce__law_asked_4 h) (Nat.le_of_ble_eq_true rfl) (ja_cons (je_var 5 (f := fun _ => v4)) (ja_cons je_int (ja_cons (je_var 6 (f := fun _ => v5)) (ja_cons (je_var 18 (f := fun _ => v34)) ja_nil))))) (je_tup (ja_cons je_str (ja_cons je_int ja_nil))))))) (jb_ret je_bl (fun _ => SlotsLe.nil _) (fun _ => Nat.le_of_ble_eq_true rfl)) (jb_nil (fun _ => ()) (fun _ => (SlotsLe.cons_none (SlotsLe.cons_same (SlotsLe.cons_same (SlotsLe.cons_same (SlotsLe.cons_none (SlotsLe.cons_same (SlotsLe.cons_same (SlotsLe.cons_same (SlotsLe.cons_none (SlotsLe.cons_same (SlotsLe.cons_none (SlotsLe.cons_same (SlotsLe.cons_none (SlotsLe.cons_none (SlotsLe.cons_none (SlotsLe.cons_none (SlotsLe.cons_none (SlotsLe.cons_same (SlotsLe.cons_same (SlotsLe.cons_same (SlotsLe.cons_same (SlotsLe.cons_none (SlotsLe.nil _)))))))))))))))))))))))) (fun _ => Nat.le_of_ble_eq_true rfl)) (fun a39 => (jb_set 21 (je_callL 1 (ce__law_of_1 h) (Nat.le_of_ble_eq_true rfl) (ja_cons (je_lst (ja_cons (je_blt (h.b_len) cd_len (ja_cons (je_var 3 (f := fun _ => v2)) ja_nil)) (ja_cons (je_neg je_int) (ja_cons je_non (ja_cons je_bl (ja_cons je_str ja_nil)))))) ja_nil)) (fun v40 => (jb_if (fun (a41 : Unit) dl => [none, some (.deal l1 l2 dl.1 dl.2), some (.val v1), some (.val v2), none, some (.val v4), some (.val v5), some (.own w32), none, some (.val v13), none, some (.val v12), none, none, none, none, none, some (.val v31), some (.val v34), some (.val v35), some (.val v36), some (.val v40)]) (jt_w (jw_or (jt_cmp od_ne (je_call (ce__law_asked_4 h) (Nat.le_of_ble_eq_true rfl) (ja_cons (je_var 5 (f := fun _ => v4)) (ja_cons je_int (ja_cons (je_var 20 (f := fun _ => v36)) (ja_cons (je_var 21 (f := fun _ => v40)) ja_nil))))) (je_tup (ja_cons je_str (ja_cons je_int ja_nil)))) (jw_or1 (jt_cmp od_ne (je_call (ce__law_asked_4 h) (Nat.le_of_ble_eq_true rfl) (ja_cons (je_var 5 (f := fun _ => v4)) (ja_cons je_int (ja_cons (je_var 20 (f := fun _ => v36)) (ja_cons (je_var 11 (f := fun _ => v12)) ja_nil))))) (je_tup (ja_cons je_str (ja_cons (je_var 19 (f := fun _ => v35)) ja_nil))))))) (jb_ret je_bl (fun _ => SlotsLe.nil _) (fun _ => Nat.le_of_ble_eq_true rfl)) (jb_nil (fun _ => ()) (fun _ => (SlotsLe.cons_none (SlotsLe.cons_same (SlotsLe.cons_same (SlotsLe.cons_same (SlotsLe.cons_none (SlotsLe.cons_same (SlotsLe.cons_same (SlotsLe.cons_same (SlotsLe.cons_none (SlotsLe.cons_same (SlotsLe.cons_none (SlotsLe.cons_same (SlotsLe.cons_none (SlotsLe.cons_none (SlotsLe.cons_none (SlotsLe.cons_none (SlotsLe.cons_none (SlotsLe.cons_same (SlotsLe.cons_same (SlotsLe.cons_same (SlotsLe.cons_same (SlotsLe.cons_same (SlotsLe.nil _)))))))))))))))))))))))) (fun _ => Nat.le_of_ble_eq_true rfl)) (fun a41 => (jb_if (fun (a42 : Unit) dl => [none, some (.deal l1 l2 dl.1 dl.2), some (.val v1), some (.val v2), none, some (.val v4), some (.val v5), some (.own w32), none, some (.val v13), none, some (.val v12), none, none, none, none, none, some (.val v31), some (.val v34), some (.val v35), some (.val v36), some (.val v40)]) (jt_w (jw_and (jt_cmp od_ne (je_var 6 (f := fun _ => v5)) (je_tup ja_nil)) (jw_and1 (jt_cmp od_ne (je_call (ce__law_asked_4 h) (Nat.le_of_ble_eq_true rfl) (ja_cons (je_var 5 (f := fun _ => v4)) (ja_cons je_int (ja_cons (je_op od_add (je_var 6 (f := fun _ => v5)) (je_tup (ja_cons (je_ix (je_var 6 (f := fun _ => v5)) je_int) ja_nil))) (ja_cons je_non ja_nil))))) (je_tup (ja_cons je_str (ja_cons (je_blt (h.b_len) cd_len (ja_cons (je_var 6 (f := fun _ => v5)) ja_nil)) ja_nil))))))) (jb_ret je_bl (fun _ => SlotsLe.nil _) (fun _ => Nat.le_of_ble_eq_true rfl)) (jb_nil (fun _ => ()) (fun _ => (SlotsLe.cons_none (SlotsLe.cons_same (SlotsLe.cons_same (SlotsLe.cons_same (SlotsLe.cons_none (SlotsLe.cons_same (SlotsLe.cons_same (SlotsLe.cons_same (SlotsLe.cons_none (SlotsLe.cons_same (SlotsLe.cons_none (SlotsLe.cons_same (SlotsLe.cons_none (SlotsLe.cons_none (SlotsLe.cons_none (SlotsLe.cons_none (SlotsLe.cons_none (SlotsLe.cons_same (SlotsLe.cons_same (SlotsLe.cons_same (SlotsLe.cons_same (SlotsLe.cons_same (SlotsLe.nil _)))))))))))))))))))))))) (fun _ => Nat.le_of_ble_eq_true rfl)) (fun a42 => (jb_ret (je_cmp od_eq (je_call (ce__law_asked_4 h) (Nat.le_of_ble_eq_true rfl) (ja_cons (je_var 5 (f := fun _ => v4)) (ja_cons je_int (ja_cons (je_callL 1 (ce__law_of_1 h) (Nat.le_of_ble_eq_true rfl) (ja_cons (je_lst (ja_cons je_non (ja_cons je_int (ja_cons je_str (ja_cons je_dct0 ja_nil))))) ja_nil)) (ja_cons je_non ja_nil))))) (je_tup (ja_cons je_str (ja_cons je_int ja_nil)))) (fun _ => SlotsLe.nil _) (fun _ => Nat.le_of_ble_eq_true rfl))))))))))))))))))))))))))))))))))))))))))))))))))))))))))))))⟩
noncomputable def m_law : List Int → R (Fl Unit Unit × Unit) := pk_law.1
end Gk03
set_option linter.all false
namespace Gk03
open PySem Pv L2
theorem any_ok (b : Int) (hb : 0 < b) (hb' : b < 1073741824) (dl : Deal) (hl : dl.1.length ≤ 63) : ∃ v dl', m__law_any [.int b] dl = .ok (.int v, dl') ∧ 0 ≤ v ∧ v < b ∧ dl'.1.length ≤ 63 := by
  obtain ⟨xs, i⟩ := dl
  simp only [m__law_any, pk__law_any, ar1, R.bind_ok, ix_0, ix_1, ne_nil, List.length_nil, Nat.zero_le, if_true, asBool_bl, opNeg_int, ix_last, d1_one, bInt_int, noLst_int]
  refine while_pop_run (P := fun r => ∃ v dl', Pv.finish r = .ok (.int v, dl') ∧ 0 ≤ v ∧ v < b ∧ dl'.1.length ≤ 63) xs i (by simp at hl; omega) (fun a xs i => ?_) (fun a xs i x hx => ?_) (fun ys hy => ?_)
  · rcases List.eq_nil_or_concat xs with rfl | ⟨zs, z, rfl⟩
    · simp
    · by_cases c : z = 0 <;> simp [eq_int, c]
  · simp [hx]
  · rcases List.eq_nil_or_concat ys with rfl | ⟨zs, z, rfl⟩
    · refine ⟨(i * 40693 + 71) % 2147483647 / 64 % b, ([], (i * 40693 + 71) % 2147483647), ?_, Int.emod_nonneg _ (by omega), Int.emod_lt_of_pos _ hb, by simp⟩
      simp [mul_int _ 40693 (.inr (by decide)), mod_int, div_int, hb, noLst_int]
    · have hz : zs.length < 1000000 := by simp at hy hl; omega
      refine ⟨z % b, (zs ++ [z / b], i), ?_, Int.emod_nonneg _ (by omega), Int.emod_lt_of_pos _ hb, ?_⟩
      · simp [mod_int, div_int, hb, hb', noLst_int, hz]
      · simp at hy hl ⊢; omega
theorem of_ok (xs : List D) (hx : xs ≠ []) (hx' : xs.length < 1073741824) (dl : Deal) (hl : dl.1.length ≤ 63) : ∃ d dl', d ∈ xs ∧ m__law_of [.lst xs] dl = .ok (d, dl') ∧ dl'.1.length ≤ 63 := by
  have h0 := List.length_pos_iff.mpr hx
  obtain ⟨v, dl', e, v0, v1, l⟩ := any_ok xs.length (by omega) (by omega) dl hl
  obtain ⟨n, rfl⟩ := Int.eq_ofNat_of_zero_le v0
  have hn : n < xs.length := by omega
  refine ⟨xs[n], dl', List.getElem_mem _, ?_, l⟩
  simp [m__law_of, pk__law_of, ar1, e, ix_nat _ _ hn]
theorem of_sq (b : Bool) (xs : List D) (hx : xs ≠ []) (hx' : xs.length < 1073741824) (dl : Deal) (hl : dl.1.length ≤ 63) : ∃ d dl', d ∈ xs ∧ m__law_of [sqD b xs] dl = .ok (d, dl') ∧ dl'.1.length ≤ 63 := by
  cases b with
  | true => exact of_ok xs hx hx' dl hl
  | false =>
    have h0 := List.length_pos_iff.mpr hx
    obtain ⟨v, dl', e, v0, v1, l⟩ := any_ok xs.length (by omega) (by omega) dl hl
    obtain ⟨n, rfl⟩ := Int.eq_ofNat_of_zero_le v0
    have hn : n < xs.length := by omega
    refine ⟨xs[n], dl', List.getElem_mem _, ?_, l⟩
    simp [m__law_of, pk__law_of, ar1, sqD, e, ix_natT _ _ hn]
theorem mixed_ok (w : D) (xs : List D) (hw : asItems w = .ok xs) (hx : xs.length < 1000) (hc : ∀ d ∈ xs, Cmp d) (dl : Deal) (hl : dl.1.length ≤ 63) : ∃ ys dl', ys.Perm xs ∧ m__law_mixed [w] dl = .ok (.fre ys, dl') ∧ dl'.1.length ≤ 63 := by
  simp only [m__law_mixed, pk__law_mixed, ar1, R.bind_ok, hw]
  refine while_run (P := fun r => ∃ ys dl', ys.Perm xs ∧ Pv.finish r = .ok (.fre ys, dl') ∧ dl'.1.length ≤ 63) (fun (a : List D × List D) (s : Deal) => (a.2 ++ a.1).Perm xs ∧ s.1.length ≤ 63) (fun a _ => a.1.length) (fun a s ⟨hp, hs⟩ => ?_) 1000 _ _ ⟨by simp, hl⟩ hx
  obtain ⟨l, fnd⟩ := a
  have hm : ∀ d ∈ l, Cmp d := fun d hd => hc d (hp.subset (List.mem_append_right _ hd))
  by_cases c : l = []
  · subst c
    refine .inl ⟨by simp [ne_nilC], fnd, s, by simpa using hp, by simp, hs⟩
  · have h0 := List.length_pos_iff.mpr c
    have hlen : fnd.length + l.length = xs.length := by simpa using hp.length_eq
    obtain ⟨v, dl', e, v0, v1, l1⟩ := any_ok l.length (by omega) (by omega) s hs
    obtain ⟨n, rfl⟩ := Int.eq_ofNat_of_zero_le v0
    have hn : n < l.length := by omega
    have q1 : n ≤ 1000000 := by omega
    have q2 : fnd.length < 1000000 := by omega
    have q3 : (-1000000 : Int) ≤ n := by omega
    have q4 : (n : Int) ≤ 1000000 := by omega
    refine .inr ⟨by simp [ne_nilC hm, c], (l.eraseIdx n, fnd ++ [l[n]]), dl', ?_, ⟨?_, l1⟩, ?_⟩
    · simp [noLst_int, e, q1, q2, q3, q4, ixN_nat _ _ hn, hn]
    · refine List.Perm.trans ?_ hp
      simp only [List.append_assoc, List.singleton_append]
      exact List.Perm.append_left _ (perm_pick l n hn)
    · simp [List.length_eraseIdx, hn]
      omega
theorem draw_ok (ns : List Int) (hn : ns.length ≤ 63) : ∃ dl : Deal, m__law_draw [.scr ns, .int 3] = .ok (.lst [.lst (dl.1.map .int), .int dl.2]) ∧ dl.1.length ≤ 63 := by
  simp only [m__law_draw, pk__law_draw, ar2, R.bind_ok, asInt_int, opCut_scr, asItems_lst, asItems_tup]
  have hc : (cutL ns none (some 48)).length ≤ 63 := Nat.le_trans (cutL_le _ _ _) hn
  generalize cutL ns none (some 48) = xs at hc
  rw [show chk (decide ((xs.map D.int).length ≤ 1000000)) (xs.map D.int) = .ok (xs.map D.int) by simp [chk]; omega, R.bind_ok]
  rw [lcL_map (g := fun d => match d with | .int i => .int (if i < 0 then -i else i) | d => d) (fun d hd s => by
    obtain ⟨i, _, rfl⟩ := List.mem_map.mp hd
    simp [lcT, bAbs])]
  rw [show (xs.map D.int).map (fun d => match d with | .int i => .int (if i < 0 then -i else i) | d => d) = (xs.map fun i => if i < 0 then -i else i).map D.int by simp]
  have hc' : (xs.map fun i => if i < 0 then -i else i).length ≤ 63 := by simpa using hc
  generalize (xs.map fun i => if i < 0 then -i else i) = ys at hc'
  simp only [R.bind_ok, mul_int _ 3 (.inr (by decide)), opAdd_int]
  refine forL_run (P := fun r => ∃ dl : Deal, finish1 r = .ok (.lst [.lst (dl.1.map .int), .int dl.2]) ∧ dl.1.length ≤ 63) (fun _ (a : D) (_ : Unit) => ∃ i, a = .int i) ⟨_, rfl⟩ (fun j hj a s ⟨i, hi⟩ => ?_) (fun a s ⟨i, hi⟩ => ?_)
  · subst hi
    simp only [List.getElem_map]
    exact ⟨_, s, by simp [mul_int _ 48271 (.inr (by decide)), mod_int]; rfl, _, rfl⟩
  · subst hi
    rw [show chk (decide ((ys.map D.int).length ≤ 1000000)) (ys.map D.int) = .ok (ys.map D.int) by simp [chk]; omega, R.bind_ok]
    rw [lcL_fm (g := keepI fun i => decide (1000000000000000000 ≤ i)) (fun d hd s => by
      obtain ⟨i, _, rfl⟩ := List.mem_map.mp hd
      by_cases c : 1000000000000000000 ≤ i <;> simp [lcT, pow_18, c])]
    rw [ints_fm ys fun i => decide (1000000000000000000 ≤ i)]
    refine ⟨((ys.filter fun i => decide (1000000000000000000 ≤ i)).reverse, i), by simp, ?_⟩
    have := List.length_filter_le (fun i => decide (1000000000000000000 ≤ i)) ys
    simp at this ⊢
    omega
def pD (p : Int × Int) : D := .tup [.int p.1, .int p.2]
theorem rgD_len (m : Int) : (rgD 0 m).length = m.toNat := by simp [rgD]
theorem heap_ok (c : Int) (hc : 0 < c) (hc' : c < 1073741824) (m : Int) (hm : 0 ≤ m) (hm' : m < 250) (dl : Deal) (hl : dl.1.length ≤ 63) :
    ∃ (xs : List (Int × Int)) (dl' : Deal), m__law_heap [.int c, .int m] dl = .ok (.tup (xs.map pD), dl') ∧ xs.length = m.toNat ∧ xs.Pairwise (fun p q => p.1 < q.1) ∧ (∀ p ∈ xs, 0 ≤ p.1 ∧ p.1 < 4 + 3 * m ∧ 0 ≤ p.2 ∧ p.2 < c) ∧ dl'.1.length ≤ 63 := by
  simp only [m__law_heap, pk__law_heap, ar2, R.bind_ok, callL_one, asInt_int]
  obtain ⟨v, s, e, v0, v1, l⟩ := any_ok 4 (by decide) (by decide) dl hl
  simp only [e, R.bind_ok, unfre_int]
  have h1 : rgSm m = true := by simp [rgSm]; omega
  simp only [show chk (decide (([] : List D).length ≤ 1000000)) ([] : List D) = .ok [] from rfl, h1, chk_true, R.bind_ok]
  refine forL_run (P := fun r => ∃ (xs : List (Int × Int)) (dl' : Deal), Pv.finish r = .ok (.tup (xs.map pD), dl') ∧ xs.length = m.toNat ∧ xs.Pairwise (fun p q => p.1 < q.1) ∧ (∀ p ∈ xs, 0 ≤ p.1 ∧ p.1 < 4 + 3 * m ∧ 0 ≤ p.2 ∧ p.2 < c) ∧ dl'.1.length ≤ 63)
    (fun n (a : D × List D) (s : Deal) => ∃ t xs, a = (.int t, xs.map pD) ∧ (0 ≤ t ∧ t ≤ 3 + 3 * n) ∧ xs.length = n ∧ xs.Pairwise (fun p q : Int × Int => p.1 < q.1) ∧ (∀ p ∈ xs, 0 ≤ p.1 ∧ p.1 < t ∧ 0 ≤ p.2 ∧ p.2 < c) ∧ s.1.length ≤ 63)
    ⟨v, [], rfl, ⟨v0, by omega⟩, rfl, List.Pairwise.nil, by simp, l⟩ (fun j hj a s ⟨t, xs, ha, t0, xl, xp, xq, sl⟩ => ?_) (fun a s ⟨t, xs, ha, t0, xl, xp, xq, sl⟩ => ?_)
  · subst ha
    obtain ⟨v, s1, e, v0, v1, l⟩ := any_ok c hc hc' s sl
    obtain ⟨u, s2, e2, u0, u1, l2⟩ := any_ok 3 (by decide) (by decide) s1 l
    have hk : xs.length < 1000000 := by rw [rgD_len] at hj; omega
    refine ⟨(.int (t + 1 + u), (xs ++ [(t, v)]).map pD), s2, by simp [e, e2, hk, pD], _, _, rfl, by omega, by simp [xl], ?_, ?_, l2⟩
    · rw [List.pairwise_append]
      exact ⟨xp, List.pairwise_singleton .., fun p hp q hq => by
        have := xq p hp
        have : q = (t, v) := by simpa using hq
        subst this
        omega⟩
    · intro p hp
      rcases List.mem_append.mp hp with hp | hp
      · have := xq p hp
        omega
      · have : p = (t, v) := by simpa using hp
        subst this
        simp only
        omega
  · subst ha
    refine ⟨xs, s, by simp [bTuple], by rw [xl, rgD_len], xp, fun p hp => ?_, sl⟩
    have := xq p hp
    rw [rgD_len] at xl t0
    omega
/-- a whole number in [0, n) -/
def In (n : Int) (d : D) : Prop := ∃ i : Int, d = .int i ∧ 0 ≤ i ∧ i < n
def Col (n : Int) (d : D) : Prop := ∃ xs : List D, d = .lst xs ∧ xs.length = n.toNat ∧ ∀ x ∈ xs, In n x
theorem rgD_mem {m : Int} {d : D} (h : d ∈ rgD 0 m) : In m d := by
  simp only [rgD, List.mem_map, List.mem_range] at h
  obtain ⟨i, hi, rfl⟩ := h
  exact ⟨_, rfl, by omega, by omega⟩
theorem lc_run {τ ω : Type} {P : R ω → Prop} {k : List D × τ → R ω} {g : D → τ → R (D × τ)} {m n : Int} {s : τ} (Inv : τ → Prop) (hi : Inv s)
    (h : ∀ i : Int, 0 ≤ i → i < m → ∀ s, Inv s → ∃ j s', g (.int i) s = .ok (.int j, s') ∧ 0 ≤ j ∧ j < n ∧ Inv s') (hk : ∀ rs s, rs.length = m.toNat → (∀ r ∈ rs, In n r) → Inv s → P (k (rs, s))) :
    P ((lcL (lcT partName (ar1 (fun _ => R.bad) fun _ s => R.ok (true, s)) (ar1 (fun _ => R.bad) g)) (rgD 0 m) s).bind k) := by
  obtain ⟨rs, s', e, l, q, i'⟩ := lcL_inv (f := lcT partName (ar1 (fun _ => R.bad) fun _ s => R.ok (true, s)) (ar1 (fun _ => R.bad) g)) (ds := rgD 0 m) (s := s) (Inv := Inv) (Q := In n) hi (fun d hd' s' e => by
    obtain ⟨i, rfl, i0, i1⟩ := rgD_mem hd'
    obtain ⟨j, s2, e, j0, j1, i2⟩ := h i i0 i1 s' e
    exact ⟨.int j, s2, by simp [lcT, e], ⟨j, rfl, j0, j1⟩, i2⟩)
  rw [e]
  exact hk rs s' (by rw [l, rgD_len]) q i'
theorem rg_chk (m : Int) (h : m < 1000) : chk (decide ((rgD 0 m).length ≤ 1000000)) (rgD 0 m) = .ok (rgD 0 m) := by
  simp [chk, rgD_len]; omega
theorem column_ok (f : Int) (m : Int) (hm : 0 < m) (hm' : m < 900) (dl : Deal) (hl : dl.1.length ≤ 63) :
    ∃ (d : D) (dl' : Deal), m__law_column [.int f, .int m] dl = .ok (d, dl') ∧ Col m (unfre d) ∧ dl'.1.length ≤ 63 := by
  obtain ⟨v, s, e, v0, v1, l⟩ := any_ok m hm (by omega) dl hl
  have h1 : rgSm m = true := by simp [rgSm]; omega
  have h2 : rgOk 0 m = true := by simp [rgOk]; omega
  simp only [m__law_column, pk__law_column, ar2, R.bind_ok, callL_one, asInt_int, e, unfre_int, eq_int, asBool_bl, h1, h2, chk_true, rg_chk m (by omega), decide_eq_true_eq]
  have fin : ∀ (rs : List D) (s : Deal), rs.length = m.toNat → (∀ r ∈ rs, In m r) → s.1.length ≤ 63 → ∃ (d : D) (dl' : Deal), (R.ok (D.lst rs, s) : R (D × Deal)) = .ok (d, dl') ∧ Col m (unfre d) ∧ dl'.1.length ≤ 63 := fun rs s l1 q l2 => ⟨_, s, rfl, ⟨rs, rfl, l1, q⟩, l2⟩
  by_cases c0 : f = 0
  · simp only [if_pos c0, bind_as, flb_bind, finish_bind]
    exact lc_run (P := fun r => ∃ (d : D) (dl' : Deal), r = .ok (d, dl') ∧ Col m (unfre d) ∧ dl'.1.length ≤ 63) (fun s => s.1.length ≤ 63) l (fun i i0 i1 s hs => ⟨(i + v) % m, s, by simp [mod_int, hm], Int.emod_nonneg _ (by omega), Int.emod_lt_of_pos _ hm, hs⟩) fin
  simp only [if_neg c0, flb_nx]
  by_cases c1 : f = 1
  · rw [if_pos c1]
    refine ⟨.lst (List.replicate m.toNat (.int v)), s, ?_, ⟨_, rfl, by simp, fun r hr => ⟨v, (List.mem_replicate.mp hr).2, v0, v1⟩⟩, l⟩
    have q1 : m < 1000000 := by omega
    have q2 : m.toNat ≤ 1000000 := by omega
    have q3 : 0 ≤ m := by omega
    simp [opMul, chk, q1, q2, q3]
  simp only [if_neg c1, flb_nx]
  by_cases c2 : f = 2
  · simp only [if_pos c2, bind_as, flb_bind, finish_bind]
    exact lc_run (P := fun r => ∃ (d : D) (dl' : Deal), r = .ok (d, dl') ∧ Col m (unfre d) ∧ dl'.1.length ≤ 63) (fun s => s.1.length ≤ 63) l (fun i i0 i1 s hs => ⟨if i = 0 then v else i, s, by by_cases c : i = 0 <;> simp [eq_int, c], by split <;> omega, by split <;> omega, hs⟩) fin
  simp only [if_neg c2, flb_nx]
  by_cases c3 : f = 3
  · simp only [if_pos c3, bind_as, flb_bind, finish_bind]
    exact lc_run (P := fun r => ∃ (d : D) (dl' : Deal), r = .ok (d, dl') ∧ Col m (unfre d) ∧ dl'.1.length ≤ 63) (fun s => s.1.length ≤ 63) l (fun i i0 i1 s hs => ⟨if (if i + v - 1 < m - 1 then i + v - 1 else m - 1) > 0 then if i + v - 1 < m - 1 then i + v - 1 else m - 1 else 0, s, by simp only [opSub_int, opAdd_int, R.bind_ok, bMin2_int, bMax2_int], by omega, by omega, hs⟩) fin
  simp only [if_neg c3, flb_nx]
  by_cases c4 : f = 4
  · obtain ⟨ys, dl', hp, e, l'⟩ := mixed_ok (.lst (rgD 0 m)) (rgD 0 m) rfl (by rw [rgD_len]; omega) (fun d hd => by
      obtain ⟨i, rfl, _, _⟩ := rgD_mem hd
      exact ⟨.int i, rfl, by simp [PyData.canLay0], by simp [PyData.depth]⟩) s l
    refine ⟨.lst ys, dl', by simp [c4, e, unfre], ⟨ys, rfl, by rw [hp.length_eq, rgD_len], fun r hr => rgD_mem (hp.subset hr)⟩, l'⟩
  simp only [if_neg c4, flb_nx]
  by_cases c5 : f = 5
  · simp only [if_pos c5, bind_as, flb_bind, finish_bind]
    exact lc_run (P := fun r => ∃ (d : D) (dl' : Deal), r = .ok (d, dl') ∧ Col m (unfre d) ∧ dl'.1.length ≤ 63) (fun s => s.1.length ≤ 63) l (fun i i0 i1 s hs => ⟨if v > i then v else i, s, by simp only [R.bind_ok, bMax2_int], by split <;> omega, by split <;> omega, hs⟩) fin
  simp only [if_neg c5, flb_nx]
  by_cases c6 : f = 6
  · simp only [if_pos c6, bind_as, flb_bind, finish_bind, div_int m 2 (by decide) (by decide), R.bind_ok, d1_one, bInt_int, bMax2_int]
    have hh : 0 < (if m / 2 > 1 then m / 2 else 1) ∧ (if m / 2 > 1 then m / 2 else 1) ≤ m := by split <;> omega
    generalize (if m / 2 > 1 then m / 2 else 1) = w at hh
    refine lc_run (P := fun r => ∃ (d : D) (dl' : Deal), r = .ok (d, dl') ∧ Col m (unfre d) ∧ dl'.1.length ≤ 63) (fun s => s.1.length ≤ 63) l (fun i i0 i1 s hs => ?_) fin
    have r0 := Int.emod_nonneg (i + v) (b := w) (by omega)
    have r1 := Int.emod_lt_of_pos (i + v) hh.1
    refine ⟨(i + v) % w + (if w ≤ i ∧ 2 * w ≤ m then w else 0), s, ?_, by split <;> omega, by split <;> omega, hs⟩
    by_cases k1 : w ≤ i <;> by_cases k2 : 2 * w ≤ m <;> simp [mod_int, hh.1, k1, k2, mul_int 2 w (.inl (by decide)), opLe]
  simp only [if_neg c6, flb_nx, bind_as, flb_bind, finish_bind]
  exact lc_run (P := fun r => ∃ (d : D) (dl' : Deal), r = .ok (d, dl') ∧ Col m (unfre d) ∧ dl'.1.length ≤ 63) (fun s => s.1.length ≤ 63) l (fun i i0 i1 s hs => by
    obtain ⟨v, s', e, v0, v1, l⟩ := any_ok m hm (by omega) s hs
    exact ⟨v, s', by simp [e], v0, v1, l⟩) fin
def Row (n : Int) (k : Nat) (r : D) : Prop := ∃ xs : List D, r = .lst xs ∧ xs.length = k ∧ ∀ x ∈ xs, In n x
theorem columns_ok (n : Int) (h0 : 0 < n) (h1 : n < 900) (cs : List D) (hc : cs ≠ []) (hl : cs.length ≤ 3) (h : ∀ c ∈ cs, Col n c) :
    ∃ rows : List D, m__law_columns [.lst cs] = .ok (.lst rows) ∧ rows.length = n.toNat ∧ ∀ r ∈ rows, Row n cs.length r := by
  have hp := List.length_pos_iff.mpr hc
  obtain ⟨xs, e0, l0, _⟩ := h cs[0] (List.getElem_mem _)
  have hk : chk (decide (cs.length ≤ 1000000)) cs = .ok cs := by simp [chk]; omega
  have hr : rgSm xs.length = true := by simp [rgSm]; omega
  simp only [m__law_columns, pk__law_columns, ar1, R.bind_ok, asItems_lst, hk, show opIx (.lst cs) (.int 0) = .ok cs[0] from ix_nat cs 0 hp, e0, d1_one, bLen_lst, asInt_int, hr, chk_true, rg_chk _ (show (xs.length : Int) < 1000 by omega)]
  obtain ⟨rs, s, e, l, q, _⟩ := lcL_inv (ds := rgD 0 xs.length) (s := ()) (Inv := fun _ => True) (Q := Row n cs.length) (f := lcT partName (ar1 (fun x => R.bad) fun v1 s => R.ok (true, s))
                      (ar1 (fun x => R.bad) fun v1 s =>
                        (lcL
                                  (lcT partName (ar1 (fun x => R.bad) fun v1 s => R.ok (true, s))
                                    (ar1 (fun x => R.bad) fun v2 s => (opIx v2 v1).bind fun d => R.ok (d, s)))
                                  cs s).bind
                          fun q => R.ok (D.lst q.fst, q.snd))) trivial (fun d hd s _ => by
    obtain ⟨i, rfl, i0, i1⟩ := rgD_mem hd
    obtain ⟨j, rfl⟩ := Int.eq_ofNat_of_zero_le i0
    obtain ⟨rs, s', e, l, q, _⟩ := lcL_inv (ds := cs) (s := s) (Inv := fun _ => True) (Q := In n) (f := lcT partName (ar1 (fun x => R.bad) fun v1 s => R.ok (true, s))
                                    (ar1 (fun x => R.bad) fun v2 s => (opIx v2 (.int j)).bind fun d => R.ok (d, s))) trivial (fun c hc s _ => by
      obtain ⟨ys, rfl, ly, qy⟩ := h c hc
      have hj : j < ys.length := by omega
      exact ⟨ys[j], s, by simp [lcT, ix_nat ys j hj], qy _ (List.getElem_mem _), trivial⟩)
    exact ⟨.lst rs, s', by simp [lcT, e], ⟨rs, rfl, l, q⟩, trivial⟩)
  refine ⟨rs, by simp [e], by rw [l, rgD_len]; omega, q⟩
/-- a drawn machine: its commands and its table -/
def Mac (N k : Int) (d : D) : Prop := 0 < k ∧ k < 4 ∧ ∃ (n : Int) (rows : List D), 0 < n ∧ n ≤ N ∧ d = .lst rows ∧ rows.length = n.toNat ∧ ∀ r ∈ rows, Row n k.toNat r
theorem machine_ok (N : Int) (hN : 0 < N) (hN' : N < 800) (dl : Deal) (hl : dl.1.length ≤ 63) : ∃ (k : Int) (d : D) (dl' : Deal), m__law_machine [.int N] dl = .ok (.tup [.int k, d], dl') ∧ Mac N k d ∧ dl'.1.length ≤ 63 := by
  simp only [m__law_machine, pk__law_machine, ar1, R.bind_ok, callL_one, asInt_int, unfre_int]
  obtain ⟨f, s1, e1, f0, f1, l1⟩ := any_ok 12 (by decide) (by decide) dl hl
  obtain ⟨kd, s2, hkd, e2, l2⟩ := of_ok [D.int 1, D.int 2, D.int 2, D.int 2, D.int 3] (by simp) (by simp) s1 l1
  obtain ⟨k, rfl, k0, k1⟩ : ∃ k : Int, kd = .int k ∧ 0 < k ∧ k < 4 := by
    simp at hkd
    rcases hkd with rfl | rfl | rfl <;> exact ⟨_, rfl, by decide, by decide⟩
  simp only [e1, R.bind_ok, unfre_int, show ([D.int 1, D.int 2, D.int 2, D.int 2, D.int 3] : List D).length ≤ 1000000 by decide, if_true, callL_one, e2, two_two, eq_int, asBool_bl, opGt_int, decide_eq_true_eq]
  have mk2 : ∀ a b : Int, 0 ≤ a → a < 4 → 0 ≤ b → b < 4 → Row 4 2 (.lst [.int a, .int b]) := fun a b a0 a1 b0 b1 => ⟨_, rfl, rfl, fun x hx => by
    rcases List.mem_cons.mp hx with rfl | hx
    · exact ⟨a, rfl, a0, a1⟩
    · rw [List.mem_singleton.mp hx]; exact ⟨b, rfl, b0, b1⟩⟩
  by_cases c10 : f = 10 ∧ 3 < N
  · obtain ⟨c10, big⟩ := c10
    refine ⟨2, .lst [.lst [.int 0, .int 1], .lst [.int 2, .int 3], .lst [.int 0, .int 1], .lst [.int 2, .int 3]], s2, by simp [c10, big], ⟨by decide, by decide, 4, _, by decide, by omega, rfl, rfl, fun r hr => ?_⟩, l2⟩
    simp at hr
    rcases hr with rfl | rfl | rfl | rfl <;> exact mk2 _ _ (by decide) (by decide) (by decide) (by decide)
  by_cases c11 : f = 11 ∧ 3 < N
  · obtain ⟨c11, big⟩ := c11
    obtain ⟨o, s3, e3, o0, o1, l3⟩ := any_ok 2 (by decide) (by decide) s2 l2
    obtain ⟨w, s4, hw, e4, l4⟩ := of_ok [D.int 1, D.int 3] (by simp) (by simp) s3 l3
    have ho : o = 0 ∨ o = 1 := by omega
    have hw' : w = .int 1 ∨ w = .int 3 := by simpa using hw
    obtain ⟨v, rfl, v0⟩ : ∃ v : Int, w = .int v ∧ (v = 1 ∨ v = 3) := by rcases hw' with rfl | rfl <;> exact ⟨_, rfl, by decide⟩
    refine ⟨2, .lst [.lst [.int o, .int v], .lst [.int o, .int 3], .lst [.int (2 + o), .int ((2 + v) % 4)], .lst [.int (2 + o), .int 1]], s4, ?_, ⟨by decide, by decide, 4, _, by decide, by omega, rfl, rfl, fun r hr => ?_⟩, l4⟩
    · simp [c11, big, e3, e4, unfre, partTup, two]
      rcases ho with rfl | rfl <;> rcases v0 with rfl | rfl <;> rfl
    · simp at hr
      rcases hr with rfl | rfl | rfl | rfl <;> exact mk2 _ _ (by omega) (by omega) (by omega) (by omega)
  have t10 : (if f = 10 then (R.ok (decide (3 < N), s2) : R (Bool × Deal)) else .ok (false, s2)) = .ok (false, s2) := by
    by_cases c : f = 10
    · simp [c, show ¬ 3 < N from fun h => c10 ⟨c, h⟩]
    · simp [c]
  have t11 : (if f = 11 then (R.ok (decide (3 < N), s2) : R (Bool × Deal)) else .ok (false, s2)) = .ok (false, s2) := by
    by_cases c : f = 11
    · simp [c, show ¬ 3 < N from fun h => c11 ⟨c, h⟩]
    · simp [c]
  simp only [t10, t11, R.bind_ok, Bool.false_eq_true, if_false, flb_nx]
  obtain ⟨u, s3, e3, u0, u1, l3⟩ := any_ok N (by omega) (by omega) s2 l2
  have hr : rgSm k = true := by simp [rgSm]; omega
  simp only [e3, R.bind_ok, unfre_int, opAdd_int, asInt_int, hr, chk_true, show chk (decide (([] : List D).length ≤ 1000000)) ([] : List D) = .ok [] from rfl]
  refine forL_run (P := fun r => ∃ (k : Int) (d : D) (dl' : Deal), Pv.finish r = .ok (.tup [.int k, d], dl') ∧ Mac N k d ∧ dl'.1.length ≤ 63)
    (fun n (a : List D) (s : Deal) => a.length = n ∧ (∀ c ∈ a, Col (1 + u) c) ∧ s.1.length ≤ 63) ⟨rfl, by simp, l3⟩ (fun j hj a s ⟨al, ac, sl⟩ => ?_) (fun a s ⟨al, ac, sl⟩ => ?_)
  · have ha : a.length < 1000000 := by rw [rgD_len] at hj; omega
    have key : ∀ (g : Int) (s : Deal), s.1.length ≤ 63 → ∃ a' s', (((callL 2 0 [] m__law_column [.int g, .int (1 + u)] [] s).bind fun r => R.ok (unfre r.1, r.2)).bind fun p => (chk (decide (a.length < 1000000)) ()).bind fun x => (R.ok (Fl.nx (a ++ [p.1]), p.2) : R (Fl (List D) (List D) × Deal))) = .ok (.nx a', s') ∧ a'.length = j + 1 ∧ (∀ c ∈ a', Col (1 + u) c) ∧ s'.1.length ≤ 63 := fun g s hs => by
      obtain ⟨d, s', e, hc, l⟩ := column_ok g (1 + u) (by omega) (by omega) s hs
      refine ⟨a ++ [unfre d], s', ?_, by simp [al], fun c hc' => ?_, l⟩
      · simp [callL, argsM, e, ha]
      · rcases List.mem_append.mp hc' with h | h
        · exact ac c h
        · rw [List.mem_singleton.mp h]; exact hc
    by_cases c7 : 7 < f
    · obtain ⟨g, s4, e4, g0, g1, l4⟩ := any_ok 8 (by decide) (by decide) s sl
      simp only [c7, decide_true, R.bind_ok, if_true, e4, unfre_int]
      exact key g s4 l4
    · simp only [c7, decide_false, R.bind_ok, if_false, Bool.false_eq_true]
      exact key f s sl
  · rw [rgD_len] at al
    obtain ⟨rows, e, lr, hrw⟩ := columns_ok (1 + u) (by omega) (by omega) a (by rintro rfl; simp at al; omega) (by omega) ac
    refine ⟨k, .lst rows, s, ?_, ⟨k0, k1, 1 + u, rows, by omega, by omega, rfl, lr, fun r hr => ?_⟩, sl⟩
    · simp [callM, argsM, e, unfre]
    · rw [← al]; exact hrw r hr
end Gk03
set_option linter.all false
namespace Gk03
open PySem Pv L2
theorem ins_map {n : Nat} : ∀ {xs : List D}, (∀ x ∈ xs, In n x) → ∃ ys : List Nat, xs = ys.map nD ∧ ∀ y ∈ ys, y < n
  | [], _ => ⟨[], rfl, by simp⟩
  | x :: xs, h => by
    obtain ⟨ys, rfl, hy⟩ := ins_map fun x hx => h x (List.mem_cons_of_mem _ hx)
    obtain ⟨i, rfl, i0, i1⟩ := h x (List.mem_cons_self ..)
    obtain ⟨j, rfl⟩ := Int.eq_ofNat_of_zero_le i0
    refine ⟨j :: ys, rfl, fun y hy' => ?_⟩
    rcases List.mem_cons.mp hy' with rfl | h
    · omega
    · exact hy y h
theorem rows_map {n : Nat} {k : Nat} : ∀ {rows : List D}, (∀ r ∈ rows, Row n k r) → ∃ st : List (List Nat), rows = (st.map fun r => .lst (r.map nD)) ∧ ∀ r ∈ st, r.length = k ∧ ∀ x ∈ r, x < n
  | [], _ => ⟨[], rfl, by simp⟩
  | r :: rows, h => by
    obtain ⟨st, rfl, hst⟩ := rows_map fun r hr => h r (List.mem_cons_of_mem _ hr)
    obtain ⟨xs, rfl, l, q⟩ := h r (List.mem_cons_self ..)
    obtain ⟨ys, rfl, hy⟩ := ins_map q
    refine ⟨ys :: st, rfl, fun y hy' => ?_⟩
    rcases List.mem_cons.mp hy' with rfl | h
    · exact ⟨by simpa using l, hy⟩
    · exact hst y h
theorem machine_ok' (N : Nat) (hN : 0 < N) (hN' : N < 800) (dl : Deal) (hl : dl.1.length ≤ 63) : ∃ (m : Mt) (dl' : Deal), m__law_machine [.int (N : Int)] dl = .ok (.tup [.int m.k, m.given], dl') ∧ m.Ok ∧ m.k < 4 ∧ m.n ≤ N ∧ dl'.1.length ≤ 63 := by
  obtain ⟨k, d, dl', e, ⟨k0, k1, n, rows, n0, n1, rfl, lr, hr⟩, l⟩ := machine_ok N (by omega) (by omega) dl hl
  obtain ⟨k, rfl⟩ := Int.eq_ofNat_of_zero_le (Int.le_of_lt k0)
  obtain ⟨n, rfl⟩ := Int.eq_ofNat_of_zero_le (Int.le_of_lt n0)
  obtain ⟨st, rfl, hst⟩ := rows_map (n := n) (k := k) hr
  exact ⟨⟨k, n, st⟩, dl', e, ⟨by simpa using k0, by simpa using n0, by simpa using lr, hst⟩, by show k < 4; omega, by show n ≤ N; omega, l⟩
theorem ty_int (i : Int) : isTy [PySem.Str.ofString "Machine"] ["int"] (.int i) = .ok (.bl true) := rfl
theorem ty_bool (i : Int) : isTy [PySem.Str.ofString "Machine"] ["bool"] (.int i) = .ok (.bl false) := rfl
theorem ty_tup (i : List D) : isTy [PySem.Str.ofString "Machine"] ["tuple"] (.tup i) = .ok (.bl true) := rfl
theorem is_number_int (i : Int) : m_is_number [.int i] = .ok (.bl (decide (0 ≤ i))) := by
  by_cases c : 0 ≤ i <;> simp [m_is_number, pk_is_number, m_is_integer, pk_is_integer, ar1, callM, argsM, c, ty_int, ty_bool, unfre]
theorem is_seq_lst (xs : List D) : m_is_sequence [.lst xs] = .ok (.bl true) := rfl
theorem is_seq_tup (xs : List D) : m_is_sequence [.tup xs] = .ok (.bl true) := rfl
theorem is_index_int (i n : Int) : m_is_index [.int i, .int n] = .ok (.bl (decide (0 ≤ i ∧ i < n))) := by
  by_cases c : 0 ≤ i <;> by_cases e : i < n <;> simp [m_is_index, pk_is_index, ar2, callM, argsM, is_number_int, c, e, unfre, opLt]
theorem init_ok (m : Mt) (h : m.Ok) (hk : m.k < 1000) (hn : m.n < 1000) : m_Machine_init [.int m.k, m.given] = .ok m.fields := by
  obtain ⟨k0, n0, lr, hr⟩ := h
  have c0 : ¬ ((m.k : Int) = 0) := by omega
  have rl : ¬ ((m.st.length : Int) = 0) := by omega
  have e1 : callM 1 0 [] m_is_number [.int m.k] [] = .ok (.bl true) := by simp [callM, argsM, nD, is_number_int]
  have e2 : ∀ xs, callM 1 0 [] m_is_sequence [.lst xs] [] = .ok (.bl true) := fun xs => rfl
  simp only [m_Machine_init, pk_Machine_init, ar2, e1, Mt.given, e2, unfre_bl, R.bind_ok, asBool_bl, Bool.not_true, nD, eq_int, c0, decide_false, Bool.false_eq_true, if_false, flb_nx, d1_one, bLen_lst, List.length_map, rl, asItems_lst, chk_le m.st _ (show m.st.length ≤ 1000000 by omega), enD_enF]
  refine enF_run (P := fun r => finishI r id = .ok m.fields) (fun _ _ _ => True) trivial (fun pre x post a s e _ => ?_) (fun a s _ => ?_)
  · have hx : x ∈ m.st := by rw [e]; simp
    obtain ⟨lx, qx⟩ := hr x hx
    refine ⟨(), s, ?_, trivial⟩
    show R.bind (α := Bool × Unit) _ _ = _
    simp only [e2, unfre_bl, R.bind_ok, asBool_bl, Bool.not_true, Bool.false_eq_true, if_false, bLen_lst, ne_int, List.length_map, lx, ne_eq, not_true_eq_false, decide_false, asItems_lst, List.length_map, show m.k ≤ 1000000 by omega, decide_true, chk_true]
    rw [lc_map (g := fun _ => .bl true) (fun d hd s => by
      have := qx d hd
      simp [lcT, callM, argsM, is_index_int, nD, unfre, lr, this])]
    simp only [R.bind_ok, d1_one, bAll_map (fun _ => true), asBool_bl]
    simp
  · rw [lc_map (g := fun r => .tup (r.map nD)) (fun d hd s => by simp [lcT, bTuple])]
    simp only [R.bind_ok, bTuple_lst, Mt.fields, lr, nD]
    rfl
/-- a plain datum -/
def Pl : D → Prop
  | .non => True
  | .bl _ => True
  | .int _ => True
  | .str _ => True
  | .tup _ => True
  | .lst _ => True
  | _ => False
def isNum : D → Bool
  | .int i => decide (0 ≤ i)
  | _ => false
theorem is_number_d (d : D) (h : Pl d) : m_is_number [d] = .ok (.bl (isNum d)) := by
  cases d with
  | int i => exact is_number_int i
  | non => rfl
  | bl b => rfl
  | str z => rfl
  | tup xs => rfl
  | lst xs => rfl
  | _ => exact h.elim
def isIx (n : Int) : D → Bool
  | .int i => decide (0 ≤ i ∧ i < n)
  | _ => false
theorem is_index_d (d : D) (n : Int) (h : Pl d) : m_is_index [d, .int n] = .ok (.bl (isIx n d)) := by
  cases d with
  | int i => exact is_index_int i n
  | non => rfl
  | bl b => rfl
  | str z => rfl
  | tup xs => rfl
  | lst xs => rfl
  | _ => exact h.elim
def slipB (k : Int) : D → Bool
  | .tup [a, b] => isNum a && isIx k b
  | _ => false
/-- plain, and so is what it holds if it is a tuple -/
def Pl2 (d : D) : Prop := Pl d ∧ ∀ xs, d = .tup xs → xs.length < 1000 ∧ ∀ x ∈ xs, Pl x
theorem is_slip_d (m : Mt) (d : D) (h : Pl2 d) : m_is_slip [m.obj, d] = .ok (.bl (slipB m.k d)) := by
  obtain ⟨h, h2⟩ := h
  cases d with
  | int i => rfl
  | non => rfl
  | bl b => rfl
  | str z => rfl
  | lst xs => rfl
  | tup xs =>
    simp only [m_is_slip, pk_is_slip, ar2, R.bind_ok, ty_tup, asBool_bl, Bool.not_true, Bool.false_eq_true, if_false, d1_one, bLen_tup, ne_int]
    match xs, h2 with
    | [], _ => rfl
    | [a], _ => rfl
    | a :: b :: c :: r, _ =>
      have : ((a :: b :: c :: r).length : Int) ≠ 2 := by simp; omega
      rw [decide_eq_true this]
      rfl
    | [a, b], h2 =>
      have ha := is_number_d a ((h2 _ rfl).2 a (by simp))
      have hb := is_index_d b m.k ((h2 _ rfl).2 b (by simp))
      cases q : isNum a <;> simp [ixT0, ixT1, callM, argsM, ha, hb, unfre, slipB, q, m.at_commands, nD]
  | _ => exact h.elim
theorem checked_slip_ok (m : Mt) (d : D) (h : Pl2 d) (hs : slipB m.k d = true) : m_checked_slip [m.obj, d] = .ok d := by
  simp [m_checked_slip, pk_checked_slip, ar2, callM, argsM, is_slip_d m d h, hs, unfre_bl]
theorem checked_slip_err (m : Mt) (d : D) (h : Pl2 d) (hs : slipB m.k d = false) : m_checked_slip [m.obj, d] = .err "InvalidSlip" (.int 0) := by
  simp [m_checked_slip, pk_checked_slip, ar2, callM, argsM, is_slip_d m d h, hs, unfre_bl]
def SlipOk (k : Nat) (p : Int × Int) : Prop := 0 ≤ p.1 ∧ 0 ≤ p.2 ∧ p.2 < k
theorem pD_pl (p : Int × Int) : Pl2 (pD p) := ⟨trivial, fun xs e => by
  cases e
  refine ⟨by simp, fun x hx => ?_⟩
  simp at hx
  rcases hx with rfl | rfl <;> trivial⟩
theorem pD_slip {k : Nat} {p : Int × Int} (h : SlipOk k p) : slipB k (pD p) = true := by
  obtain ⟨h1, h2, h3⟩ := h
  simp [slipB, pD, isNum, isIx, h1, h2, h3]
/-- the dict of the times so far -/
def Seen (ps : List (Int × Int)) (a : List (Key × D)) : Prop := a.length ≤ ps.length ∧ ∀ t : Int, (valD a (.inl t)).isSome = (ps.map (·.1)).contains t
theorem valD_put (a : List (Key × D)) (k k' : Key) (d : D) : (valD (putKD a k d) k').isSome = ((valD a k').isSome || decide (k = k')) := by
  have e : ∀ (l : List (Key × D)), (valD l k').isSome = l.any fun kv => decide (kv.1 = k') := by
    intro l
    induction l with
    | nil => rfl
    | cons x l ih =>
      unfold valD at ih ⊢
      by_cases c : x.1 = k'
      · simp [List.find?_cons, c]
      · simp only [List.find?_cons, c, decide_false, List.any_cons, Bool.false_or]; exact ih
  rw [e, e]
  unfold putKD
  split
  · rename_i h
    rw [List.any_map]
    have : (a.any ((fun kv => decide (kv.1 = k')) ∘ fun kv => if kv.1 = k then (kv.1, d) else kv)) = a.any fun kv => decide (kv.1 = k') := by
      congr 1
      funext kv
      simp only [Function.comp]
      split <;> rfl
    rw [this]
    by_cases c : k = k'
    · subst c
      simp [h]
    · simp [c]
  · simp [List.any_append]
theorem putKD_len (a : List (Key × D)) (k : Key) (d : D) : (putKD a k d).length ≤ a.length + 1 := by
  unfold putKD
  split <;> simp
theorem Seen.put {ps : List (Int × Int)} {a : List (Key × D)} (h : Seen ps a) (p : Int × Int) (d : D) : Seen (ps ++ [p]) (putKD a (.inl p.1) d) := by
  refine ⟨Nat.le_trans (putKD_len ..) (by have := h.1; simp; omega), fun t => ?_⟩
  rw [valD_put, h.2 t, List.map_append]
  simp only [List.contains_append, List.map_cons, List.map_nil, List.contains_cons, List.contains_nil, Bool.or_false]
  congr 1
  by_cases c : p.1 = t
  · simp [c]
  · simp [c, Ne.symm c]
def chkT (i : Nat) (a : List (Key × D)) : D → R (Fl (List (Key × D)) (List (Key × D)) × Unit)
  | .tup [.int t, _] => if (valD a (.inl t)).isSome = true then .err "InvalidSlip" (.int i) else .ok (.nx (putKD a (.inl t) (.bl true)), ())
  | _ => .bad
def chkOut (k : Int) (i : Nat) (a : List (Key × D)) (d : D) : R (Fl (List (Key × D)) (List (Key × D)) × Unit) := if slipB k d = true then chkT i a d else .err "InvalidSlip" (.int i)
/-- the loop of checked_heap over slips with unlike times -/
theorem heap_loop {β : Type} (m : Mt) (f : D → List (Key × D) → Unit → R (Fl (List (Key × D)) (List (Key × D)) × Unit))
    (hf : ∀ (i : Nat) (d : D) (a : List (Key × D)), Pl2 d → a.length < 1000 → f (.tup [.int i, d]) a () = chkOut m.k i a d) :
    ∀ (ps pre : List (Int × Int)) (a : List (Key × D)) (rest : List D), (∀ p ∈ ps, SlipOk m.k p) → ((pre ++ ps).map (·.1)).Nodup → Seen pre a → (pre ++ ps).length < 1000 →
      ∃ a', Seen (pre ++ ps) a' ∧ forL (γ := β) f (enF id pre.length (ps.map pD ++ rest)) a () = forL f (enF id (pre ++ ps).length rest) a' ()
  | [], pre, a, rest, _, _, hs, _ => ⟨a, by simpa using hs, by simp⟩
  | p :: ps, pre, a, rest, hp, hn, hs, hl => by
    have h1 : (valD a (.inl p.1)).isSome = false := by
      rw [hs.2 p.1]
      rw [List.map_append, List.map_cons] at hn
      have := (List.nodup_append.mp hn).2.2
      cases q : (pre.map (·.1)).contains p.1 with
      | false => rfl
      | true => exact absurd rfl (this p.1 (by simpa using q) p.1 (List.mem_cons_self ..))
    have hal : a.length < 1000 := by have := hs.1; simp at hl; omega
    obtain ⟨a', s', e⟩ := heap_loop (β := β) m f hf ps (pre ++ [p]) (putKD a (.inl p.1) (.bl true)) rest (fun q hq => hp q (List.mem_cons_of_mem _ hq)) (by simpa using hn) (hs.put p _) (by simpa using hl)
    refine ⟨a', by simpa using s', ?_⟩
    rw [List.map_cons, List.cons_append, enF_cons, forL_cons]
    have := hf pre.length (pD p) a (pD_pl p) hal
    unfold chkOut at this
    rw [pD_slip (hp p (List.mem_cons_self ..)), if_pos rfl] at this
    simp only [id]
    rw [this]
    simp only [pD, chkT, h1, Bool.false_eq_true, if_false, R.bind_ok]
    have e2 := e
    simp only [List.append_assoc, List.singleton_append, List.length_append, List.length_cons, List.length_nil] at e2 ⊢
    exact e2
theorem heap_run {β γ : Type} {P : R (Fl γ β × Unit) → Prop} (m : Mt) {f : D → List (Key × D) → Unit → R (Fl (List (Key × D)) (List (Key × D)) × Unit)} {k : List (Key × D) → Unit → R (Fl γ β × Unit)} (ps : List (Int × Int)) (rest : List D) {xs : List D} (hx : xs = ps.map pD ++ rest)
    (hp : ∀ p ∈ ps, SlipOk m.k p) (hn : (ps.map (·.1)).Nodup) (hl : ps.length < 1000)
    (hf : ∀ (i : Nat) (d : D) (a : List (Key × D)), Pl2 d → a.length < 1000 → f (.tup [.int i, d]) a () = chkOut m.k i a d)
    (hk : ∀ a', Seen ps a' → P (flb (forL f (enF id ps.length rest) a' ()) k)) : P (flb (forL f (enF id 0 xs) [] ()) k) := by
  obtain ⟨a', s, e⟩ := heap_loop (β := β) m f hf ps [] [] rest hp (by simpa using hn) ⟨Nat.le_refl _, fun t => rfl⟩ (by simpa using hl)
  rw [hx, show (0 : Nat) = ([] : List (Int × Int)).length from rfl, e]
  exact hk a' s
theorem chk_body (m : Mt) (i : Nat) (d : D) (a : List (Key × D)) (h2 : Pl2 d) (al : a.length < 1000) : 
    ((callM 2 0 [] m_is_slip [m.obj, d] []).bind fun a_1 =>
      (asBool (unfre a_1)).bind fun a_2 =>
        (if (!a_2) = true then R.ok (true, ()) else (opIx d (D.int 0)).bind fun a_3 => (opt (keyD a_3)).bind fun ky => R.ok ((valD a ky).isSome, ())).bind
          fun p =>
          flb (if p.fst = true then R.err (Str.ofString "InvalidSlip") (.int i) else R.ok (Fl.nx (), p.snd))
            fun (_ : Unit) s =>
            (opIx d (D.int 0)).bind fun a_3 =>
              (opt (keyD a_3)).bind fun ky =>
                (chk (decide (a.length < 1000000)) ()).bind fun _ =>
                  (R.ok (Fl.nx (putKD a ky (D.bl true)), s) : R (Fl (List (Key × D)) (List (Key × D)) × Unit))) =
    chkOut m.k i a d := by
  simp only [callM, argsM, List.map_nil, List.append_nil, List.length_cons, List.length_nil, and_self, if_true, is_slip_d m d h2, R.bind_ok, unfre_bl, asBool_bl]
  unfold chkOut
  cases q : slipB m.k d with
  | false => simp
  | true =>
    obtain ⟨t, c, rfl⟩ : ∃ t c, d = .tup [.int t, .int c] := by
      unfold slipB at q
      split at q
      · rename_i a b
        cases a <;> cases b <;> simp [isNum, isIx] at q
        exact ⟨_, _, rfl⟩
      · cases q
    simp only [not_tt, if_ff, ixT0, R.bind_ok, keyD, opt_some, if_true, chkT]
    by_cases w : (valD a (.inl t)).isSome = true
    · simp [w]
    · simp [w, show a.length < 1000000 by omega, chk_true]
theorem asc_nodup {hs : List (Int × Int)} (h : hs.Pairwise fun p q => p.1 < q.1) : (hs.map (·.1)).Nodup := by
  rw [List.nodup_iff_pairwise_ne, List.pairwise_map]
  exact h.imp fun x => Int.ne_of_lt x
theorem is_seq_sq (b : Bool) (xs : List D) : m_is_sequence [sqD b xs] = .ok (.bl true) := by cases b <;> rfl
theorem enD_id (xs : List D) : enD xs = enF id 0 xs := by
  have := enD_enF id xs
  rwa [List.map_id] at this
theorem checked_heap_ok (m : Mt) (b : Bool) (ps hs : List (Int × Int)) (h : hs.Pairwise fun p q => p.1 < q.1) (hp : ps.Perm hs) (hk : ∀ p ∈ hs, SlipOk m.k p) (hl : hs.length < 1000) :
    m_checked_heap [m.obj, sqD b (ps.map pD)] = .ok (.tup (hs.map pD)) := by
  have e1 : callM 1 0 [] m_is_sequence [sqD b (ps.map pD)] [] = .ok (.bl true) := by simp [callM, argsM, is_seq_sq]
  have hl' : ps.length < 1000 := by rw [hp.length_eq]; exact hl
  simp only [m_checked_heap, pk_checked_heap, ar2, bind_as, flb_bind, finish1_bind, R.bind_ok, e1, unfre_bl, asBool_bl, not_tt, if_ff, flb_nx, asItems_sq, enD_id]
  refine heap_run (P := fun r => finish1 r = _) m ps [] (by rw [List.append_nil]) (fun p hp' => hk p (hp.subset hp')) ((hp.map (·.1)).nodup_iff.mpr (asc_nodup h)) hl' (fun i d a h2 al => chk_body m i d a h2 al) fun a' _ => ?_
  simp only [enF, List.zipIdx_nil, List.map_nil, forL, flb_nx, d1_one]
  rw [show pD = pairD from rfl, sorted_sq b h hp]
  rfl
theorem checked_heap_err (m : Mt) (b : Bool) (ps : List (Int × Int)) (d : D) (rest : List D) (hn : (ps.map (·.1)).Nodup) (hk : ∀ p ∈ ps, SlipOk m.k p) (hl : ps.length < 1000) (h2 : Pl2 d)
    (hd : slipB m.k d = false ∨ ∃ t c, d = .tup [.int t, c] ∧ t ∈ ps.map (·.1)) :
    m_checked_heap [m.obj, sqD b (ps.map pD ++ d :: rest)] = .err "InvalidSlip" (.int ps.length) := by
  have e1 : callM 1 0 [] m_is_sequence [sqD b (ps.map pD ++ d :: rest)] [] = .ok (.bl true) := by simp [callM, argsM, is_seq_sq]
  simp only [m_checked_heap, pk_checked_heap, ar2, bind_as, flb_bind, finish1_bind, R.bind_ok, e1, unfre_bl, asBool_bl, not_tt, if_ff, flb_nx, asItems_sq, enD_id]
  refine heap_run (P := fun r => finish1 r = _) m ps (d :: rest) rfl hk hn hl (fun i d a h2 al => chk_body m i d a h2 al) fun a' s => ?_
  rw [enF_cons, forL_cons]
  simp only [id, pair2]
  rw [chk_body m ps.length d a' h2 (by have := s.1; omega)]
  rcases hd with hd | ⟨t, c, rfl, ht⟩
  · unfold chkOut
    rw [hd]
    rfl
  · unfold chkOut
    have := s.2 t
    rw [List.contains_iff_mem.mpr ht] at this
    cases q : slipB m.k (.tup [.int t, c]) with
    | false => rfl
    | true => simp [chkT, this]
/-- one step, a row of steps -/
def step (m : Mt) (s c : Nat) : Nat := (m.st.getD s []).getD c 0
def run (m : Mt) (s : Nat) (row : List Nat) : Nat := row.foldl (step m) s
theorem step_lt {m : Mt} (h : m.Ok) {s c : Nat} (hs : s < m.n) (hc : c < m.k) : step m s c < m.n := by
  obtain ⟨k0, n0, lr, hr⟩ := h
  have h1 : s < m.st.length := by omega
  have h2 := hr _ (List.getElem_mem h1)
  have h3 : c < m.st[s].length := by omega
  unfold step
  rw [show m.st.getD s [] = m.st[s] by simp [List.getD, h1], show m.st[s].getD c 0 = m.st[s][c] by simp [List.getD, h3]]
  exact h2.2 _ (List.getElem_mem h3)
theorem run_lt {m : Mt} (h : m.Ok) : ∀ {row : List Nat} {s : Nat}, s < m.n → (∀ c ∈ row, c < m.k) → run m s row < m.n
  | [], _, hs, _ => hs
  | c :: row, s, hs, hr => run_lt h (row := row) (step_lt h hs (hr c (List.mem_cons_self ..))) fun x hx => hr x (List.mem_cons_of_mem _ hx)
theorem ix_row {m : Mt} (h : m.Ok) {s c : Nat} (hs : s < m.n) (hc : c < m.k) (b e : Bool) : (opIx (sqD b (m.st.map fun r => sqD e (r.map nD))) (nD s)).bind (fun a => opIx a (nD c)) = .ok (nD (step m s c)) := by
  obtain ⟨k0, n0, lr, hr⟩ := h
  have h1 : s < m.st.length := by omega
  have h2 := hr _ (List.getElem_mem h1)
  have h3 : c < m.st[s].length := by omega
  have e1 : opIx (sqD b (m.st.map fun r => sqD e (r.map nD))) (nD s) = .ok (sqD e (m.st[s].map nD)) := by
    unfold nD
    cases b
    · show opIx (.tup _) _ = _
      rw [ix_natT _ _ (by simpa using h1), List.getElem_map]
    · show opIx (.lst _) _ = _
      rw [ix_nat _ _ (by simpa using h1), List.getElem_map]
  rw [e1, R.bind_ok]
  have e2 : opIx (sqD e (m.st[s].map nD)) (nD c) = .ok (nD m.st[s][c]) := by
    rw [show nD c = D.int (c : Int) from rfl]
    cases e
    · show opIx (.tup _) _ = _
      rw [ix_natT _ _ (by simpa using h3), List.getElem_map]
    · show opIx (.lst _) _ = _
      rw [ix_nat _ _ (by simpa using h3), List.getElem_map]
  rw [e2]
  unfold step
  rw [show m.st.getD s [] = m.st[s] by simp [List.getD, h1], show m.st[s].getD c 0 = m.st[s][c] by simp [List.getD, h3]]
theorem led_ok {m : Mt} (h : m.Ok) (b : Bool) (row : List Nat) (hr : ∀ c ∈ row, c < m.k) {s : Nat} (hs : s < m.n) : m_led [m.obj, nD s, sqD b (row.map nD)] = .ok (nD (run m s row)) := by
  simp only [m_led, pk_led, ar3, bind_as, flb_bind, finish1_bind, R.bind_ok, asItems_sq]
  refine forL_run' (P := fun r => finish1 r = _) (fun pre a _ => a = nD (run m s pre)) rfl (fun pre c post a s' e i => ?_) (fun a s' i => by rw [i]; rfl)
  subst i
  have hp : run m s pre < m.n := run_lt h hs fun x hx => hr x (by rw [e]; simp [hx])
  have := ix_row h hp (hr c (by rw [e]; simp)) false false
  refine ⟨nD (run m s (pre ++ [c])), s', ?_, rfl⟩
  simp only [Mt.at_steps, R.bind_ok]
  have e2 := this
  simp only [sqD, Bool.false_eq_true, if_false] at e2
  rw [← bind_as, e2]
  simp [run]
theorem law_led_ok {m : Mt} (h : m.Ok) (b : Bool) (row : List Nat) (hr : ∀ c ∈ row, c < m.k) {s : Nat} (hs : s < m.n) : m__law_led [m.given, nD s, sqD b (row.map nD)] = .ok (nD (run m s row)) := by
  simp only [m__law_led, pk__law_led, ar3, bind_as, flb_bind, finish1_bind, R.bind_ok, asItems_sq]
  refine forL_run' (P := fun r => finish1 r = _) (fun pre a _ => a = nD (run m s pre)) rfl (fun pre c post a s' e i => ?_) (fun a s' i => by rw [i]; rfl)
  subst i
  have hp : run m s pre < m.n := run_lt h hs fun x hx => hr x (by rw [e]; simp [hx])
  have := ix_row h hp (hr c (by rw [e]; simp)) true true
  refine ⟨nD (run m s (pre ++ [c])), s', ?_, rfl⟩
  have e2 := this
  simp only [sqD, if_true] at e2
  rw [← bind_as, show m.given = .lst (m.st.map fun r => .lst (r.map nD)) from rfl, e2]
  simp [run]
theorem row_of_ok (m : Mt) (b : Bool) (ps hs : List (Int × Int)) (h : hs.Pairwise fun p q => p.1 < q.1) (hp : ps.Perm hs) (hk : ∀ p ∈ hs, SlipOk m.k p) (hl : hs.length < 1000) :
    m_row_of [m.obj, sqD b (ps.map pD)] = .ok (.tup (hs.map fun p => .int p.2)) := by
  simp only [m_row_of, pk_row_of, ar2, bind_as, flb_bind, finish1_bind, R.bind_ok, callM2, checked_heap_ok m b ps hs h hp hk hl, unfre_tup, asItems_tup, chk_len pD hs 1000000 (by omega)]
  rw [lc_map (g := fun p : Int × Int => .int p.2) (fun p hp' s => by simp [lcT, pD, part2])]
  rfl
theorem since_ok (m : Mt) (b : Bool) (ps hs : List (Int × Int)) (h : hs.Pairwise fun p q => p.1 < q.1) (hp : ps.Perm hs) (hk : ∀ p ∈ hs, SlipOk m.k p) (hl : hs.length < 1000) (t : Int) :
    m_since [m.obj, sqD b (ps.map pD), .int t] = .ok (.tup ((hs.filter fun p => decide (t < p.1)).map pD)) := by
  simp only [m_since, pk_since, ar3, bind_as, flb_bind, finish1_bind, R.bind_ok, callM2, checked_heap_ok m b ps hs h hp hk hl, unfre_tup, asItems_tup, chk_len pD hs 1000000 (by omega)]
  rw [lc_filter (q := fun p : Int × Int => decide (t < p.1)) (g := pD) (fun p hp' s => by by_cases c : t < p.1 <;> simp [lcT, pD, ixT0, opGt_int, c])]
  rfl
theorem until_ok (m : Mt) (b : Bool) (ps hs : List (Int × Int)) (h : hs.Pairwise fun p q => p.1 < q.1) (hp : ps.Perm hs) (hk : ∀ p ∈ hs, SlipOk m.k p) (hl : hs.length < 1000) (t : Int) :
    m_until [m.obj, sqD b (ps.map pD), .int t] = .ok (.tup ((hs.filter fun p => decide (p.1 < t)).map pD)) := by
  simp only [m_until, pk_until, ar3, bind_as, flb_bind, finish1_bind, R.bind_ok, callM2, checked_heap_ok m b ps hs h hp hk hl, unfre_tup, asItems_tup, chk_len pD hs 1000000 (by omega)]
  rw [lc_filter (q := fun p : Int × Int => decide (p.1 < t)) (g := pD) (fun p hp' s => by by_cases c : p.1 < t <;> simp [lcT, pD, ixT0, opLt_int, c])]
  rfl
end Gk03
set_option linter.all false
set_option maxHeartbeats 4000000
namespace Gk03
open PySem Pv L2
/-- an ascending heap of the machine -/
structure HeapOk (k : Nat) (hs : List (Int × Int)) : Prop where
  asc : hs.Pairwise fun p q => p.1 < q.1
  ok : ∀ p ∈ hs, SlipOk k p
  len : hs.length < 300
  bd : ∀ p ∈ hs, p.1 < 1000
theorem flat_int (i : Int) : flatD (.int i) = true := by simp [flatD]
theorem in_times (t : Int) (xs : List (Int × Int)) : opIn (.int t) (.lst (xs.map fun p => .int p.1)) = .ok (.bl (decide (t ∈ xs.map (·.1)))) := by
  have h1 : (xs.map fun p => D.int p.1).all flatD = true := by simp [List.all_map, Function.comp_def, flat_int]
  simp only [opIn, asItems_lst, R.bind_ok, flat_int, h1, Bool.and_self, chk_true]
  congr 2
  rw [List.any_map]
  induction xs with
  | nil => simp
  | cons x xs ih =>
    rw [List.any_cons, ih (by simp [List.all_map, Function.comp_def, flat_int])]
    have : eqF (D.int x.1) (.int t) = decide (x.1 = t) := by simp only [eqF]; rfl
    simp only [Function.comp, this]
    by_cases c : x.1 = t <;> simp [c, eq_comm]
    intro h; exact absurd h.symm c
/-- a slip put in, by time -/
def insP (p : Int × Int) : List (Int × Int) → List (Int × Int)
  | [] => [p]
  | q :: hs => if p.1 < q.1 then p :: q :: hs else q :: insP p hs
theorem insP_perm (p : Int × Int) : ∀ hs : List (Int × Int), (insP p hs).Perm (p :: hs)
  | [] => .refl _
  | q :: hs => by
    unfold insP
    split
    · exact .refl _
    · exact ((insP_perm p hs).cons q).trans (.swap p q hs)
theorem insP_asc {p : Int × Int} : ∀ {hs : List (Int × Int)}, hs.Pairwise (fun p q => p.1 < q.1) → p.1 ∉ hs.map (·.1) → (insP p hs).Pairwise fun p q => p.1 < q.1
  | [], _, _ => List.pairwise_singleton ..
  | q :: hs, h, n => by
    obtain ⟨h1, h2⟩ := List.pairwise_cons.mp h
    simp only [List.map_cons, List.mem_cons, not_or] at n
    unfold insP
    split
    · rename_i c
      refine List.pairwise_cons.mpr ⟨fun x hx => ?_, h⟩
      rcases List.mem_cons.mp hx with rfl | hx
      · exact c
      · have := h1 x hx; omega
    · rename_i c
      refine List.pairwise_cons.mpr ⟨fun x hx => ?_, insP_asc h2 n.2⟩
      rcases List.mem_cons.mp ((insP_perm p hs).subset hx) with rfl | hx
      · omega
      · exact h1 x hx
theorem put_in_ok {m : Mt} {hs ps : List (Int × Int)} (H : HeapOk m.k hs) (hp : ps.Perm hs) (b : Bool) (p : Int × Int) (hv : SlipOk m.k p) : m_put_in [m.obj, sqD b (ps.map pD), pD p] = if p.1 ∈ hs.map (·.1) then .err "Refused" (.int 0) else .ok (.tup ((insP p hs).map pD)) := by
  have hl := H.len
  simp only [m_put_in, pk_put_in, ar3, bind_as, flb_bind, finish1_bind, R.bind_ok, callM2, checked_heap_ok m b ps hs H.asc hp H.ok (by omega), checked_slip_ok m _ (pD_pl p) (pD_slip hv), unfre_tup, show unfre (pD p) = pD p from rfl, two_two, show opIx (pD p) (.int 0) = .ok (.int p.1) from ixT0 _ _, asItems_tup, chk_len pD hs 1000000 (by omega)]
  rw [lc_map (g := fun p : Int × Int => .int p.1) (fun p hp' s => by simp [lcT, pD, part2])]
  simp only [R.bind_ok, in_times, asBool_bl]
  by_cases c : p.1 ∈ hs.map (·.1)
  · simp only [c, decide_true, if_true]
    rfl
  · simp only [c, decide_false, if_ff, if_false, flb_nx]
    have h1 : ((hs.map pD ++ [pD p]).length ≤ 1000000) = True := eq_true (by simp; omega)
    simp only [h1, if_T, R.bind_ok, d1_one]
    rw [show hs.map pD ++ [pD p] = (hs ++ [p]).map pD by simp, show pD = pairD from rfl, sorted_lst (insP_asc H.asc c) (List.perm_append_comm.trans (insP_perm p hs).symm)]
    rfl
theorem put_in_slip {m : Mt} {hs ps : List (Int × Int)} (H : HeapOk m.k hs) (hp : ps.Perm hs) (b : Bool) (v : D) (h2 : Pl2 v) (hv : slipB m.k v = false) : m_put_in [m.obj, sqD b (ps.map pD), v] = .err "InvalidSlip" (.int 0) := by
  have hl := H.len
  simp only [m_put_in, pk_put_in, ar3, bind_as, flb_bind, finish1_bind, R.bind_ok, callM2, checked_heap_ok m b ps hs H.asc hp H.ok (by omega), checked_slip_err m _ h2 hv]
  rfl
theorem put_in_bad {m : Mt} {rows : D} (n : Nat) (h : m_checked_heap [m.obj, rows] = .err "InvalidSlip" (.int n)) (v : D) : m_put_in [m.obj, rows, v] = .err "InvalidSlip" (.int n) := by
  simp only [m_put_in, pk_put_in, ar3, bind_as, flb_bind, finish1_bind, R.bind_ok, callM2, h]
  rfl
theorem row_of_bad {m : Mt} {rows : D} (n : Nat) (h : m_checked_heap [m.obj, rows] = .err "InvalidSlip" (.int n)) : m_row_of [m.obj, rows] = .err "InvalidSlip" (.int n) := by
  simp only [m_row_of, pk_row_of, ar2, bind_as, flb_bind, finish1_bind, R.bind_ok, callM2, h]
  rfl
theorem since_bad {m : Mt} {rows : D} (n : Nat) (h : m_checked_heap [m.obj, rows] = .err "InvalidSlip" (.int n)) (t : D) : m_since [m.obj, rows, t] = .err "InvalidSlip" (.int n) := by
  simp only [m_since, pk_since, ar3, bind_as, flb_bind, finish1_bind, R.bind_ok, callM2, h]
  rfl
theorem until_bad {m : Mt} {rows : D} (n : Nat) (h : m_checked_heap [m.obj, rows] = .err "InvalidSlip" (.int n)) (t : D) : m_until [m.obj, rows, t] = .err "InvalidSlip" (.int n) := by
  simp only [m_until, pk_until, ar3, bind_as, flb_bind, finish1_bind, R.bind_ok, callM2, h]
  rfl
theorem row_nat {k : Nat} : ∀ {hs : List (Int × Int)}, (∀ p ∈ hs, SlipOk k p) → (hs.map fun p => D.int p.2) = (hs.map fun p => p.2.toNat).map nD
  | [], _ => rfl
  | p :: hs, h => by
    have := (h p (List.mem_cons_self ..)).2.1
    rw [List.map_cons, List.map_cons, List.map_cons, ← row_nat fun q hq => h q (List.mem_cons_of_mem _ hq)]
    rw [show nD p.2.toNat = .int p.2 by unfold nD; congr 1; omega]
theorem row_lt {k : Nat} {hs : List (Int × Int)} (h : ∀ p ∈ hs, SlipOk k p) : ∀ c ∈ (hs.map fun p => p.2.toNat), c < k := fun c hc => by
  obtain ⟨p, hp, rfl⟩ := List.mem_map.mp hc
  obtain ⟨_, h1, h2⟩ := h p hp
  omega
theorem truth_ok {m : Mt} (hm : m.Ok) {hs ps : List (Int × Int)} (H : HeapOk m.k hs) (hp : ps.Perm hs) (b : Bool) {s : Nat} (hs' : s < m.n) : m_truth [m.obj, nD s, sqD b (ps.map pD)] = .ok (nD (run m s (hs.map fun p => p.2.toNat))) := by
  have hl := H.len
  have e := led_ok hm false _ (row_lt H.ok) hs'
  simp only [sqD, Bool.false_eq_true, if_false] at e
  simp only [m_truth, pk_truth, ar3, bind_as, flb_bind, finish1_bind, R.bind_ok, m.at_states, callM2, show m_is_index [nD s, nD m.n] = .ok (.bl true) from by rw [nD, nD, is_index_int]; simp [hs'], unfre_bl, asBool_bl, not_tt, if_ff, flb_nx, row_of_ok m b ps hs H.asc hp H.ok (by omega), unfre_tup, callM3, row_nat H.ok, e]
  rfl
theorem truth_state {m : Mt} (d : D) (hd : Pl d) (hx : isIx m.n d = false) (h : D) : m_truth [m.obj, d, h] = .err "Refused" (.int 0) := by
  simp only [m_truth, pk_truth, ar3, bind_as, flb_bind, finish1_bind, R.bind_ok, m.at_states, callM2, nD, is_index_d d m.n hd, hx, unfre_bl, asBool_bl, not_ff, if_tt]
  rfl
theorem truth_bad {m : Mt} {rows : D} {s : Nat} (hs' : s < m.n) (n : Nat) (h : m_checked_heap [m.obj, rows] = .err "InvalidSlip" (.int n)) : m_truth [m.obj, nD s, rows] = .err "InvalidSlip" (.int n) := by
  simp only [m_truth, pk_truth, ar3, bind_as, flb_bind, finish1_bind, R.bind_ok, m.at_states, callM2, show m_is_index [nD s, nD m.n] = .ok (.bl true) from by rw [nD, nD, is_index_int]; simp [hs'], unfre_bl, asBool_bl, not_tt, if_ff, flb_nx, row_of_bad n h]
  rfl
/-- what is answered in place of an error -/
def ansR (r : R D) : R D := match r with
  | .ok d => .ok (unfre d)
  | .err c d => if excSub c "InvalidSlip" = true then .ok (.tup [.str "slip", d]) else if excSub c "Refused" = true then .ok (.tup [.str "refused", d]) else .err c d
  | .bad => .bad
theorem asked_eq (f : Int) (mo h v : D) : m__law_asked [mo, .int f, h, v] = ansR (if f = 0 then m_checked_heap [mo, h] else if f = 1 then m_put_in [mo, h, v] else if f = 2 then m_row_of [mo, h] else if f = 3 then m_truth [mo, v, h] else m_checked_slip [mo, v]) := by
  have a3 : ∀ (g : List D → R D) (x y z : D), callM 0 3 [2, 1, 0] g [] [x, y, z] = g [z, y, x] := fun g x y z => by simp [callM, argsM]
  have a2 : ∀ (g : List D → R D) (x y : D), callM 0 2 [1, 0] g [] [x, y] = g [y, x] := fun g x y => by simp [callM, argsM]
  simp only [m__law_asked, pk__law_asked, ar4, bind_as, flb_bind, finish1_bind, R.bind_ok, eq_int, asBool_bl, decide_eq_true_eq, a3, a2, tl2, if_T]
  have fin : ∀ r : R D, finish1 (flb (tryR (r.bind fun d => R.ok (Fl.rt (unfre d), ())) [{ k := Str.ofString "InvalidSlip", f := fun d => R.ok (Fl.rt (D.tup [D.str (Str.ofString "slip"), d]), ()) }, { k := Str.ofString "Refused", f := fun d => R.ok (Fl.rt (D.tup [D.str (Str.ofString "refused"), d]), ()) }] ()) fun (a1 : Unit) s => (R.ok (Fl.nx (), s) : R (Fl Unit Unit × Unit))) = ansR r := fun r => by
    cases r with
    | ok d => rfl
    | bad => rfl
    | err c d =>
      simp only [R.bind_err, ansR, flb_err, tryR, handle]
      split
      · rfl
      · split <;> rfl
  by_cases c0 : f = 0
  · simp only [c0, if_true, flb_bind, flb_rt]
    exact fin _
  simp only [c0, if_false, flb_nx]
  by_cases c1 : f = 1
  · simp only [c1, if_true, flb_bind, flb_rt]
    exact fin _
  simp only [c1, if_false, flb_nx]
  by_cases c2 : f = 2
  · simp only [c2, if_true, flb_bind, flb_rt]
    exact fin _
  simp only [c2, if_false, flb_nx]
  by_cases c3 : f = 3
  · simp only [c3, if_true, bind_as, R.bind_ok]
    exact fin _
  simp only [c3, if_false, bind_as, R.bind_ok]
  exact fin _
theorem ans_slip (d : D) : ansR (.err "InvalidSlip" d) = .ok (.tup [.str "slip", d]) := rfl
theorem ans_ref (d : D) : ansR (.err "Refused" d) = .ok (.tup [.str "refused", d]) := rfl
theorem parts_ok {m : Mt} {rows : D} {t : D} (n : Nat) (h : m_checked_heap [m.obj, rows] = .err "InvalidSlip" (.int n)) : m__law_parts_at [m.obj, rows, t] = .ok (.fre [.int n, .int n]) := by
  have h2 : chk (rgSm 2) (rgD 0 2) = .ok ([0, 1].map D.int) := rfl
  simp only [m__law_parts_at, pk__law_parts_at, ar3, bind_as, flb_bind, finish1_bind, R.bind_ok, asInt_int, h2, show chk (decide (([] : List D).length ≤ 1000000)) ([] : List D) = .ok [] from rfl, callM3, since_bad n h, until_bad n h, R.bind_err, ite_self]
  rfl
end Gk03
set_option linter.all false
set_option maxHeartbeats 4000000
namespace Gk03
open PySem Pv L2
theorem lc_ex {τ : Type} {g : D → τ → R (D × τ)} {m n : Int} {s : τ} (Inv : τ → Prop) (hi : Inv s)
    (h : ∀ i : Int, 0 ≤ i → i < m → ∀ s, Inv s → ∃ j s', g (.int i) s = .ok (.int j, s') ∧ 0 ≤ j ∧ j < n ∧ Inv s') :
    ∃ rs s', lcL (lcT partName (ar1 (fun _ => R.bad) fun _ s => R.ok (true, s)) (ar1 (fun _ => R.bad) g)) (rgD 0 m) s = .ok (rs, s') ∧ rs.length = m.toNat ∧ (∀ r ∈ rs, In n r) ∧ Inv s' :=
  lc_run (P := fun r => ∃ rs s', r = .ok (rs, s') ∧ rs.length = m.toNat ∧ (∀ r ∈ rs, In n r) ∧ Inv s') (k := fun p => R.ok p) Inv hi h (fun rs s l q i => ⟨rs, s, rfl, l, q, i⟩) |> fun ⟨rs, s', e, r⟩ => ⟨rs, s', by
    rw [← e]
    cases lcL (lcT partName (ar1 (fun _ => R.bad) fun _ s => R.ok (true, s)) (ar1 (fun _ => R.bad) g)) (rgD 0 m) s <;> rfl, r⟩
theorem wide_ok (dl : Deal) (hl : dl.1.length ≤ 63) : ∃ (m : Mt) (dl' : Deal), m__law_wide [.int 10] dl = .ok (.tup [.int m.k, m.given], dl') ∧ m.Ok ∧ m.k < 6 ∧ m.n < 11 ∧ dl'.1.length ≤ 63 := by
  obtain ⟨m, d1, e1, hm, mk, mn, l1⟩ := machine_ok' 10 (by decide) (by decide) dl hl
  rw [show ((10 : Nat) : Int) = 10 from rfl] at e1
  obtain ⟨v, d2, e2, v0, v1, l2⟩ := any_ok 4 (by decide) (by decide) d1 l1
  simp only [m__law_wide, pk__law_wide, ar1, bind_as, flb_bind, finish_bind, R.bind_ok, callL1, e1, unfre_tup, part2, opt_some, ar2_two, e2, unfre_int, opGt_int, asBool_bl, decide_eq_true_eq, tl2, if_T]
  by_cases c : 0 < v
  · simp only [c, if_true, flb_rt]
    exact ⟨m, d2, rfl, hm, by omega, by omega, l2⟩
  · simp only [c, if_false, flb_nx]
    obtain ⟨k0, n0, lr, hr⟩ := hm
    have hr' : ∀ d ∈ m.st.map (fun r => D.lst (r.map nD)), ∃ r ∈ m.st, d = .lst (r.map nD) := fun d hd => by
      obtain ⟨r, h, rfl⟩ := List.mem_map.mp hd
      exact ⟨r, h, rfl⟩
    have s1 : rgSm (5 - (m.k : Int)) = true := by simp [rgSm]; omega
    simp only [Mt.given, asItems_lst, R.bind_ok, chk_le m.st 1000000 (by omega), d1_one, bLen_lst, List.length_map, opSub_int, asInt_int, s1, chk_true, rg_chk (5 - (m.k : Int)) (by omega)]
    have inner : ∀ s : Deal, s.1.length ≤ 63 → ∃ rs s', lcL (lcT partName (ar1 (fun x => R.bad) fun v4 s => R.ok (true, s)) (ar1 (fun x => R.bad) fun v5 dl => (m__law_any [D.int (m.st.length : Nat)] dl).bind fun r => R.ok (unfre r.fst, r.snd))) (rgD 0 (5 - (m.k : Int))) s = .ok (rs, s') ∧ rs.length = (5 - (m.k : Int)).toNat ∧ (∀ r ∈ rs, In m.n r) ∧ s'.1.length ≤ 63 := fun s hs =>
      lc_ex (τ := Deal) (g := fun _ dl => (m__law_any [D.int (m.st.length : Nat)] dl).bind fun r => R.ok (unfre r.fst, r.snd)) (m := 5 - (m.k : Int)) (n := m.n) (fun s : Deal => s.1.length ≤ 63) hs fun _ _ _ s hs => by
        obtain ⟨v, s3, e, v0, v1, l⟩ := any_ok m.st.length (by omega) (by omega) s hs
        exact ⟨v, s3, by rw [e]; rfl, v0, by omega, l⟩
    obtain ⟨rs, s', e, l, q, i'⟩ := lcL_inv (f := lcT partName (ar1 (fun x => R.bad) fun v4 s => R.ok (true, s)) (ar1 (fun x => R.bad) fun v4 s => (bList v4).bind fun a => (lcL (lcT partName (ar1 (fun x => R.bad) fun v4 s => R.ok (true, s)) (ar1 (fun x => R.bad) fun v5 dl => (m__law_any [D.int (m.st.length : Nat)] dl).bind fun r => R.ok (unfre r.fst, r.snd))) (rgD 0 (5 - (m.k : Int))) s).bind fun a_8 => (opAdd a (D.lst a_8.fst)).bind fun d => R.ok (d, a_8.snd))) (ds := m.st.map fun r => D.lst (r.map nD)) (s := d2) (Inv := fun s => s.1.length ≤ 63) (Q := Row m.n 5) l2 (fun d hd s' i => by
      obtain ⟨r, hrm, rfl⟩ := hr' d hd
      obtain ⟨lk, qk⟩ := hr r hrm
      obtain ⟨rs, s2, e, l, q, i2⟩ := inner s' i
      refine ⟨.lst (r.map nD ++ rs), s2, ?_, ⟨_, rfl, by simp; omega, fun x hx => ?_⟩, i2⟩
      · simp only [lcT, partName_d, ar1, opt_some, R.bind_ok, bList_lst, e, add_lst (r.map nD) rs (by simp; omega), if_true]
        rfl
      · rcases List.mem_append.mp hx with h | h
        · obtain ⟨y, hy, rfl⟩ := List.mem_map.mp h
          exact ⟨y, rfl, by omega, by have := qk y hy; omega⟩
        · exact q x h)
    rw [e]
    obtain ⟨st, rfl, hst⟩ := rows_map (n := m.n) (k := 5) q
    exact ⟨⟨5, m.n, st⟩, s', rfl, ⟨Nat.succ_pos 4, n0, by simpa [lr] using l, hst⟩, Nat.lt_succ_self 5, by show m.n < 11; omega, i'⟩
theorem bad_ok (k : Int) (hk : 0 < k) (hk' : k < 1000) (dl : Deal) (hl : dl.1.length ≤ 63) : ∃ d dl', m__law_bad_slip [.int k] dl = .ok (d, dl') ∧ Pl2 d ∧ slipB k d = false ∧ unfre d = d ∧ dl'.1.length ≤ 63 := by
  obtain ⟨d, dl', hd, e, l⟩ := of_ok [.lst [.int 0, .int 0], .tup [.int 0], .tup [.int 0, .int 0, .int 0], .non, .tup [.int (-1), .int 0], .tup [.bl true, .int 0], .tup [.int 0, .int k], .tup [.int 0, .bl true], .tup [.str "0", .int 0], .tup [.int 0, .non]] (by simp) (by simp) dl hl
  have pl2 : ∀ a b : D, Pl a → Pl b → Pl2 (.tup [a, b]) := fun a b ha hb => ⟨trivial, fun xs e => by
    cases e
    refine ⟨by simp, fun x hx => ?_⟩
    simp at hx
    rcases hx with rfl | rfl
    · exact ha
    · exact hb⟩
  have one : ∀ d : D, Pl d → (∀ xs, d ≠ .tup xs) → Pl2 d := fun d h n => ⟨h, fun xs e => absurd e (n xs)⟩
  have ud : unfre d = d := by
    simp only [List.mem_cons, List.not_mem_nil, or_false] at hd
    rcases hd with rfl | rfl | rfl | rfl | rfl | rfl | rfl | rfl | rfl | rfl <;> rfl
  refine ⟨d, dl', ?_, ?_, ?_, ud, l⟩
  · simp only [m__law_bad_slip, pk__law_bad_slip, bind_as, flb_bind, R.bind_ok, ar1, tl1, tl2, tl3, if_T, opNeg_int, callL1, finish_bind]
    simp only [List.length_cons, List.length_nil, Nat.reduceAdd, Nat.reduceLeDiff, if_true, R.bind_ok, decide_true, chk_true, e, ud]
    rfl
  · simp only [List.mem_cons, List.not_mem_nil, or_false] at hd
    rcases hd with rfl | rfl | rfl | rfl | rfl | rfl | rfl | rfl | rfl | rfl
    · exact one _ trivial (by intro xs e; cases e)
    · exact ⟨trivial, fun xs e => by cases e; exact ⟨by simp, fun x hx => by simp at hx; subst hx; trivial⟩⟩
    · exact ⟨trivial, fun xs e => by cases e; exact ⟨by simp, fun x hx => by simp at hx; subst hx; trivial⟩⟩
    · exact one _ trivial (by intro xs e; cases e)
    · exact pl2 _ _ trivial trivial
    · exact pl2 _ _ trivial trivial
    · exact pl2 _ _ trivial trivial
    · exact pl2 _ _ trivial trivial
    · exact pl2 _ _ trivial trivial
    · exact pl2 _ _ trivial trivial
  · simp only [List.mem_cons, List.not_mem_nil, or_false] at hd
    rcases hd with rfl | rfl | rfl | rfl | rfl | rfl | rfl | rfl | rfl | rfl <;> simp [slipB, isNum, isIx]
theorem sh_pD {p : Int × Int} (h1 : p.1.natAbs < 1000) (h2 : p.2.natAbs < 1000) : Sh 1 50 (pD p) := by
  refine Sh.tup (k := 0) (n := 19) (fun d hd => ?_) (by simp)
  rcases List.mem_cons.mp hd with rfl | hd
  · exact Sh.int (by omega) (by decide)
  · rw [List.mem_singleton.mp hd]; exact Sh.int (by omega) (by decide)
theorem sh_heap {xs : List (Int × Int)} (hl : xs.length < 310) (h : ∀ p ∈ xs, p.1.natAbs < 1000 ∧ p.2.natAbs < 1000) : Sh 2 20000 (.tup (xs.map pD)) := by
  refine Sh.tup (k := 1) (n := 50) (fun d hd => ?_) (by simp; omega)
  obtain ⟨p, hp, rfl⟩ := List.mem_map.mp hd
  exact sh_pD (h p hp).1 (h p hp).2
theorem sh_row {xs : List (Int × Int)} (hl : xs.length < 310) (h : ∀ p ∈ xs, p.1.natAbs < 1000 ∧ p.2.natAbs < 1000) : Sh 2 20000 (.tup (xs.map fun p => .int p.2)) := by
  refine Sh.tup (k := 1) (n := 50) (fun d hd => ?_) (by simp; omega)
  obtain ⟨p, hp, rfl⟩ := List.mem_map.mp hd
  exact Sh.int (by have := (h p hp).2; omega) (by decide)
theorem sh_ref : Sh 2 20000 (.tup [.str "refused", .int 0]) := by
  refine Sh.tup (k := 1) (n := 19) (m := 20000) (ds := _) (fun d hd => ?_) (by simp only [List.length_cons, List.length_nil]; decide)
  rcases List.mem_cons.mp hd with rfl | hd
  · exact Sh.str (by decide +kernel) (by decide +kernel)
  · rw [List.mem_singleton.mp hd]; exact Sh.int (by decide) (by decide)
theorem sh_slip (i : Nat) (hi : i < 1000) : Sh 2 20000 (.tup [.str "slip", .int i]) := by
  refine Sh.tup (k := 1) (n := 19) (m := 20000) (ds := _) (fun d hd => ?_) (by simp only [List.length_cons, List.length_nil]; decide)
  rcases List.mem_cons.mp hd with rfl | hd
  · exact Sh.str (by decide +kernel) (by decide +kernel)
  · rw [List.mem_singleton.mp hd]; exact Sh.int (by omega) (by decide)
theorem sh_two (i : Nat) (hi : i < 1000) : Sh 2 20000 (.lst [.int i, .int i]) := by
  refine Sh.lst (k := 1) (n := 19) (m := 20000) (ds := _) (fun d hd => ?_) (by simp only [List.length_cons, List.length_nil]; decide)
  simp at hd
  rw [hd]; exact Sh.int (by omega) (by decide)
/-- what is no heap at all -/
theorem heap_no (m : Mt) (d : D) (h : d = .non ∨ d = .int 7 ∨ d = .str "00" ∨ d = .dct []) : m_checked_heap [m.obj, d] = .err "InvalidSlip" (.int 0) := by
  rcases h with rfl | rfl | rfl | rfl <;> rfl
theorem asc_unique {xs ys zs : List (Int × Int)} (hx : xs.Pairwise fun p q => p.1 < q.1) (hy : ys.Pairwise fun p q => p.1 < q.1) (h1 : zs.Perm xs) (h2 : zs.Perm ys) : xs = ys := (sort_asc hx h1).symm.trans (sort_asc hy h2)
end Gk03
set_option linter.all false
set_option maxHeartbeats 8000000
set_option maxRecDepth 100000
namespace Gk03
open PySem Pv L2
theorem kw210 {α : Type} (f : List D → R α) (a b c : D) : callM 0 3 [2, 1, 0] f [] [a, b, c] = f [c, b, a] := by simp [callM, argsM]
theorem kw10 {α : Type} (f : List D → R α) (a b : D) : callM 0 2 [1, 0] f [] [a, b] = f [b, a] := by simp [callM, argsM]
theorem farDs_of {es : List D} : ∀ {ds : List D}, (∀ d ∈ ds, farD es d = true) → farDs es ds = true
  | [], _ => by simp [farDs]
  | d :: ds, h => by
    rw [farDs, h d (List.mem_cons_self ..), farDs_of fun e he => h e (List.mem_cons_of_mem _ he)]
    rfl
theorem far_int (es : List D) (i : Int) : farD es (.int i) = true := by simp [farD]
theorem far_pD (es : List D) (p : Int × Int) : farD es (pD p) = true := by simp [pD, farD, farDs]
theorem far_given (ps : List (Int × Int)) (m : Mt) (hm : m.Ok) : farD (ps.map pD) m.given = true := by
  obtain ⟨k0, n0, lr, hr⟩ := hm
  have row : ∀ r ∈ m.st, farD (ps.map pD) (.lst (r.map nD)) = true := fun r hr' => by
    have hl := (hr r hr').1
    rw [farD, farDs_of fun d hd => by obtain ⟨x, _, rfl⟩ := List.mem_map.mp hd; exact far_int _ _, Bool.and_true]
    cases r with
    | nil => simp at hl; omega
    | cons x r => cases ps <;> simp [apart, pD, nD, tagQ]
  unfold Mt.given
  rw [farD, farDs_of fun d hd => by obtain ⟨r, h, rfl⟩ := List.mem_map.mp hd; exact row r h, Bool.and_true]
  cases hst : m.st with
  | nil => rw [hst] at lr; simp at lr; omega
  | cons x r => cases ps <;> simp [apart, pD, tagQ]
theorem far_obj (es : List D) (m : Mt) : farD es m.obj = true := by
  unfold Mt.obj Mt.fields
  simp only [farD, farF, farP, Bool.and_true]
  simp only [nD, farD, Bool.true_and]
  exact farDs_of fun d hd => by
    obtain ⟨r, _, rfl⟩ := List.mem_map.mp hd
    rw [farD]
    exact farDs_of fun d hd => by obtain ⟨x, _, rfl⟩ := List.mem_map.mp hd; exact far_int _ _
theorem law_true (ns : List Int) (hn : ns.length ≤ 63) : m_law ns = .ok (.rt (.bl true), ()) := by
  obtain ⟨dl0, e0, l0⟩ := draw_ok ns hn
  obtain ⟨m, dl1, e1, hm, mk, mn, l1⟩ := wide_ok dl0 l0
  have k0 := hm.1
  have n0 := hm.2.1
  have ln := hm.2.2.1
  obtain ⟨v2, dl2, e2, v20, v21, l2⟩ := any_ok 8 (by decide) (by decide) dl1 l1
  obtain ⟨many, dl3, many0, many1, e3, l3⟩ : ∃ (many : Int) (dl3 : Deal), 0 ≤ many ∧ many < 200 ∧ (∀ {β : Type} (k : D × Deal → R β), ((if 0 < v2 then (m__law_any [D.int 13] dl2).bind fun r => R.ok (unfre r.fst, r.snd) else (m__law_any [D.int 50] dl2).bind fun a => (opAdd (D.int 150) (unfre a.fst)).bind fun d => R.ok (d, a.snd)).bind k = k (.int many, dl3))) ∧ dl3.1.length ≤ 63 := by
    by_cases c : 0 < v2
    · obtain ⟨v, s, e, h0, h1, l⟩ := any_ok 13 (by decide) (by decide) dl2 l2
      exact ⟨v, s, h0, by omega, fun k => by rw [if_pos c, e]; rfl, l⟩
    · obtain ⟨v, s, e, h0, h1, l⟩ := any_ok 50 (by decide) (by decide) dl2 l2
      exact ⟨150 + v, s, by omega, by omega, fun k => by rw [if_neg c, e]; rfl, l⟩
  obtain ⟨hs, dl4, e4, hlen, hasc, hq, l4⟩ := heap_ok m.k (by omega) (by omega) many many0 (by omega) dl3 l3
  have H : HeapOk m.k hs := ⟨hasc, fun p hp => by have := hq p hp; exact ⟨by omega, by omega, by omega⟩, by omega, fun p hp => by have := (hq p hp).2.1; omega⟩
  have hb : ∀ p ∈ hs, p.1.natAbs < 1000 ∧ p.2.natAbs < 1000 := fun p hp => by have := hq p hp; omega
  have hC : ∀ d ∈ hs.map pD, Cmp d := fun d hd => by
    obtain ⟨p, hp, rfl⟩ := List.mem_map.mp hd
    exact (sh_pD (hb p hp).1 (hb p hp).2).cmp (by decide)
  obtain ⟨ys, dl5, hperm, e5, l5⟩ := mixed_ok (.tup (hs.map pD)) (hs.map pD) rfl (by simp; omega) hC dl4 l4
  obtain ⟨ps, rfl, hp⟩ := perm_map hperm rfl
  obtain ⟨v6, dl6, e6, v60, v61, l6⟩ := any_ok 2 (by decide) (by decide) dl5 l5
  obtain ⟨b, hbb⟩ : ∃ b : Bool, decide (v6 = 0) = b := ⟨_, rfl⟩
  have e7 : ∀ s : Deal, (if b = true then (R.ok (D.lst (ps.map pD), s) : R (D × Deal)) else (R.ok (.tup (ps.map pD), s))) = .ok (sqD b (ps.map pD), s) := fun s => by cases b <;> rfl
  have hl := H.len
  have ch := checked_heap_ok m b ps hs hasc hp H.ok (by omega)
  have ro := row_of_ok m b ps hs hasc hp H.ok (by omega)
  have rh := repr_ne_self (sh_heap (by omega) hb) (by decide) (by decide)
  have rr := repr_ne_self (sh_row (by omega) hb) (by decide) (by decide)
  have lcmd : ∀ s : Deal, lcL (lcT (partTup 2) (ar2 (fun _ => R.bad) fun _ _ s => R.ok (true, s)) (ar2 (fun _ => R.bad) fun _ v11 s => R.ok (v11, s))) (hs.map pD) s = .ok (hs.map fun p => .int p.2, s) := fun s =>
    lc_map (g := fun p : Int × Int => .int p.2) (fun p hp' s => by simp [lcT, pD, part2])
  have ltim : ∀ s : Deal, lcL (lcT (partTup 2) (ar2 (fun _ => R.bad) fun _ _ s => R.ok (true, s)) (ar2 (fun _ => R.bad) fun v10 _ s => R.ok (v10, s))) (hs.map pD) s = .ok (hs.map fun p => .int p.1, s) := fun s =>
    lc_map (g := fun p : Int × Int => .int p.1) (fun p hp' s => by simp [lcT, pD, part2])
  obtain ⟨st, dl7, e8, st0, st1, l7⟩ := any_ok m.n (by omega) (by omega) dl6 l6
  obtain ⟨s, rfl⟩ := Int.eq_ofNat_of_zero_le st0
  have hs' : s < m.n := by omega
  obtain ⟨bd, hbd, bd0, bd1⟩ : ∃ bd : Int, (∀ s : Deal, (if many < 13 then (R.ok (D.int 40, s) : R (D × Deal)) else R.ok (.int 500, s)) = .ok (.int bd, s)) ∧ 0 < bd ∧ bd ≤ 500 := by
    by_cases c : many < 13
    · exact ⟨40, fun s => by rw [if_pos c], by decide, by decide⟩
    · exact ⟨500, fun s => by rw [if_neg c], by decide, by decide⟩
  obtain ⟨t, dl8, e9, t0, t1, l8⟩ := any_ok bd bd0 (by omega) dl7 l7
  have tr := truth_ok hm H hp b hs'
  have rn := repr_ne_self (k := 2) (n := 20000) (d := nD (run m s (hs.map fun p => p.2.toNat))) (Sh.int (by have := run_lt hm hs' (row_lt H.ok); omega) (by decide)) (by decide) (by decide)
  have ll := law_led_ok hm true _ (row_lt H.ok) hs'
  rw [← row_nat H.ok] at ll
  simp only [sqD, if_true] at ll
  have si := since_ok m b ps hs hasc hp H.ok (by omega) t
  have un := until_ok m b ps hs hasc hp H.ok (by omega) t
  have rsi := repr_ne_self (sh_heap (xs := hs.filter fun p => decide (t < p.1)) (by have := List.length_filter_le (fun p : Int × Int => decide (t < p.1)) hs; omega) fun p hp => hb p (List.mem_filter.mp hp).1) (by decide) (by decide)
  have run' := repr_ne_self (sh_heap (xs := hs.filter fun p => decide (p.1 < t)) (by have := List.length_filter_le (fun p : Int × Int => decide (p.1 < t)) hs; omega) fun p hp => hb p (List.mem_filter.mp hp).1) (by decide) (by decide)
  have lsi : ∀ s : Deal, lcL (lcT partName (ar1 (fun _ => R.bad) fun v18 s => (opIx v18 (D.int 0)).bind fun a => (opGt a (.int t)).bind fun d => (asBool d).bind fun c => R.ok (c, s)) (ar1 (fun _ => R.bad) fun v18 s => R.ok (v18, s))) (hs.map pD) s = .ok ((hs.filter fun p => decide (t < p.1)).map pD, s) := fun s =>
    lc_filter (q := fun p : Int × Int => decide (t < p.1)) (g := pD) (fun p hp' s => by by_cases c : t < p.1 <;> simp [lcT, pD, ixT0, opGt_int, c])
  have lun : ∀ s : Deal, lcL (lcT partName (ar1 (fun _ => R.bad) fun v18 s => (opIx v18 (D.int 0)).bind fun a => (opLt a (.int t)).bind fun d => (asBool d).bind fun c => R.ok (c, s)) (ar1 (fun _ => R.bad) fun v18 s => R.ok (v18, s))) (hs.map pD) s = .ok ((hs.filter fun p => decide (p.1 < t)).map pD, s) := fun s =>
    lc_filter (q := fun p : Int × Int => decide (p.1 < t)) (g := pD) (fun p hp' s => by by_cases c : p.1 < t <;> simp [lcT, pD, ixT0, opLt_int, c])
  obtain ⟨c, dl9, e10, c0, c1, l9⟩ := any_ok m.k (by omega) (by omega) dl8 l8
  have hslip : SlipOk m.k (t, c) := ⟨t0, c0, c1⟩
  have pi := put_in_ok H hp b (t, c) hslip
  have cs := checked_slip_ok m (pD (t, c)) (pD_pl _) (pD_slip hslip)
  have rsl := repr_ne_self (d := .tup [.int t, .int c]) ((sh_pD (p := (t, c)) (by simp only; omega) (by simp only; omega)).mono (k' := 2) (n' := 20000) (by decide) (by decide)) (by decide) (by decide)
  have rref := repr_ne_self sh_ref (by decide) (by decide)
  simp only [m_law, pk_law, bind_as, flb_bind, R.bind_ok, asInt_int, callL1, callL2, callM1, callM2, callM3, callM4, kw210, kw10, e0, dealOf_ok, noErr_ok, e1, part2, unfre_tup, unfre_lst, opt_some, ar2_two, e2, unfre_int, opGt_int, asBool_bl, decide_eq_true_eq, e3, init_ok m hm (by omega) (by omega), e4, two_two, e5, asFre_fre, e6, eq_int, hbb, d1_one, bTuple_lst, e7]
  have mo : D.obj (Str.ofString "Machine") m.fields = m.obj := rfl
  have a0 : m__law_asked [m.obj, .int 0, sqD b (ps.map pD), .non] = .ok (.tup (hs.map pD)) := by rw [asked_eq, if_pos rfl, ch]; rfl
  have a2 : m__law_asked [m.obj, .int 2, sqD b (ps.map pD), .non] = .ok (.tup (hs.map fun p => .int p.2)) := by rw [asked_eq, if_neg (by decide), if_neg (by decide), if_pos rfl, ro]; rfl
  have a3 : m__law_asked [m.obj, .int 3, sqD b (ps.map pD), .int s] = .ok (nD (run m s (hs.map fun p => p.2.toNat))) := by rw [asked_eq, if_neg (by decide), if_neg (by decide), if_neg (by decide), if_pos rfl, show D.int (s : Int) = nD s from rfl, tr]; rfl
  have a4 : m__law_asked [m.obj, .int 4, .non, .tup [.int t, .int c]] = .ok (.tup [.int t, .int c]) := by rw [asked_eq, if_neg (by decide), if_neg (by decide), if_neg (by decide), if_neg (by decide), show D.tup [.int t, .int c] = pD (t, c) from rfl, cs]; rfl
  have un0 : ∀ d, unfre (nD d) = nD d := fun _ => rfl
  simp only [mo, a0, R.bind_ok, unfre_tup, rh.1, rh.2.1, asBool_bl, if_ff, flb_nx, a2, asItems_tup, lcmd, bTuple_lst, rr.1, rr.2.1, Mt.given, bLen_lst, List.length_map, ln, chk_le hs 1000000 (by omega), e8, unfre_int, opLt_int, decide_eq_true_eq, hbd, e9, tl1, tl2, if_T, part2, opt_some, ar2_two, a3, un0, rn.1, rn.2.1]
  rw [show D.int (s : Int) = nD s from rfl, show D.lst (m.st.map fun r => D.lst (r.map nD)) = m.given from rfl]
  simp only [ll, R.bind_ok, un0, rn.1, rn.2.1, asBool_bl, if_ff, flb_nx, si, unfre_tup, rsi.1, rsi.2.1, lsi, un, run'.1, run'.2.1, lun, bTuple_lst, e10, unfre_int, tl1, tl2, if_T, ltim, in_times]
  obtain ⟨d0, hd0⟩ : ∃ d0 : D, d0 = if t ∈ hs.map (·.1) then .tup [.str "refused", .int 0] else .tup ((insP (t, c) hs).map pD) := ⟨_, rfl⟩
  have hins : ∀ p ∈ insP (t, c) hs, p.1.natAbs < 1000 ∧ p.2.natAbs < 1000 := fun p hp' => by
    rcases List.mem_cons.mp ((insP_perm (t, c) hs).subset hp') with rfl | h
    · simp only; omega
    · exact hb p h
  have hd0' : Sh 2 20000 d0 ∧ unfre d0 = d0 ∧ m__law_asked [m.obj, .int 1, sqD b (ps.map pD), .tup [.int t, .int c]] = .ok d0 := by
    have ea : m__law_asked [m.obj, .int 1, sqD b (ps.map pD), .tup [.int t, .int c]] = ansR (m_put_in [m.obj, sqD b (ps.map pD), pD (t, c)]) := by rw [asked_eq, if_neg (by decide), if_pos rfl]; rfl
    rw [ea, pi]
    by_cases w : t ∈ hs.map (·.1)
    · rw [if_pos w] at hd0
      subst hd0
      rw [if_pos w]
      exact ⟨sh_ref, rfl, rfl⟩
    · rw [if_neg w] at hd0
      subst hd0
      rw [if_neg w]
      exact ⟨sh_heap (by rw [(insP_perm (t, c) hs).length_eq]; simp; omega) hins, rfl, rfl⟩
  obtain ⟨sd0, ud0, a1⟩ := hd0'
  have rd0 := repr_ne_self sd0 (by decide) (by decide)
  have edue : ∀ {β : Type} (k : D × Deal → R β), ((if decide (t ∈ List.map (fun x => x.fst) hs) = true then (R.ok (D.tup [D.str (Str.ofString "refused"), D.int 0], dl9) : R (D × Deal)) else (opAdd (D.tup (List.map pD hs)) (D.tup [D.tup [D.int t, D.int c]])).bind fun a => (bSorted a).bind fun a => (bTuple a).bind fun d => R.ok (d, dl9)).bind k) = k (d0, dl9) := fun k => by
    by_cases w : t ∈ hs.map (·.1)
    · rw [if_pos w] at hd0
      subst hd0
      rw [decide_eq_true w, if_tt]
      rfl
    · rw [if_neg w] at hd0
      subst hd0
      rw [decide_eq_false w, if_ff, add_tup _ _ (by simp; omega)]
      simp only [R.bind_ok]
      rw [show hs.map pD ++ [D.tup [D.int t, D.int c]] = (hs ++ [(t, c)]).map pD by simp [pD], show pD = pairD from rfl, sorted_tup (insP_asc hasc w) (List.perm_append_comm.trans (insP_perm (t, c) hs).symm)]
      rfl
  rw [edue]
  have c12 : opCut (.tup (hs.map pD)) none (some 12) = .ok (.tup ((hs.take 12).map pD)) := by rw [show (12 : Int) = ((12 : Nat) : Int) from rfl, cut_tL, List.map_take]
  obtain ⟨zs', dl11, hzp, e11, l11⟩ := mixed_ok (.tup ((hs.take 12).map pD)) ((hs.take 12).map pD) rfl (by simp; omega) (fun d hd => by
    obtain ⟨p, hp, rfl⟩ := List.mem_map.mp hd
    have := hb p (List.mem_of_mem_take hp)
    exact (sh_pD this.1 this.2).cmp (by decide)) dl9 l9
  obtain ⟨zs, rfl, hz⟩ := perm_map hzp rfl
  have htk : (hs.take 12).Pairwise fun p q => p.1 < q.1 := hasc.sublist (List.take_sublist _ _)
  simp only [a1, R.bind_ok, ud0, rd0.1, rd0.2.1, asBool_bl, if_ff, a4, unfre_tup, rsl.1, rsl.2.1, flb_nx, tl0, if_T, c12, e11, unfre_fre, asItems_lst, bind_as, flb_bind]
  have hzn : (zs.map (·.1)).Nodup := (hz.map (·.1)).nodup_iff.mpr (asc_nodup htk)
  refine forL_run' (P := fun r => r.bind (fun r => R.ok (r.1, ())) = R.ok (Fl.rt (D.bl true), ())) (fun pre (a : D) (s : Deal) => ∃ g : List (Int × Int), a = .tup (g.map pD) ∧ g.Pairwise (fun p q => p.1 < q.1) ∧ g.Perm pre ∧ s.1.length ≤ 63) ⟨[], rfl, .nil, .nil, l11⟩ (fun pre x post a s' ez ⟨g, ha, ga, gp, ls⟩ => ?_) (fun a s' ⟨g, ha, ga, gp, ls⟩ => ?_)
  · subst ha
    have sub : ∀ p ∈ g, p ∈ hs := fun p hp' => List.mem_of_mem_take (hz.subset (by rw [ez]; exact List.mem_append_left _ (gp.subset hp')))
    have hx : x ∈ hs := List.mem_of_mem_take (hz.subset (by rw [ez]; simp))
    have gl : g.length ≤ 12 := by
      have h1 := gp.length_eq
      have h2 := hz.length_eq
      rw [ez] at h2
      simp at h2
      omega
    have G : HeapOk m.k g := ⟨ga, fun p hp' => H.ok p (sub p hp'), by omega, fun p hp' => H.bd p (sub p hp')⟩
    have hn' : x.1 ∉ g.map (·.1) := fun h => by
      rw [ez, List.map_append, List.map_cons] at hzn
      exact (List.nodup_append.mp hzn).2.2 x.1 ((gp.map (·.1)).subset h) x.1 (List.mem_cons_self ..) rfl
    have := put_in_ok G (.refl g) false x (H.ok x hx)
    simp only [sqD, Bool.false_eq_true, if_false, if_neg hn'] at this
    refine ⟨.tup ((insP x g).map pD), s', by rw [this]; rfl, insP x g, rfl, insP_asc ga hn', ?_, ls⟩
    exact (insP_perm x g).trans ((gp.cons x).trans (List.perm_append_comm (l₁ := [x]) (l₂ := pre)))
  · subst ha
    have eg : g = hs.take 12 := asc_unique ga htk gp.symm hz
    subst eg
    have cm12 : Cmp (.tup ((hs.take 12).map pD)) := (sh_heap (xs := hs.take 12) (by simp; omega) fun p hp' => hb p (List.mem_of_mem_take hp')).cmp (by decide)
    have ch' := checked_heap_ok m true ps hs hasc hp H.ok (by omega)
    simp only [sqD, if_true] at ch'
    have cmh : Cmp (.tup (hs.map pD)) := (sh_heap (by omega) hb).cmp (by decide)
    have hpl : ps.length = hs.length := hp.length_eq
    have far : ∀ (xs : List D), (∀ d ∈ xs, farD (ps.map pD) d = true) → farDs (ps.map pD) xs = true := fun xs h => farDs_of h
    have fh : farD (ps.map pD) (.tup (hs.map pD)) = true := by
      rw [farD]
      exact farDs_of fun d hd => by obtain ⟨p, _, rfl⟩ := List.mem_map.mp hd; exact far_pD _ _
    have fp : farDs (ps.map pD) (ps.map pD) = true := farDs_of fun d hd => by obtain ⟨p, _, rfl⟩ := List.mem_map.mp hd; exact far_pD _ _
    have hchk : ([farD (ps.map pD) (D.int m.k), farD (ps.map pD) m.given, farD (ps.map pD) m.obj, farD (ps.map pD) (.tup (hs.map pD)), farD (ps.map pD) (.int t), farD (ps.map pD) (nD s), farD (ps.map pD) (.tup (hs.map pD))].all id && farDs (ps.map pD) (ps.map pD)) = true := by
      simp only [far_int, far_given ps m hm, far_obj, fh, fp, nD]
      rfl
    simp only [c12, ne_self cm12, R.bind_ok, asBool_bl, if_ff, flb_nx, ch', unfre_tup, hchk, chk_true, chk_lt ps 1000000 (by omega), ne_self cmh]
    obtain ⟨bad, dl12, e12, bp, bs, bu, l12⟩ := bad_ok m.k (by omega) (by omega) s' ls
    obtain ⟨v13, dl13, e13, v130, v131, l13⟩ := any_ok ((hs.length : Int) + 1) (by omega) (by omega) dl12 l12
    obtain ⟨pl, rfl⟩ := Int.eq_ofNat_of_zero_le v130
    have hpl' : pl ≤ hs.length := by omega
    have htl : (hs.take pl).length = pl := by simp; omega
    obtain ⟨rows, hrw⟩ : ∃ rows : D, rows = .lst ((hs.take pl).map pD ++ bad :: (hs.drop pl).map pD) := ⟨_, rfl⟩
    have hrows : m_checked_heap [m.obj, rows] = .err "InvalidSlip" (.int pl) := by
      have := checked_heap_err m true (hs.take pl) bad ((hs.drop pl).map pD) (by rw [List.map_take]; exact (asc_nodup hasc).sublist (List.take_sublist _ _)) (fun p hp => H.ok p (List.mem_of_mem_take hp)) (by omega) bp (.inl bs)
      rw [htl] at this
      rw [hrw]
      exact this
    have erows : D.lst (List.take pl (hs.map pD) ++ [bad] ++ List.drop pl (hs.map pD)) = rows := by rw [hrw]; simp [List.map_take, List.map_drop]
    simp only [e12, R.bind_ok, bu, bLen_tup, List.length_map, opAdd_int, e13, unfre_int, two_two, asInt_int, cut_tL, cut_dR, bList_tup, tl1, if_T, add_lst (List.take pl (hs.map pD)) [bad] (by simp; omega), add_lst (List.take pl (hs.map pD) ++ [bad]) (List.drop pl (hs.map pD)) (by simp; omega), erows]
    have cm2 := ne_self ((sh_two pl (by omega)).cmp (by decide))
    have cm0 : opNe (.lst [.int 0, .int 0]) (.lst [.int 0, .int 0]) = .ok (.bl false) := ne_self ((sh_two 0 (by omega)).cmp (by decide))
    have cms : opNe (.tup [.str (Str.ofString "slip"), .int pl]) (.tup [.str (Str.ofString "slip"), .int pl]) = .ok (.bl false) := ne_self ((sh_slip pl (by omega)).cmp (by decide))
    have cms0 : opNe (.tup [.str (Str.ofString "slip"), .int 0]) (.tup [.str (Str.ofString "slip"), .int 0]) = .ok (.bl false) := ne_self ((sh_slip 0 (by omega)).cmp (by decide))
    have ecs0 : opEq (.tup [.str (Str.ofString "slip"), .int 0]) (.tup [.str (Str.ofString "slip"), .int 0]) = .ok (.bl true) := eq_self' ((sh_slip 0 (by omega)).cmp (by decide))
    have cmr : opNe (.tup [.str (Str.ofString "refused"), .int 0]) (.tup [.str (Str.ofString "refused"), .int 0]) = .ok (.bl false) := ne_self (sh_ref.cmp (by decide))
    have p1 := parts_ok (m := m) (rows := rows) (t := .int t) pl hrows
    have p0 : m__law_parts_at [m.obj, .non, .int t] = .ok (.fre [.int 0, .int 0]) := parts_ok (m := m) (rows := .non) (t := .int t) 0 (heap_no m .non (.inl rfl))
    have b0 : m__law_asked [m.obj, .int 0, rows, .non] = .ok (.tup [.str "slip", .int pl]) := by rw [asked_eq, if_pos rfl, hrows]; rfl
    have b4 : m__law_asked [m.obj, .int 4, .non, bad] = .ok (.tup [.str "slip", .int 0]) := by rw [asked_eq, if_neg (by decide), if_neg (by decide), if_neg (by decide), if_neg (by decide), checked_slip_err m bad bp bs]; rfl
    have b1 : m__law_asked [m.obj, .int 1, rows, bad] = .ok (.tup [.str "slip", .int pl]) := by rw [asked_eq, if_neg (by decide), if_pos rfl, put_in_bad pl hrows]; rfl
    have b1' : m__law_asked [m.obj, .int 1, .tup (hs.map pD), bad] = .ok (.tup [.str "slip", .int 0]) := by
      have := put_in_slip H (.refl hs) false bad bp bs
      simp only [sqD, Bool.false_eq_true, if_false] at this
      rw [asked_eq, if_neg (by decide), if_pos rfl, this]; rfl
    obtain ⟨stg, dl14, hst, e14, l14⟩ := of_ok [.int m.n, .int (-1), .non, .bl true, .str "0"] (by simp) (by simp) dl13 l13
    have hstg : Pl stg ∧ isIx m.n stg = false ∧ unfre stg = stg := by
      simp only [List.mem_cons, List.not_mem_nil, or_false] at hst
      rcases hst with rfl | rfl | rfl | rfl | rfl
      · exact ⟨trivial, by simp [isIx], rfl⟩
      · exact ⟨trivial, by simp [isIx], rfl⟩
      · exact ⟨trivial, rfl, rfl⟩
      · exact ⟨trivial, rfl, rfl⟩
      · exact ⟨trivial, rfl, rfl⟩
    have b3 : m__law_asked [m.obj, .int 3, rows, stg] = .ok (.tup [.str "refused", .int 0]) := by rw [asked_eq, if_neg (by decide), if_neg (by decide), if_neg (by decide), if_pos rfl, truth_state stg hstg.1 hstg.2.1]; rfl
    have b3' : m__law_asked [m.obj, .int 3, rows, nD s] = .ok (.tup [.str "slip", .int pl]) := by rw [asked_eq, if_neg (by decide), if_neg (by decide), if_neg (by decide), if_pos rfl, truth_bad hs' pl hrows]; rfl
    obtain ⟨no, dl15, hno, e15, l15⟩ := of_ok [.non, .int 7, .str "00", .dct []] (by simp) (by simp) dl14 l14
    have hno' : m__law_asked [m.obj, .int 0, no, .non] = .ok (.tup [.str "slip", .int 0]) ∧ unfre no = no := by
      simp only [List.mem_cons, List.not_mem_nil, or_false] at hno
      refine ⟨by rw [asked_eq, if_pos rfl, heap_no m no hno]; rfl, ?_⟩
      rcases hno with rfl | rfl | rfl | rfl <;> rfl
    have cml : opNe (.tup [.str (Str.ofString "slip"), .int (hs.length : Nat)]) (.tup [.str (Str.ofString "slip"), .int (hs.length : Nat)]) = .ok (.bl false) := ne_self ((sh_slip hs.length (by omega)).cmp (by decide))
    have e16 : ∀ h0 tl, hs = h0 :: tl → m__law_asked [m.obj, .int 2, .tup (hs.map pD ++ [pD h0]), .non] = .ok (.tup [.str "slip", .int (hs.length : Nat)]) := fun h0 tl eh => by
      have q := checked_heap_err m false hs (pD h0) [] (asc_nodup hasc) H.ok (by omega) (pD_pl h0) (.inr ⟨h0.1, .int h0.2, rfl, by rw [eh]; simp⟩)
      simp only [sqD, Bool.false_eq_true, if_false] at q
      rw [asked_eq, if_neg (by decide), if_neg (by decide), if_pos rfl, row_of_bad hs.length q]
      rfl
    simp only [p1, R.bind_ok, unfre_fre, unfre_tup, cm2, asBool_bl, if_ff, p0, cm0, flb_nx, b0, cms, b4, cms0, b1, b1', opNeg_int, tl5, if_T, e14, hstg.2.2, b3, cmr, b3', ne_nilCT hC, tl0, tl1, tl4, e15, hno'.1, hno'.2, ecs0]
    cases eh : hs with
    | nil =>
      simp only [List.map_nil, ne_eq, not_true_eq_false, decide_false, if_ff, flb_nx, R.bind_ok, e15, hno'.1, hno'.2, unfre_tup, ecs0]
    | cons h0 tl =>
      have e17 := e16 h0 tl eh
      rw [eh] at e17 cml
      have hi0 : opIx (.tup ((h0 :: tl).map pD)) (.int 0) = .ok (pD h0) := ixT0 _ _
      have hadd : opAdd (.tup ((h0 :: tl).map pD)) (.tup [pD h0]) = .ok (.tup ((h0 :: tl).map pD ++ [pD h0])) := add_tup _ _ (by rw [← eh]; simp; omega)
      have hne : (decide ((h0 :: tl).map pD ≠ [])) = true := by simp
      simp only [hne, if_tt, if_true, hi0, R.bind_ok, hadd, e17, unfre_tup, cml, asBool_bl, if_ff, flb_nx, e15, hno'.1, hno'.2, ecs0]
end Gk03
set_option Elab.async false
set_option linter.all false
set_option maxRecDepth 100000
set_option maxHeartbeats 4000000
namespace Gk03
open PySem PySem.Spec PyProof.Rows L2 Pv
theorem all_mk {l : PySem.W.OpenLaw} {w : World} {K : PySem.W.Frag} {h : Heap} {mg : Str → Option Value} {fa : Addr} {C_Machine C_InvalidMachine C_InvalidSlip C_Refused f__law_draw f__law_any f__law_of f__law_columns f__law_mixed f__law_column f__law_machine f__law_wide f_is_sequence f_is_integer f_is_number f_is_index f_is_slip f_checked_heap f__law_heap f_checked_slip f_put_in f__law_bad_slip f_row_of f_led f_truth f__law_asked f__law_led f_since f_until f__law_parts_at f_law f_Machine_init fi_InvalidMachine fi_InvalidSlip fi_Refused : Addr} {od__law_draw an__law_draw od__law_any an__law_any od__law_of an__law_of od__law_columns an__law_columns od__law_mixed an__law_mixed od__law_column an__law_column od__law_machine an__law_machine od__law_wide an__law_wide od_is_sequence an_is_sequence od_is_integer an_is_integer od_is_number an_is_number od_is_index an_is_index od_is_slip an_is_slip od_checked_heap an_checked_heap od__law_heap an__law_heap od_checked_slip an_checked_slip od_put_in an_put_in od__law_bad_slip an__law_bad_slip od_row_of an_row_of od_led an_led od_truth an_truth od__law_asked an__law_asked od__law_led an__law_led od_since an_since od_until an_until od__law_parts_at an__law_parts_at od_law an_law od_Machine_init an_Machine_init : Option Addr} {sl__law_draw sl__law_any sl__law_of sl__law_columns sl__law_mixed sl__law_column sl__law_machine sl__law_wide sl_is_sequence sl_is_integer sl_is_number sl_is_index sl_is_slip sl_checked_heap sl__law_heap sl_checked_slip sl_put_in sl__law_bad_slip sl_row_of sl_led sl_truth sl__law_asked sl__law_led sl_since sl_until sl__law_parts_at sl_law sl_Machine_init : Array (Option Value)} {oc__law_draw kV__law_draw dc__law_draw pm__law_draw cd__law_draw ct__law_draw oc__law_any kV__law_any dc__law_any pm__law_any cd__law_any ct__law_any oc__law_of kV__law_of dc__law_of pm__law_of cd__law_of ct__law_of oc__law_columns kV__law_columns dc__law_columns pm__law_columns cd__law_columns ct__law_columns oc__law_mixed kV__law_mixed dc__law_mixed pm__law_mixed cd__law_mixed ct__law_mixed oc__law_column kV__law_column dc__law_column pm__law_column cd__law_column ct__law_column oc__law_machine kV__law_machine dc__law_machine pm__law_machine cd__law_machine ct__law_machine oc__law_wide kV__law_wide dc__law_wide pm__law_wide cd__law_wide ct__law_wide oc_is_sequence kV_is_sequence dc_is_sequence pm_is_sequence cd_is_sequence ct_is_sequence oc_is_integer kV_is_integer dc_is_integer pm_is_integer cd_is_integer ct_is_integer oc_is_number kV_is_number dc_is_number pm_is_number cd_is_number ct_is_number oc_is_index kV_is_index dc_is_index pm_is_index cd_is_index ct_is_index oc_is_slip kV_is_slip dc_is_slip pm_is_slip cd_is_slip ct_is_slip oc_checked_heap kV_checked_heap dc_checked_heap pm_checked_heap cd_checked_heap ct_checked_heap oc__law_heap kV__law_heap dc__law_heap pm__law_heap cd__law_heap ct__law_heap oc_checked_slip kV_checked_slip dc_checked_slip pm_checked_slip cd_checked_slip ct_checked_slip oc_put_in kV_put_in dc_put_in pm_put_in cd_put_in ct_put_in oc__law_bad_slip kV__law_bad_slip dc__law_bad_slip pm__law_bad_slip cd__law_bad_slip ct__law_bad_slip oc_row_of kV_row_of dc_row_of pm_row_of cd_row_of ct_row_of oc_led kV_led dc_led pm_led cd_led ct_led oc_truth kV_truth dc_truth pm_truth cd_truth ct_truth oc__law_asked kV__law_asked dc__law_asked pm__law_asked cd__law_asked ct__law_asked oc__law_led kV__law_led dc__law_led pm__law_led cd__law_led ct__law_led oc_since kV_since dc_since pm_since cd_since ct_since oc_until kV_until dc_until pm_until cd_until ct_until oc__law_parts_at kV__law_parts_at dc__law_parts_at pm__law_parts_at cd__law_parts_at ct__law_parts_at oc_law kV_law dc_law pm_law cd_law ct_law oc_Machine_init kV_Machine_init dc_Machine_init pm_Machine_init cd_Machine_init ct_Machine_init : Value} {cdt_Machine cde_Refused cde_InvalidSlip : ClassData} (X : K.In h) (G : h.Ns mainGlobals mg) (hfa : mg "law" = some (.ref fa))
    (a_Machine : PySem.W.nsIn K mainGlobals "Machine" = some (some (.ref C_Machine)))
    (a_InvalidMachine : PySem.W.nsIn K mainGlobals "InvalidMachine" = some (some (.ref C_InvalidMachine)))
    (a_InvalidSlip : PySem.W.nsIn K mainGlobals "InvalidSlip" = some (some (.ref C_InvalidSlip)))
    (a_Refused : PySem.W.nsIn K mainGlobals "Refused" = some (some (.ref C_Refused)))
    (a__law_draw : PySem.W.nsIn K mainGlobals "_law_draw" = some (some (.ref f__law_draw)))
    (l__law_draw : K.lookup f__law_draw = some ⟨oc__law_draw, od__law_draw, .func (PySem.W.fnOf "_law_draw" "_law_draw" (defArgs s__law_draw) (defBody s__law_draw) (defScope s__law_draw) .none kV__law_draw dc__law_draw pm__law_draw an__law_draw cd__law_draw ct__law_draw), sl__law_draw⟩)
    (c__law_draw : PySem.W.codeIn K cd__law_draw "_law_draw" = true)
    (k__law_draw : PySem.W.keepIn K (.ref f__law_draw) = true)
    (a__law_any : PySem.W.nsIn K mainGlobals "_law_any" = some (some (.ref f__law_any)))
    (l__law_any : K.lookup f__law_any = some ⟨oc__law_any, od__law_any, .func (PySem.W.fnOf "_law_any" "_law_any" (defArgs s__law_any) (defBody s__law_any) (defScope s__law_any) .none kV__law_any dc__law_any pm__law_any an__law_any cd__law_any ct__law_any), sl__law_any⟩)
    (c__law_any : PySem.W.codeIn K cd__law_any "_law_any" = true)
    (k__law_any : PySem.W.keepIn K (.ref f__law_any) = true)
    (a__law_of : PySem.W.nsIn K mainGlobals "_law_of" = some (some (.ref f__law_of)))
    (l__law_of : K.lookup f__law_of = some ⟨oc__law_of, od__law_of, .func (PySem.W.fnOf "_law_of" "_law_of" (defArgs s__law_of) (defBody s__law_of) (defScope s__law_of) .none kV__law_of dc__law_of pm__law_of an__law_of cd__law_of ct__law_of), sl__law_of⟩)
    (c__law_of : PySem.W.codeIn K cd__law_of "_law_of" = true)
    (k__law_of : PySem.W.keepIn K (.ref f__law_of) = true)
    (a__law_columns : PySem.W.nsIn K mainGlobals "_law_columns" = some (some (.ref f__law_columns)))
    (l__law_columns : K.lookup f__law_columns = some ⟨oc__law_columns, od__law_columns, .func (PySem.W.fnOf "_law_columns" "_law_columns" (defArgs s__law_columns) (defBody s__law_columns) (defScope s__law_columns) .none kV__law_columns dc__law_columns pm__law_columns an__law_columns cd__law_columns ct__law_columns), sl__law_columns⟩)
    (c__law_columns : PySem.W.codeIn K cd__law_columns "_law_columns" = true)
    (k__law_columns : PySem.W.keepIn K (.ref f__law_columns) = true)
    (a__law_mixed : PySem.W.nsIn K mainGlobals "_law_mixed" = some (some (.ref f__law_mixed)))
    (l__law_mixed : K.lookup f__law_mixed = some ⟨oc__law_mixed, od__law_mixed, .func (PySem.W.fnOf "_law_mixed" "_law_mixed" (defArgs s__law_mixed) (defBody s__law_mixed) (defScope s__law_mixed) .none kV__law_mixed dc__law_mixed pm__law_mixed an__law_mixed cd__law_mixed ct__law_mixed), sl__law_mixed⟩)
    (c__law_mixed : PySem.W.codeIn K cd__law_mixed "_law_mixed" = true)
    (k__law_mixed : PySem.W.keepIn K (.ref f__law_mixed) = true)
    (a__law_column : PySem.W.nsIn K mainGlobals "_law_column" = some (some (.ref f__law_column)))
    (l__law_column : K.lookup f__law_column = some ⟨oc__law_column, od__law_column, .func (PySem.W.fnOf "_law_column" "_law_column" (defArgs s__law_column) (defBody s__law_column) (defScope s__law_column) .none kV__law_column dc__law_column pm__law_column an__law_column cd__law_column ct__law_column), sl__law_column⟩)
    (c__law_column : PySem.W.codeIn K cd__law_column "_law_column" = true)
    (k__law_column : PySem.W.keepIn K (.ref f__law_column) = true)
    (a__law_machine : PySem.W.nsIn K mainGlobals "_law_machine" = some (some (.ref f__law_machine)))
    (l__law_machine : K.lookup f__law_machine = some ⟨oc__law_machine, od__law_machine, .func (PySem.W.fnOf "_law_machine" "_law_machine" (defArgs s__law_machine) (defBody s__law_machine) (defScope s__law_machine) .none kV__law_machine dc__law_machine pm__law_machine an__law_machine cd__law_machine ct__law_machine), sl__law_machine⟩)
    (c__law_machine : PySem.W.codeIn K cd__law_machine "_law_machine" = true)
    (k__law_machine : PySem.W.keepIn K (.ref f__law_machine) = true)
    (a__law_wide : PySem.W.nsIn K mainGlobals "_law_wide" = some (some (.ref f__law_wide)))
    (l__law_wide : K.lookup f__law_wide = some ⟨oc__law_wide, od__law_wide, .func (PySem.W.fnOf "_law_wide" "_law_wide" (defArgs s__law_wide) (defBody s__law_wide) (defScope s__law_wide) .none kV__law_wide dc__law_wide pm__law_wide an__law_wide cd__law_wide ct__law_wide), sl__law_wide⟩)
    (c__law_wide : PySem.W.codeIn K cd__law_wide "_law_wide" = true)
    (k__law_wide : PySem.W.keepIn K (.ref f__law_wide) = true)
    (a_is_sequence : PySem.W.nsIn K mainGlobals "is_sequence" = some (some (.ref f_is_sequence)))
    (l_is_sequence : K.lookup f_is_sequence = some ⟨oc_is_sequence, od_is_sequence, .func (PySem.W.fnOf "is_sequence" "is_sequence" (defArgs s_is_sequence) (defBody s_is_sequence) (defScope s_is_sequence) .none kV_is_sequence dc_is_sequence pm_is_sequence an_is_sequence cd_is_sequence ct_is_sequence), sl_is_sequence⟩)
    (c_is_sequence : PySem.W.codeIn K cd_is_sequence "is_sequence" = true)
    (k_is_sequence : PySem.W.keepIn K (.ref f_is_sequence) = true)
    (a_is_integer : PySem.W.nsIn K mainGlobals "is_integer" = some (some (.ref f_is_integer)))
    (l_is_integer : K.lookup f_is_integer = some ⟨oc_is_integer, od_is_integer, .func (PySem.W.fnOf "is_integer" "is_integer" (defArgs s_is_integer) (defBody s_is_integer) (defScope s_is_integer) .none kV_is_integer dc_is_integer pm_is_integer an_is_integer cd_is_integer ct_is_integer), sl_is_integer⟩)
    (c_is_integer : PySem.W.codeIn K cd_is_integer "is_integer" = true)
    (k_is_integer : PySem.W.keepIn K (.ref f_is_integer) = true)
    (a_is_number : PySem.W.nsIn K mainGlobals "is_number" = some (some (.ref f_is_number)))
    (l_is_number : K.lookup f_is_number = some ⟨oc_is_number, od_is_number, .func (PySem.W.fnOf "is_number" "is_number" (defArgs s_is_number) (defBody s_is_number) (defScope s_is_number) .none kV_is_number dc_is_number pm_is_number an_is_number cd_is_number ct_is_number), sl_is_number⟩)
    (c_is_number : PySem.W.codeIn K cd_is_number "is_number" = true)
    (k_is_number : PySem.W.keepIn K (.ref f_is_number) = true)
    (a_is_index : PySem.W.nsIn K mainGlobals "is_index" = some (some (.ref f_is_index)))
    (l_is_index : K.lookup f_is_index = some ⟨oc_is_index, od_is_index, .func (PySem.W.fnOf "is_index" "is_index" (defArgs s_is_index) (defBody s_is_index) (defScope s_is_index) .none kV_is_index dc_is_index pm_is_index an_is_index cd_is_index ct_is_index), sl_is_index⟩)
    (c_is_index : PySem.W.codeIn K cd_is_index "is_index" = true)
    (k_is_index : PySem.W.keepIn K (.ref f_is_index) = true)
    (a_is_slip : PySem.W.nsIn K mainGlobals "is_slip" = some (some (.ref f_is_slip)))
    (l_is_slip : K.lookup f_is_slip = some ⟨oc_is_slip, od_is_slip, .func (PySem.W.fnOf "is_slip" "is_slip" (defArgs s_is_slip) (defBody s_is_slip) (defScope s_is_slip) .none kV_is_slip dc_is_slip pm_is_slip an_is_slip cd_is_slip ct_is_slip), sl_is_slip⟩)
    (c_is_slip : PySem.W.codeIn K cd_is_slip "is_slip" = true)
    (k_is_slip : PySem.W.keepIn K (.ref f_is_slip) = true)
    (a_checked_heap : PySem.W.nsIn K mainGlobals "checked_heap" = some (some (.ref f_checked_heap)))
    (l_checked_heap : K.lookup f_checked_heap = some ⟨oc_checked_heap, od_checked_heap, .func (PySem.W.fnOf "checked_heap" "checked_heap" (defArgs s_checked_heap) (defBody s_checked_heap) (defScope s_checked_heap) .none kV_checked_heap dc_checked_heap pm_checked_heap an_checked_heap cd_checked_heap ct_checked_heap), sl_checked_heap⟩)
    (c_checked_heap : PySem.W.codeIn K cd_checked_heap "checked_heap" = true)
    (k_checked_heap : PySem.W.keepIn K (.ref f_checked_heap) = true)
    (a__law_heap : PySem.W.nsIn K mainGlobals "_law_heap" = some (some (.ref f__law_heap)))
    (l__law_heap : K.lookup f__law_heap = some ⟨oc__law_heap, od__law_heap, .func (PySem.W.fnOf "_law_heap" "_law_heap" (defArgs s__law_heap) (defBody s__law_heap) (defScope s__law_heap) .none kV__law_heap dc__law_heap pm__law_heap an__law_heap cd__law_heap ct__law_heap), sl__law_heap⟩)
    (c__law_heap : PySem.W.codeIn K cd__law_heap "_law_heap" = true)
    (k__law_heap : PySem.W.keepIn K (.ref f__law_heap) = true)
    (a_checked_slip : PySem.W.nsIn K mainGlobals "checked_slip" = some (some (.ref f_checked_slip)))
    (l_checked_slip : K.lookup f_checked_slip = some ⟨oc_checked_slip, od_checked_slip, .func (PySem.W.fnOf "checked_slip" "checked_slip" (defArgs s_checked_slip) (defBody s_checked_slip) (defScope s_checked_slip) .none kV_checked_slip dc_checked_slip pm_checked_slip an_checked_slip cd_checked_slip ct_checked_slip), sl_checked_slip⟩)
    (c_checked_slip : PySem.W.codeIn K cd_checked_slip "checked_slip" = true)
    (k_checked_slip : PySem.W.keepIn K (.ref f_checked_slip) = true)
    (a_put_in : PySem.W.nsIn K mainGlobals "put_in" = some (some (.ref f_put_in)))
    (l_put_in : K.lookup f_put_in = some ⟨oc_put_in, od_put_in, .func (PySem.W.fnOf "put_in" "put_in" (defArgs s_put_in) (defBody s_put_in) (defScope s_put_in) .none kV_put_in dc_put_in pm_put_in an_put_in cd_put_in ct_put_in), sl_put_in⟩)
    (c_put_in : PySem.W.codeIn K cd_put_in "put_in" = true)
    (k_put_in : PySem.W.keepIn K (.ref f_put_in) = true)
    (a__law_bad_slip : PySem.W.nsIn K mainGlobals "_law_bad_slip" = some (some (.ref f__law_bad_slip)))
    (l__law_bad_slip : K.lookup f__law_bad_slip = some ⟨oc__law_bad_slip, od__law_bad_slip, .func (PySem.W.fnOf "_law_bad_slip" "_law_bad_slip" (defArgs s__law_bad_slip) (defBody s__law_bad_slip) (defScope s__law_bad_slip) .none kV__law_bad_slip dc__law_bad_slip pm__law_bad_slip an__law_bad_slip cd__law_bad_slip ct__law_bad_slip), sl__law_bad_slip⟩)
    (c__law_bad_slip : PySem.W.codeIn K cd__law_bad_slip "_law_bad_slip" = true)
    (k__law_bad_slip : PySem.W.keepIn K (.ref f__law_bad_slip) = true)
    (a_row_of : PySem.W.nsIn K mainGlobals "row_of" = some (some (.ref f_row_of)))
    (l_row_of : K.lookup f_row_of = some ⟨oc_row_of, od_row_of, .func (PySem.W.fnOf "row_of" "row_of" (defArgs s_row_of) (defBody s_row_of) (defScope s_row_of) .none kV_row_of dc_row_of pm_row_of an_row_of cd_row_of ct_row_of), sl_row_of⟩)
    (c_row_of : PySem.W.codeIn K cd_row_of "row_of" = true)
    (k_row_of : PySem.W.keepIn K (.ref f_row_of) = true)
    (a_led : PySem.W.nsIn K mainGlobals "led" = some (some (.ref f_led)))
    (l_led : K.lookup f_led = some ⟨oc_led, od_led, .func (PySem.W.fnOf "led" "led" (defArgs s_led) (defBody s_led) (defScope s_led) .none kV_led dc_led pm_led an_led cd_led ct_led), sl_led⟩)
    (c_led : PySem.W.codeIn K cd_led "led" = true)
    (k_led : PySem.W.keepIn K (.ref f_led) = true)
    (a_truth : PySem.W.nsIn K mainGlobals "truth" = some (some (.ref f_truth)))
    (l_truth : K.lookup f_truth = some ⟨oc_truth, od_truth, .func (PySem.W.fnOf "truth" "truth" (defArgs s_truth) (defBody s_truth) (defScope s_truth) .none kV_truth dc_truth pm_truth an_truth cd_truth ct_truth), sl_truth⟩)
    (c_truth : PySem.W.codeIn K cd_truth "truth" = true)
    (k_truth : PySem.W.keepIn K (.ref f_truth) = true)
    (a__law_asked : PySem.W.nsIn K mainGlobals "_law_asked" = some (some (.ref f__law_asked)))
    (l__law_asked : K.lookup f__law_asked = some ⟨oc__law_asked, od__law_asked, .func (PySem.W.fnOf "_law_asked" "_law_asked" (defArgs s__law_asked) (defBody s__law_asked) (defScope s__law_asked) .none kV__law_asked dc__law_asked pm__law_asked an__law_asked cd__law_asked ct__law_asked), sl__law_asked⟩)
    (c__law_asked : PySem.W.codeIn K cd__law_asked "_law_asked" = true)
    (k__law_asked : PySem.W.keepIn K (.ref f__law_asked) = true)
    (a__law_led : PySem.W.nsIn K mainGlobals "_law_led" = some (some (.ref f__law_led)))
    (l__law_led : K.lookup f__law_led = some ⟨oc__law_led, od__law_led, .func (PySem.W.fnOf "_law_led" "_law_led" (defArgs s__law_led) (defBody s__law_led) (defScope s__law_led) .none kV__law_led dc__law_led pm__law_led an__law_led cd__law_led ct__law_led), sl__law_led⟩)
    (c__law_led : PySem.W.codeIn K cd__law_led "_law_led" = true)
    (k__law_led : PySem.W.keepIn K (.ref f__law_led) = true)
    (a_since : PySem.W.nsIn K mainGlobals "since" = some (some (.ref f_since)))
    (l_since : K.lookup f_since = some ⟨oc_since, od_since, .func (PySem.W.fnOf "since" "since" (defArgs s_since) (defBody s_since) (defScope s_since) .none kV_since dc_since pm_since an_since cd_since ct_since), sl_since⟩)
    (c_since : PySem.W.codeIn K cd_since "since" = true)
    (k_since : PySem.W.keepIn K (.ref f_since) = true)
    (a_until : PySem.W.nsIn K mainGlobals "until" = some (some (.ref f_until)))
    (l_until : K.lookup f_until = some ⟨oc_until, od_until, .func (PySem.W.fnOf "until" "until" (defArgs s_until) (defBody s_until) (defScope s_until) .none kV_until dc_until pm_until an_until cd_until ct_until), sl_until⟩)
    (c_until : PySem.W.codeIn K cd_until "until" = true)
    (k_until : PySem.W.keepIn K (.ref f_until) = true)
    (a__law_parts_at : PySem.W.nsIn K mainGlobals "_law_parts_at" = some (some (.ref f__law_parts_at)))
    (l__law_parts_at : K.lookup f__law_parts_at = some ⟨oc__law_parts_at, od__law_parts_at, .func (PySem.W.fnOf "_law_parts_at" "_law_parts_at" (defArgs s__law_parts_at) (defBody s__law_parts_at) (defScope s__law_parts_at) .none kV__law_parts_at dc__law_parts_at pm__law_parts_at an__law_parts_at cd__law_parts_at ct__law_parts_at), sl__law_parts_at⟩)
    (c__law_parts_at : PySem.W.codeIn K cd__law_parts_at "_law_parts_at" = true)
    (k__law_parts_at : PySem.W.keepIn K (.ref f__law_parts_at) = true)
    (a_law : PySem.W.nsIn K mainGlobals "law" = some (some (.ref f_law)))
    (l_law : K.lookup f_law = some ⟨oc_law, od_law, .func (PySem.W.fnOf "law" "law" (defArgs s_law) (defBody s_law) (defScope s_law) .none kV_law dc_law pm_law an_law cd_law ct_law), sl_law⟩)
    (c_law : PySem.W.codeIn K cd_law "law" = true)
    (k_law : PySem.W.keepIn K (.ref f_law) = true)
    (m_Machine : PySem.W.makesIn K C_Machine = true)
    (i_Machine : PySem.W.findIn K (.ref C_Machine) "__init__" = some (some (.ref f_Machine_init)))
    (t_Machine : PySem.W.isFn K (.ref f_Machine_init) = true)
    (kc_Machine : PySem.W.keepIn K (.ref C_Machine) = true)
    (l_Machine_init : K.lookup f_Machine_init = some ⟨oc_Machine_init, od_Machine_init, .func (PySem.W.fnOf "__init__" "Machine.__init__" (defArgs s_Machine_init) (defBody s_Machine_init) (defScope s_Machine_init) .none kV_Machine_init dc_Machine_init pm_Machine_init an_Machine_init cd_Machine_init ct_Machine_init), sl_Machine_init⟩)
    (c_Machine_init : PySem.W.codeIn K cd_Machine_init "Machine.__init__" = true)
    (k_Machine_init : PySem.W.keepIn K (.ref f_Machine_init) = true)
    (pg_Machine : PySem.W.plainGet K C_Machine Str.empty = true)
    (hd_Machine : PySem.W.hasDictIn K C_Machine = true)
    (po_Machine : PySem.W.plainOver K C_Machine = true)
    (sa_Machine : PySem.W.findIn K (.ref C_Machine) "__setattr__" = some (some (.builtin "object.__setattr__")))
    (z_abs : PySem.W.nsIn K mainGlobals "abs" = some none)
    (z_int : PySem.W.nsIn K mainGlobals "int" = some none)
    (z_len : PySem.W.nsIn K mainGlobals "len" = some none)
    (z_range : PySem.W.nsIn K mainGlobals "range" = some none)
    (z_list : PySem.W.nsIn K mainGlobals "list" = some none)
    (z_max : PySem.W.nsIn K mainGlobals "max" = some none)
    (z_min : PySem.W.nsIn K mainGlobals "min" = some none)
    (tc3 : PySem.W.specialIn K (.builtin "object.__class__") "__get__" = some (some (.builtin "getset_descriptor.__get__")))
    (tc4 : PySem.W.takesIn K (.builtin "object.__class__") = some true)
    (tc2_Machine : PySem.W.findIn K (.ref C_Machine) "__class__" = some (some (.builtin "object.__class__")))
    (tc5_Machine : PySem.W.mroIn K C_Machine (.type "object") = some true)
    (kcl_Machine : PySem.W.clsIn K C_Machine = some cdt_Machine)
    (kty_Machine : PySem.W.typeIn K (.ref C_Machine) = some (.type "type"))
    (no_Machine_int : PySem.W.subIn K (.ref C_Machine) (.type "int") = some false)
    (no_Machine_bool : PySem.W.subIn K (.ref C_Machine) (.type "bool") = some false)
    (no_Machine_str : PySem.W.subIn K (.ref C_Machine) (.type "str") = some false)
    (no_Machine_tuple : PySem.W.subIn K (.ref C_Machine) (.type "tuple") = some false)
    (no_Machine_list : PySem.W.subIn K (.ref C_Machine) (.type "list") = some false)
    (no_Machine_dict : PySem.W.subIn K (.ref C_Machine) (.type "dict") = some false)
    (sy_Machine_NoneType : PySem.W.subIn K (.type "NoneType") (.ref C_Machine) = some false)
    (sy_Machine_bool : PySem.W.subIn K (.type "bool") (.ref C_Machine) = some false)
    (sy_Machine_int : PySem.W.subIn K (.type "int") (.ref C_Machine) = some false)
    (sy_Machine_str : PySem.W.subIn K (.type "str") (.ref C_Machine) = some false)
    (sy_Machine_tuple : PySem.W.subIn K (.type "tuple") (.ref C_Machine) = some false)
    (sy_Machine_list : PySem.W.subIn K (.type "list") (.ref C_Machine) = some false)
    (sy_Machine_dict : PySem.W.subIn K (.type "dict") (.ref C_Machine) = some false)
    (z_isinstance : PySem.W.nsIn K mainGlobals "isinstance" = some none)
    (z_tuple : PySem.W.nsIn K mainGlobals "tuple" = some none)
    (z_bool : PySem.W.nsIn K mainGlobals "bool" = some none)
    (n_Machine_commands : PySem.W.findIn K (.ref C_Machine) "commands" = some none)
    (z_enumerate : PySem.W.nsIn K mainGlobals "enumerate" = some none)
    (z_sorted : PySem.W.nsIn K mainGlobals "sorted" = some none)
    (z_all : PySem.W.nsIn K mainGlobals "all" = some none)
    (n_Machine_states : PySem.W.findIn K (.ref C_Machine) "states" = some none)
    (n_Machine_steps : PySem.W.findIn K (.ref C_Machine) "steps" = some none)
    (n_Machine__found : PySem.W.findIn K (.ref C_Machine) "_found" = some none)
    (z_repr : PySem.W.nsIn K mainGlobals "repr" = some none)
    (sup_InvalidMachine : PySem.SupX.SupTxt l.prog K mg "InvalidMachine" "InvalidMachine.__init__" C_InvalidMachine fi_InvalidMachine)
    (sup_InvalidSlip : PySem.SupX.SupTxt l.prog K mg "InvalidSlip" "InvalidSlip.__init__" C_InvalidSlip fi_InvalidSlip)
    (sup_Refused : PySem.SupX.SupTxt l.prog K mg "Refused" "Refused.__init__" C_Refused fi_Refused)
    (xb_Refused : PySem.W.subIn K (.ref C_Refused) (.type "BaseException") = some true)
    (xc_Refused : PySem.W.clsIn K C_Refused = some cde_Refused)
    (xt_Refused : PySem.W.typeIn K (.ref C_Refused) = some (.type "type"))
    (x_Machine_Refused : PySem.W.subIn K (.ref C_Machine) (.ref C_Refused) = some false)
    (x_InvalidMachine_Refused : PySem.W.subIn K (.ref C_InvalidMachine) (.ref C_Refused) = some false)
    (x_InvalidSlip_Refused : PySem.W.subIn K (.ref C_InvalidSlip) (.ref C_Refused) = some false)
    (x_Refused_Refused : PySem.W.subIn K (.ref C_Refused) (.ref C_Refused) = some true)
    (xb_InvalidSlip : PySem.W.subIn K (.ref C_InvalidSlip) (.type "BaseException") = some true)
    (xc_InvalidSlip : PySem.W.clsIn K C_InvalidSlip = some cde_InvalidSlip)
    (xt_InvalidSlip : PySem.W.typeIn K (.ref C_InvalidSlip) = some (.type "type"))
    (x_Machine_InvalidSlip : PySem.W.subIn K (.ref C_Machine) (.ref C_InvalidSlip) = some false)
    (x_InvalidMachine_InvalidSlip : PySem.W.subIn K (.ref C_InvalidMachine) (.ref C_InvalidSlip) = some false)
    (x_InvalidSlip_InvalidSlip : PySem.W.subIn K (.ref C_InvalidSlip) (.ref C_InvalidSlip) = some true)
    (x_Refused_InvalidSlip : PySem.W.subIn K (.ref C_Refused) (.ref C_InvalidSlip) = some false) :
    ∃ fd : FuncData, (∀ (s : Shared) (v : Value), BindsTo s fd ⟨[v], []⟩ [("_law_script", v)]) ∧ ∀ base : Heap, K.In base → base.Ns mainGlobals mg → FnG l.prog w K mg base (L2.CX l.prog w) 9 fa fd ["_law_script"] (SpLawK K 63) := by
  have e := hfa.symm.trans (PySem.W.mg_of X G a_law)
  cases e
  refine ⟨PySem.W.fnOf "law" "law" (defArgs s_law) (defBody s_law) (defScope s_law) .none kV_law dc_law pm_law an_law cd_law ct_law, fun s v => .of_eq rfl, fun base _ _ => ?_⟩
  have T : Facts ⟨l.prog, w, K, mg, base, (fun c => if c = ("Machine" : Str) then some C_Machine else if c = ("InvalidMachine" : Str) then some C_InvalidMachine else if c = ("InvalidSlip" : Str) then some C_InvalidSlip else if c = ("Refused" : Str) then some C_Refused else none)⟩ := {
    d__law_draw := ⟨_, _, (fun_mk (st := s__law_draw) l__law_draw c__law_draw k__law_draw), PySem.W.mg_of X G a__law_draw⟩,
    b_abs := PySem.W.mg_none_of X G z_abs,
    b_int := PySem.W.mg_none_of X G z_int,
    d__law_any := ⟨_, _, (fun_mk (st := s__law_any) l__law_any c__law_any k__law_any), PySem.W.mg_of X G a__law_any⟩,
    d__law_of := ⟨_, _, (fun_mk (st := s__law_of) l__law_of c__law_of k__law_of), PySem.W.mg_of X G a__law_of⟩,
    b_len := PySem.W.mg_none_of X G z_len,
    d__law_columns := ⟨_, _, (fun_mk (st := s__law_columns) l__law_columns c__law_columns k__law_columns), PySem.W.mg_of X G a__law_columns⟩,
    b_range := PySem.W.mg_none_of X G z_range,
    d__law_mixed := ⟨_, _, (fun_mk (st := s__law_mixed) l__law_mixed c__law_mixed k__law_mixed), PySem.W.mg_of X G a__law_mixed⟩,
    b_list := PySem.W.mg_none_of X G z_list,
    d__law_column := ⟨_, _, (fun_mk (st := s__law_column) l__law_column c__law_column k__law_column), PySem.W.mg_of X G a__law_column⟩,
    b_max := PySem.W.mg_none_of X G z_max,
    b_min := PySem.W.mg_none_of X G z_min,
    d__law_machine := ⟨_, _, (fun_mk (st := s__law_machine) l__law_machine c__law_machine k__law_machine), PySem.W.mg_of X G a__law_machine⟩,
    d__law_wide := ⟨_, _, (fun_mk (st := s__law_wide) l__law_wide c__law_wide k__law_wide), PySem.W.mg_of X G a__law_wide⟩,
    d_is_sequence := ⟨_, _, (fun_mk (st := s_is_sequence) l_is_sequence c_is_sequence k_is_sequence), PySem.W.mg_of X G a_is_sequence⟩,
    tc := ⟨fun c Ca hc hq => by
        simp only [List.mem_cons, List.not_mem_nil, or_false] at hc
        rcases hc with rfl
        · cases (show ((fun c => if c = ("Machine" : Str) then some C_Machine else if c = ("InvalidMachine" : Str) then some C_InvalidMachine else if c = ("InvalidSlip" : Str) then some C_InvalidSlip else if c = ("Refused" : Str) then some C_Refused else none) : Str → Option Addr) "Machine" = some C_Machine from if_pos rfl).symm.trans hq; exact ⟨⟨pg_Machine, hd_Machine, po_Machine, sa_Machine⟩, tc2_Machine, tc3, tc4, tc5_Machine⟩
      , fun c Ca hc hq t ht => by
        simp only [List.mem_cons, List.not_mem_nil, or_false] at hc
        simp only [List.mem_cons, List.not_mem_nil, or_false] at ht
        rcases hc with rfl
        · cases (show ((fun c => if c = ("Machine" : Str) then some C_Machine else if c = ("InvalidMachine" : Str) then some C_InvalidMachine else if c = ("InvalidSlip" : Str) then some C_InvalidSlip else if c = ("Refused" : Str) then some C_Refused else none) : Str → Option Addr) "Machine" = some C_Machine from if_pos rfl).symm.trans hq; (rcases ht with rfl | rfl | rfl | rfl | rfl | rfl) <;> exact kit_sys (by assumption) (by decide)
      , fun c Ca c2 Ca2 hc hc2 hq hq2 => by
        simp only [List.mem_cons, List.not_mem_nil, or_false] at hc
        simp only [List.mem_cons, List.not_mem_nil, or_false] at hc2
        rcases hc with rfl
        · cases (show ((fun c => if c = ("Machine" : Str) then some C_Machine else if c = ("InvalidMachine" : Str) then some C_InvalidMachine else if c = ("InvalidSlip" : Str) then some C_InvalidSlip else if c = ("Refused" : Str) then some C_Refused else none) : Str → Option Addr) "Machine" = some C_Machine from if_pos rfl).symm.trans hq
          rcases hc2 with rfl
          · cases (show ((fun c => if c = ("Machine" : Str) then some C_Machine else if c = ("InvalidMachine" : Str) then some C_InvalidMachine else if c = ("InvalidSlip" : Str) then some C_InvalidSlip else if c = ("Refused" : Str) then some C_Refused else none) : Str → Option Addr) "Machine" = some C_Machine from if_pos rfl).symm.trans hq2; exact kit_self.trans (by decide)
      , fun c Ca hc hq t ht => by
        unfold tags at ht
        simp only [List.mem_cons, List.not_mem_nil, or_false] at hc
        simp only [List.mem_cons, List.not_mem_nil, or_false] at ht
        rcases hc with rfl
        · cases (show ((fun c => if c = ("Machine" : Str) then some C_Machine else if c = ("InvalidMachine" : Str) then some C_InvalidMachine else if c = ("InvalidSlip" : Str) then some C_InvalidSlip else if c = ("Refused" : Str) then some C_Refused else none) : Str → Option Addr) "Machine" = some C_Machine from if_pos rfl).symm.trans hq; (rcases ht with rfl | rfl | rfl | rfl | rfl | rfl | rfl) <;> exact kit_own kcl_Machine kty_Machine (by assumption) rfl
      ⟩,
    b_isinstance := PySem.W.mg_none_of X G z_isinstance,
    b_tuple := PySem.W.mg_none_of X G z_tuple,
    d_is_integer := ⟨_, _, (fun_mk (st := s_is_integer) l_is_integer c_is_integer k_is_integer), PySem.W.mg_of X G a_is_integer⟩,
    b_bool := PySem.W.mg_none_of X G z_bool,
    d_is_number := ⟨_, _, (fun_mk (st := s_is_number) l_is_number c_is_number k_is_number), PySem.W.mg_of X G a_is_number⟩,
    d_is_index := ⟨_, _, (fun_mk (st := s_is_index) l_is_index c_is_index k_is_index), PySem.W.mg_of X G a_is_index⟩,
    d_is_slip := ⟨_, _, (fun_mk (st := s_is_slip) l_is_slip c_is_slip k_is_slip), PySem.W.mg_of X G a_is_slip⟩,
    at_Machine_commands := ⟨_, (show ((fun c => if c = ("Machine" : Str) then some C_Machine else if c = ("InvalidMachine" : Str) then some C_InvalidMachine else if c = ("InvalidSlip" : Str) then some C_InvalidSlip else if c = ("Refused" : Str) then some C_Refused else none) : Str → Option Addr) "Machine" = some C_Machine from if_pos rfl), ⟨pg_Machine, hd_Machine, po_Machine, sa_Machine⟩, n_Machine_commands⟩,
    d_checked_heap := ⟨_, _, (fun_mk (st := s_checked_heap) l_checked_heap c_checked_heap k_checked_heap), PySem.W.mg_of X G a_checked_heap⟩,
    er_InvalidSlip := ⟨_, _, _, (show ((fun c => if c = ("Machine" : Str) then some C_Machine else if c = ("InvalidMachine" : Str) then some C_InvalidMachine else if c = ("InvalidSlip" : Str) then some C_InvalidSlip else if c = ("Refused" : Str) then some C_Refused else none) : Str → Option Addr) "InvalidSlip" = some C_InvalidSlip from (if_neg (by decide)).trans ((if_neg (by decide)).trans (if_pos rfl))), sup_InvalidSlip⟩,
    b_enumerate := PySem.W.mg_none_of X G z_enumerate,
    b_sorted := PySem.W.mg_none_of X G z_sorted,
    mk_Machine := ⟨_, _, _, (show ((fun c => if c = ("Machine" : Str) then some C_Machine else if c = ("InvalidMachine" : Str) then some C_InvalidMachine else if c = ("InvalidSlip" : Str) then some C_InvalidSlip else if c = ("Refused" : Str) then some C_Refused else none) : Str → Option Addr) "Machine" = some C_Machine from if_pos rfl), PySem.W.mg_of X G a_Machine, ⟨m_Machine, i_Machine, t_Machine, kc_Machine⟩, (fun_mk (st := s_Machine_init) l_Machine_init c_Machine_init k_Machine_init)⟩,
    er_InvalidMachine := ⟨_, _, _, (show ((fun c => if c = ("Machine" : Str) then some C_Machine else if c = ("InvalidMachine" : Str) then some C_InvalidMachine else if c = ("InvalidSlip" : Str) then some C_InvalidSlip else if c = ("Refused" : Str) then some C_Refused else none) : Str → Option Addr) "InvalidMachine" = some C_InvalidMachine from (if_neg (by decide)).trans (if_pos rfl)), sup_InvalidMachine⟩,
    b_all := PySem.W.mg_none_of X G z_all,
    at_Machine_states := ⟨_, (show ((fun c => if c = ("Machine" : Str) then some C_Machine else if c = ("InvalidMachine" : Str) then some C_InvalidMachine else if c = ("InvalidSlip" : Str) then some C_InvalidSlip else if c = ("Refused" : Str) then some C_Refused else none) : Str → Option Addr) "Machine" = some C_Machine from if_pos rfl), ⟨pg_Machine, hd_Machine, po_Machine, sa_Machine⟩, n_Machine_states⟩,
    at_Machine_steps := ⟨_, (show ((fun c => if c = ("Machine" : Str) then some C_Machine else if c = ("InvalidMachine" : Str) then some C_InvalidMachine else if c = ("InvalidSlip" : Str) then some C_InvalidSlip else if c = ("Refused" : Str) then some C_Refused else none) : Str → Option Addr) "Machine" = some C_Machine from if_pos rfl), ⟨pg_Machine, hd_Machine, po_Machine, sa_Machine⟩, n_Machine_steps⟩,
    at_Machine__found := ⟨_, (show ((fun c => if c = ("Machine" : Str) then some C_Machine else if c = ("InvalidMachine" : Str) then some C_InvalidMachine else if c = ("InvalidSlip" : Str) then some C_InvalidSlip else if c = ("Refused" : Str) then some C_Refused else none) : Str → Option Addr) "Machine" = some C_Machine from if_pos rfl), ⟨pg_Machine, hd_Machine, po_Machine, sa_Machine⟩, n_Machine__found⟩,
    d__law_heap := ⟨_, _, (fun_mk (st := s__law_heap) l__law_heap c__law_heap k__law_heap), PySem.W.mg_of X G a__law_heap⟩,
    d_checked_slip := ⟨_, _, (fun_mk (st := s_checked_slip) l_checked_slip c_checked_slip k_checked_slip), PySem.W.mg_of X G a_checked_slip⟩,
    d_put_in := ⟨_, _, (fun_mk (st := s_put_in) l_put_in c_put_in k_put_in), PySem.W.mg_of X G a_put_in⟩,
    er_Refused := ⟨_, _, _, (show ((fun c => if c = ("Machine" : Str) then some C_Machine else if c = ("InvalidMachine" : Str) then some C_InvalidMachine else if c = ("InvalidSlip" : Str) then some C_InvalidSlip else if c = ("Refused" : Str) then some C_Refused else none) : Str → Option Addr) "Refused" = some C_Refused from (if_neg (by decide)).trans ((if_neg (by decide)).trans ((if_neg (by decide)).trans (if_pos rfl)))), sup_Refused⟩,
    d__law_bad_slip := ⟨_, _, (fun_mk (st := s__law_bad_slip) l__law_bad_slip c__law_bad_slip k__law_bad_slip), PySem.W.mg_of X G a__law_bad_slip⟩,
    d_row_of := ⟨_, _, (fun_mk (st := s_row_of) l_row_of c_row_of k_row_of), PySem.W.mg_of X G a_row_of⟩,
    d_led := ⟨_, _, (fun_mk (st := s_led) l_led c_led k_led), PySem.W.mg_of X G a_led⟩,
    d_truth := ⟨_, _, (fun_mk (st := s_truth) l_truth c_truth k_truth), PySem.W.mg_of X G a_truth⟩,
    d__law_asked := ⟨_, _, (fun_mk (st := s__law_asked) l__law_asked c__law_asked k__law_asked), PySem.W.mg_of X G a__law_asked⟩,
    ex_Refused := ⟨C_Refused, PySem.W.mg_of X G a_Refused, fun c Cc hq _ => by
        by_cases e0 : c = "Machine"
        · subst e0; cases (show ((fun c => if c = ("Machine" : Str) then some C_Machine else if c = ("InvalidMachine" : Str) then some C_InvalidMachine else if c = ("InvalidSlip" : Str) then some C_InvalidSlip else if c = ("Refused" : Str) then some C_Refused else none) : Str → Option Addr) "Machine" = some C_Machine from if_pos rfl).symm.trans hq; exact (exm_own xb_Refused xc_Refused xt_Refused x_Machine_Refused).trans (by decide)
        by_cases e1 : c = "InvalidMachine"
        · subst e1; cases (show ((fun c => if c = ("Machine" : Str) then some C_Machine else if c = ("InvalidMachine" : Str) then some C_InvalidMachine else if c = ("InvalidSlip" : Str) then some C_InvalidSlip else if c = ("Refused" : Str) then some C_Refused else none) : Str → Option Addr) "InvalidMachine" = some C_InvalidMachine from (if_neg (by decide)).trans (if_pos rfl)).symm.trans hq; exact (exm_own xb_Refused xc_Refused xt_Refused x_InvalidMachine_Refused).trans (by decide)
        by_cases e2 : c = "InvalidSlip"
        · subst e2; cases (show ((fun c => if c = ("Machine" : Str) then some C_Machine else if c = ("InvalidMachine" : Str) then some C_InvalidMachine else if c = ("InvalidSlip" : Str) then some C_InvalidSlip else if c = ("Refused" : Str) then some C_Refused else none) : Str → Option Addr) "InvalidSlip" = some C_InvalidSlip from (if_neg (by decide)).trans ((if_neg (by decide)).trans (if_pos rfl))).symm.trans hq; exact (exm_own xb_Refused xc_Refused xt_Refused x_InvalidSlip_Refused).trans (by decide)
        by_cases e3 : c = "Refused"
        · subst e3; cases (show ((fun c => if c = ("Machine" : Str) then some C_Machine else if c = ("InvalidMachine" : Str) then some C_InvalidMachine else if c = ("InvalidSlip" : Str) then some C_InvalidSlip else if c = ("Refused" : Str) then some C_Refused else none) : Str → Option Addr) "Refused" = some C_Refused from (if_neg (by decide)).trans ((if_neg (by decide)).trans ((if_neg (by decide)).trans (if_pos rfl)))).symm.trans hq; exact (exm_own xb_Refused xc_Refused xt_Refused x_Refused_Refused).trans (by decide)
        cases (show ((fun c => if c = ("Machine" : Str) then some C_Machine else if c = ("InvalidMachine" : Str) then some C_InvalidMachine else if c = ("InvalidSlip" : Str) then some C_InvalidSlip else if c = ("Refused" : Str) then some C_Refused else none) : Str → Option Addr) c = none from (if_neg e0).trans ((if_neg e1).trans ((if_neg e2).trans ((if_neg e3).trans (rfl))))).symm.trans hq⟩,
    ex_InvalidSlip := ⟨C_InvalidSlip, PySem.W.mg_of X G a_InvalidSlip, fun c Cc hq _ => by
        by_cases e0 : c = "Machine"
        · subst e0; cases (show ((fun c => if c = ("Machine" : Str) then some C_Machine else if c = ("InvalidMachine" : Str) then some C_InvalidMachine else if c = ("InvalidSlip" : Str) then some C_InvalidSlip else if c = ("Refused" : Str) then some C_Refused else none) : Str → Option Addr) "Machine" = some C_Machine from if_pos rfl).symm.trans hq; exact (exm_own xb_InvalidSlip xc_InvalidSlip xt_InvalidSlip x_Machine_InvalidSlip).trans (by decide)
        by_cases e1 : c = "InvalidMachine"
        · subst e1; cases (show ((fun c => if c = ("Machine" : Str) then some C_Machine else if c = ("InvalidMachine" : Str) then some C_InvalidMachine else if c = ("InvalidSlip" : Str) then some C_InvalidSlip else if c = ("Refused" : Str) then some C_Refused else none) : Str → Option Addr) "InvalidMachine" = some C_InvalidMachine from (if_neg (by decide)).trans (if_pos rfl)).symm.trans hq; exact (exm_own xb_InvalidSlip xc_InvalidSlip xt_InvalidSlip x_InvalidMachine_InvalidSlip).trans (by decide)
        by_cases e2 : c = "InvalidSlip"
        · subst e2; cases (show ((fun c => if c = ("Machine" : Str) then some C_Machine else if c = ("InvalidMachine" : Str) then some C_InvalidMachine else if c = ("InvalidSlip" : Str) then some C_InvalidSlip else if c = ("Refused" : Str) then some C_Refused else none) : Str → Option Addr) "InvalidSlip" = some C_InvalidSlip from (if_neg (by decide)).trans ((if_neg (by decide)).trans (if_pos rfl))).symm.trans hq; exact (exm_own xb_InvalidSlip xc_InvalidSlip xt_InvalidSlip x_InvalidSlip_InvalidSlip).trans (by decide)
        by_cases e3 : c = "Refused"
        · subst e3; cases (show ((fun c => if c = ("Machine" : Str) then some C_Machine else if c = ("InvalidMachine" : Str) then some C_InvalidMachine else if c = ("InvalidSlip" : Str) then some C_InvalidSlip else if c = ("Refused" : Str) then some C_Refused else none) : Str → Option Addr) "Refused" = some C_Refused from (if_neg (by decide)).trans ((if_neg (by decide)).trans ((if_neg (by decide)).trans (if_pos rfl)))).symm.trans hq; exact (exm_own xb_InvalidSlip xc_InvalidSlip xt_InvalidSlip x_Refused_InvalidSlip).trans (by decide)
        cases (show ((fun c => if c = ("Machine" : Str) then some C_Machine else if c = ("InvalidMachine" : Str) then some C_InvalidMachine else if c = ("InvalidSlip" : Str) then some C_InvalidSlip else if c = ("Refused" : Str) then some C_Refused else none) : Str → Option Addr) c = none from (if_neg e0).trans ((if_neg e1).trans ((if_neg e2).trans ((if_neg e3).trans (rfl))))).symm.trans hq⟩,
    d__law_led := ⟨_, _, (fun_mk (st := s__law_led) l__law_led c__law_led k__law_led), PySem.W.mg_of X G a__law_led⟩,
    d_since := ⟨_, _, (fun_mk (st := s_since) l_since c_since k_since), PySem.W.mg_of X G a_since⟩,
    d_until := ⟨_, _, (fun_mk (st := s_until) l_until c_until k_until), PySem.W.mg_of X G a_until⟩,
    d__law_parts_at := ⟨_, _, (fun_mk (st := s__law_parts_at) l__law_parts_at c__law_parts_at k__law_parts_at), PySem.W.mg_of X G a__law_parts_at⟩,
    d_law := ⟨_, _, (fun_mk (st := s_law) l_law c_law k_law), PySem.W.mg_of X G a_law⟩,
    b_repr := PySem.W.mg_none_of X G z_repr }
  exact fn_okLaw (T := ⟨l.prog, w, K, mg, base, (fun c => if c = ("Machine" : Str) then some C_Machine else if c = ("InvalidMachine" : Str) then some C_InvalidMachine else if c = ("InvalidSlip" : Str) then some C_InvalidSlip else if c = ("Refused" : Str) then some C_Refused else none)⟩) (fun_mk (st := s_law) l_law c_law k_law) sc_law (fun cdv A outer s H E ns hO => pk_law.2 _ T fa cdv A outer s H E ns hO) law_true
end Gk03
open PySem PySem.W PyProof.Rows in
set_option maxRecDepth 100000 in
set_option maxHeartbeats 0 in
theorem PySem.Challenge.cw_lateslips_k03_heaps_of_slips_holds : PySem.Challenge.rw_lateslips_k03_heaps_of_slips.Holds := by
  w_on; o_law; k_head; (case hw => w_witness2)
  k_fill
  refine Pv.walkP (n := 63) (k := 9) (x := "_law_script") (l := PySem.Challenge.rw_lateslips_k03_heaps_of_slips) rfl (Nat.le_of_ble_eq_true rfl) rfl ⟨⟨rfl, by decide, by decide⟩, rfl⟩ (fun w h Y => PySem.W.kIn_of Y) ?F
  case F =>
    intro w mg fa h KX G hmg
    refine' Gk03.all_mk KX G hmg ?a_Machine ?a_InvalidMachine ?a_InvalidSlip ?a_Refused ?a__law_draw ?l__law_draw ?c__law_draw ?k__law_draw ?a__law_any ?l__law_any ?c__law_any ?k__law_any ?a__law_of ?l__law_of ?c__law_of ?k__law_of ?a__law_columns ?l__law_columns ?c__law_columns ?k__law_columns ?a__law_mixed ?l__law_mixed ?c__law_mixed ?k__law_mixed ?a__law_column ?l__law_column ?c__law_column ?k__law_column ?a__law_machine ?l__law_machine ?c__law_machine ?k__law_machine ?a__law_wide ?l__law_wide ?c__law_wide ?k__law_wide ?a_is_sequence ?l_is_sequence ?c_is_sequence ?k_is_sequence ?a_is_integer ?l_is_integer ?c_is_integer ?k_is_integer ?a_is_number ?l_is_number ?c_is_number ?k_is_number ?a_is_index ?l_is_index ?c_is_index ?k_is_index ?a_is_slip ?l_is_slip ?c_is_slip ?k_is_slip ?a_checked_heap ?l_checked_heap ?c_checked_heap ?k_checked_heap ?a__law_heap ?l__law_heap ?c__law_heap ?k__law_heap ?a_checked_slip ?l_checked_slip ?c_checked_slip ?k_checked_slip ?a_put_in ?l_put_in ?c_put_in ?k_put_in ?a__law_bad_slip ?l__law_bad_slip ?c__law_bad_slip ?k__law_bad_slip ?a_row_of ?l_row_of ?c_row_of ?k_row_of ?a_led ?l_led ?c_led ?k_led ?a_truth ?l_truth ?c_truth ?k_truth ?a__law_asked ?l__law_asked ?c__law_asked ?k__law_asked ?a__law_led ?l__law_led ?c__law_led ?k__law_led ?a_since ?l_since ?c_since ?k_since ?a_until ?l_until ?c_until ?k_until ?a__law_parts_at ?l__law_parts_at ?c__law_parts_at ?k__law_parts_at ?a_law ?l_law ?c_law ?k_law ?m_Machine ?i_Machine ?t_Machine ?kc_Machine ?l_Machine_init ?c_Machine_init ?k_Machine_init ?pg_Machine ?hd_Machine ?po_Machine ?sa_Machine ?z_abs ?z_int ?z_len ?z_range ?z_list ?z_max ?z_min ?tc3 ?tc4 ?tc2_Machine ?tc5_Machine ?kcl_Machine ?kty_Machine ?no_Machine_int ?no_Machine_bool ?no_Machine_str ?no_Machine_tuple ?no_Machine_list ?no_Machine_dict ?sy_Machine_NoneType ?sy_Machine_bool ?sy_Machine_int ?sy_Machine_str ?sy_Machine_tuple ?sy_Machine_list ?sy_Machine_dict ?z_isinstance ?z_tuple ?z_bool ?n_Machine_commands ?z_enumerate ?z_sorted ?z_all ?n_Machine_states ?n_Machine_steps ?n_Machine__found ?z_repr ?sup_InvalidMachine ?sup_InvalidSlip ?sup_Refused ?xb_Refused ?xc_Refused ?xt_Refused ?x_Machine_Refused ?x_InvalidMachine_Refused ?x_InvalidSlip_Refused ?x_Refused_Refused ?xb_InvalidSlip ?xc_InvalidSlip ?xt_InvalidSlip ?x_Machine_InvalidSlip ?x_InvalidMachine_InvalidSlip ?x_InvalidSlip_InvalidSlip ?x_Refused_InvalidSlip
    (case a_Machine => k_is)
    (case a_InvalidMachine => k_is)
    (case a_InvalidSlip => k_is)
    (case a_Refused => k_is)
    (case a__law_draw => k_is)
    (case l__law_draw => k_is)
    (case c__law_draw => k_is)
    (case k__law_draw => k_is)
    (case a__law_any => k_is)
    (case l__law_any => k_is)
    (case c__law_any => k_is)
    (case k__law_any => k_is)
    (case a__law_of => k_is)
    (case l__law_of => k_is)
    (case c__law_of => k_is)
    (case k__law_of => k_is)
    (case a__law_columns => k_is)
    (case l__law_columns => k_is)
    (case c__law_columns => k_is)
    (case k__law_columns => k_is)
    (case a__law_mixed => k_is)
    (case l__law_mixed => k_is)
    (case c__law_mixed => k_is)
    (case k__law_mixed => k_is)
    (case a__law_column => k_is)
    (case l__law_column => k_is)
    (case c__law_column => k_is)
    (case k__law_column => k_is)
    (case a__law_machine => k_is)
    (case l__law_machine => k_is)
    (case c__law_machine => k_is)
    (case k__law_machine => k_is)
    (case a__law_wide => k_is)
    (case l__law_wide => k_is)
    (case c__law_wide => k_is)
    (case k__law_wide => k_is)
    (case a_is_sequence => k_is)
    (case l_is_sequence => k_is)
    (case c_is_sequence => k_is)
    (case k_is_sequence => k_is)
    (case a_is_integer => k_is)
    (case l_is_integer => k_is)
    (case c_is_integer => k_is)
    (case k_is_integer => k_is)
    (case a_is_number => k_is)
    (case l_is_number => k_is)
    (case c_is_number => k_is)
    (case k_is_number => k_is)
    (case a_is_index => k_is)
    (case l_is_index => k_is)
    (case c_is_index => k_is)
    (case k_is_index => k_is)
    (case a_is_slip => k_is)
    (case l_is_slip => k_is)
    (case c_is_slip => k_is)
    (case k_is_slip => k_is)
    (case a_checked_heap => k_is)
    (case l_checked_heap => k_is)
    (case c_checked_heap => k_is)
    (case k_checked_heap => k_is)
    (case a__law_heap => k_is)
    (case l__law_heap => k_is)
    (case c__law_heap => k_is)
    (case k__law_heap => k_is)
    (case a_checked_slip => k_is)
    (case l_checked_slip => k_is)
    (case c_checked_slip => k_is)
    (case k_checked_slip => k_is)
    (case a_put_in => k_is)
    (case l_put_in => k_is)
    (case c_put_in => k_is)
    (case k_put_in => k_is)
    (case a__law_bad_slip => k_is)
    (case l__law_bad_slip => k_is)
    (case c__law_bad_slip => k_is)
    (case k__law_bad_slip => k_is)
    (case a_row_of => k_is)
    (case l_row_of => k_is)
    (case c_row_of => k_is)
    (case k_row_of => k_is)
    (case a_led => k_is)
    (case l_led => k_is)
    (case c_led => k_is)
    (case k_led => k_is)
    (case a_truth => k_is)
    (case l_truth => k_is)
    (case c_truth => k_is)
    (case k_truth => k_is)
    (case a__law_asked => k_is)
    (case l__law_asked => k_is)
    (case c__law_asked => k_is)
    (case k__law_asked => k_is)
    (case a__law_led => k_is)
    (case l__law_led => k_is)
    (case c__law_led => k_is)
    (case k__law_led => k_is)
    (case a_since => k_is)
    (case l_since => k_is)
    (case c_since => k_is)
    (case k_since => k_is)
    (case a_until => k_is)
    (case l_until => k_is)
    (case c_until => k_is)
    (case k_until => k_is)
    (case a__law_parts_at => k_is)
    (case l__law_parts_at => k_is)
    (case c__law_parts_at => k_is)
    (case k__law_parts_at => k_is)
    (case a_law => k_is)
    (case l_law => k_is)
    (case c_law => k_is)
    (case k_law => k_is)
    (case m_Machine => k_is)
    (case i_Machine => k_is)
    (case t_Machine => k_is)
    (case kc_Machine => k_is)
    (case l_Machine_init => k_is)
    (case c_Machine_init => k_is)
    (case k_Machine_init => k_is)
    (case pg_Machine => k_is)
    (case hd_Machine => k_is)
    (case po_Machine => k_is)
    (case sa_Machine => k_is)
    (case z_abs => k_is)
    (case z_int => k_is)
    (case z_len => k_is)
    (case z_range => k_is)
    (case z_list => k_is)
    (case z_max => k_is)
    (case z_min => k_is)
    (case tc3 => k_is)
    (case tc4 => k_is)
    (case tc2_Machine => k_is)
    (case tc5_Machine => k_is)
    (case kcl_Machine => k_is)
    (case kty_Machine => k_is)
    (case no_Machine_int => k_is)
    (case no_Machine_bool => k_is)
    (case no_Machine_str => k_is)
    (case no_Machine_tuple => k_is)
    (case no_Machine_list => k_is)
    (case no_Machine_dict => k_is)
    (case sy_Machine_NoneType => k_is)
    (case sy_Machine_bool => k_is)
    (case sy_Machine_int => k_is)
    (case sy_Machine_str => k_is)
    (case sy_Machine_tuple => k_is)
    (case sy_Machine_list => k_is)
    (case sy_Machine_dict => k_is)
    (case z_isinstance => k_is)
    (case z_tuple => k_is)
    (case z_bool => k_is)
    (case n_Machine_commands => k_is)
    (case z_enumerate => k_is)
    (case z_sorted => k_is)
    (case z_all => k_is)
    (case n_Machine_states => k_is)
    (case n_Machine_steps => k_is)
    (case n_Machine__found => k_is)
    (case z_repr => k_is)
    (case sup_InvalidMachine => refine' PySem.SupX.sup_mk (PySem.W.mg_of KX G ?gC) ?cls ?cls2 ?sa ?ga ?gg ?noN ?iC ?tC ?kC ?exC ?tyC ?hdC ?supm ?subS ?subV ?opq (PySem.W.mg_none_of KX G ?noS) ?top ?f1 ?f2 ?f3 ?f4 ?f5 ?f6 ?f7; (case gC => k_is); (case cls => k_is); (case cls2 => rfl); (case sa => k_is); (case ga => k_is); (case gg => k_is); (case noN => k_is); (case iC => k_is); (case tC => k_is); (case kC => k_is); (case exC => k_is); (case tyC => k_is); (case hdC => k_is); (case supm => ks_is); (case subS => k_is); (case subV => k_is); (case opq => k_is); (case noS => k_is); (case top => rfl); (case f1 => k_is); (case f2 => k_is); (case f3 => k_is); (case f4 => rfl); (case f5 => rfl); (case f6 => k_is); (case f7 => exact fun env => ⟨_, rfl⟩))
    (case sup_InvalidSlip => refine' PySem.SupX.sup_mk (PySem.W.mg_of KX G ?gC) ?cls ?cls2 ?sa ?ga ?gg ?noN ?iC ?tC ?kC ?exC ?tyC ?hdC ?supm ?subS ?subV ?opq (PySem.W.mg_none_of KX G ?noS) ?top ?f1 ?f2 ?f3 ?f4 ?f5 ?f6 ?f7; (case gC => k_is); (case cls => k_is); (case cls2 => rfl); (case sa => k_is); (case ga => k_is); (case gg => k_is); (case noN => k_is); (case iC => k_is); (case tC => k_is); (case kC => k_is); (case exC => k_is); (case tyC => k_is); (case hdC => k_is); (case supm => ks_is); (case subS => k_is); (case subV => k_is); (case opq => k_is); (case noS => k_is); (case top => rfl); (case f1 => k_is); (case f2 => k_is); (case f3 => k_is); (case f4 => rfl); (case f5 => rfl); (case f6 => k_is); (case f7 => exact fun env => ⟨_, rfl⟩))
    (case sup_Refused => refine' PySem.SupX.sup_mk (PySem.W.mg_of KX G ?gC) ?cls ?cls2 ?sa ?ga ?gg ?noN ?iC ?tC ?kC ?exC ?tyC ?hdC ?supm ?subS ?subV ?opq (PySem.W.mg_none_of KX G ?noS) ?top ?f1 ?f2 ?f3 ?f4 ?f5 ?f6 ?f7; (case gC => k_is); (case cls => k_is); (case cls2 => rfl); (case sa => k_is); (case ga => k_is); (case gg => k_is); (case noN => k_is); (case iC => k_is); (case tC => k_is); (case kC => k_is); (case exC => k_is); (case tyC => k_is); (case hdC => k_is); (case supm => ks_is); (case subS => k_is); (case subV => k_is); (case opq => k_is); (case noS => k_is); (case top => rfl); (case f1 => k_is); (case f2 => k_is); (case f3 => k_is); (case f4 => rfl); (case f5 => rfl); (case f6 => k_is); (case f7 => exact fun env => ⟨_, rfl⟩))
    (case xb_Refused => k_is)
    (case xc_Refused => k_is)
    (case xt_Refused => k_is)
    (case x_Machine_Refused => k_is)
    (case x_InvalidMachine_Refused => k_is)
    (case x_InvalidSlip_Refused => k_is)
    (case x_Refused_Refused => k_is)
    (case xb_InvalidSlip => k_is)
    (case xc_InvalidSlip => k_is)
    (case xt_InvalidSlip => k_is)
    (case x_Machine_InvalidSlip => k_is)
    (case x_InvalidMachine_InvalidSlip => k_is)
    (case x_InvalidSlip_InvalidSlip => k_is)
    (case x_Refused_InvalidSlip => k_is)
