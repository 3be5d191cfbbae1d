import PyProof.Rows.All
import Wide.All
import OpenK.AllK
import Wide.FinOn
import HandS.ForMost
import HandS.ForExc
import HandS.Walk
import HandS.ExcInit
import HandS.TryMany
import KE.RegKSuper
import KE.KExcSuper
import HandS.Ends
import HandS.WordsExc
import HandS.CallSlots
import HandS.Defaults
import HandS.TupAny
import HandS.IsInst
import HandS.Star
import HandS.Style
import HandS.Conv
import HandS.SortRule
import PyProof.ReprRoads
import HandS.RaiseMore
import KE.GoesEnum
import HandS.SetBool
import HandS.Strs
import HandS.More
import HandS.TryOnly
import HandS.SortInts
import HandS.DictEq
import PySem.Challenge.RW_lateslips_k21_commands_that_are_free
set_option Elab.async false
set_option linter.all false
set_option maxRecDepth 100000
/-! Pv0: data, what represents it in a heap, what a run may do to heaps, slots and who owns what. -/
namespace Pv
open PySem L2

inductive D where
  | non | bl (b : Bool) | int (i : Int) | str (s : Str)
  | tup (xs : List D) | tpN (xs : List D) | lst (xs : List D) | dct (kvs : List (D × D)) | dcT (kvs : List (List Key × D))
  | obj (c : Str) (fs : List (Str × D)) | cache | scr (ns : List Int) | etp | fre (ds : List D)

/-- a result: a value, an error of a class with what it keeps, or: nothing is promised -/
inductive R (α : Type) where
  | ok (a : α) | err (c : Str) (d : D) | bad
def R.bind {α β : Type} : R α → (α → R β) → R β
  | .ok a, f => f a
  | .err c d, _ => .err c d
  | .bad, _ => .bad
@[simp] theorem R.bind_ok {α β : Type} (a : α) (f : α → R β) : R.bind (.ok a) f = f a := rfl
@[simp] theorem R.bind_err {α β : Type} (c : Str) (d : D) (f : α → R β) : R.bind (.err c d) f = .err c d := rfl
@[simp] theorem R.bind_bad {α β : Type} (f : α → R β) : R.bind .bad f = .bad := rfl

structure Txt where
  P : Program
  w : World
  K : PySem.W.Frag
  mg : Str → Option Value
  base : Heap
  cls : Str → Option Addr

/-- the script: a list known to the object, or one of the module's own -/
def ScL (K : PySem.W.Frag) (H : Hp) (a : Addr) (xs : List V) : Prop :=
  (∃ o, H a = some (.frz o (.lst xs))) ∨
    ∃ (o : Obj) (its : Array Value) (n : Nat), K.lookup a = some o ∧ o.cls = .type "list" ∧ o.dict = none ∧ o.data = .seq its n ∧ its.size ≤ sizeLine ∧ Vals xs its.toList
theorem ScL.sql {K : PySem.W.Frag} {H : Hp} {a : Addr} {xs : List V} (h : ScL K H a xs) : SqL K H a xs := by
  rcases h with ⟨o, h⟩ | h
  · exact .inl (.inr ⟨o, h⟩)
  · exact .inr h
theorem ScL.same {K : PySem.W.Frag} {H H' : Hp} {a : Addr} {xs : List V} (e : Same H H') (h : ScL K H a xs) : ScL K H' a xs := by
  rcases h with ⟨o, h⟩ | h
  · exact .inl ⟨o, e _ _ h⟩
  · exact .inr h
/-- the empty tuple, the module's own -/
def TuK (K : PySem.W.Frag) (a : Addr) : Prop := ∃ (o : Obj) (n : Nat), K.lookup a = some o ∧ o.cls = .type "tuple" ∧ o.dict = none ∧ o.data = .seq #[] n
theorem TuK.sqt {K : PySem.W.Frag} {H : Hp} {a : Addr} (h : TuK K a) : SqT K H a [] := by
  obtain ⟨o, n, h1, h2, _, h3⟩ := h
  exact .inr ⟨o, #[], n, h1, h2, h3, Nat.zero_le _, .nil⟩
mutual
inductive Rp (T : Txt) (F : Hp) : V → D → Prop
  | non : Rp T F .non .non
  | bl (b : Bool) : Rp T F (.bl b) (.bl b)
  | int (i : Int) : Rp T F (.int i) (.int i)
  | str (x : Str) : Rp T F (.str x) (.str x)
  | tup {a : Addr} {xs : List V} {ds : List D} : F a = some (.tup xs) → Rps T F xs ds → Rp T F (.ref a) (.tup ds)
  | tpN {a : Addr} {o : Obj} {xs : List V} {ds : List D} : F a = some (.frz o (.tup xs)) → o.cls = .type "tuple" → o.dict = none → Rps T F xs ds → Rp T F (.ref a) (.tpN ds)
  | scr {a : Addr} {ns : List Int} : ScL T.K F a (ns.map V.int) → Rp T F (.ref a) (.scr ns)
  | etp {a : Addr} : TuK T.K a → Rp T F (.ref a) .etp
  | lst {a : Addr} {xs : List V} {ds : List D} : F a = some (.lst xs) → Rps T F xs ds → Rp T F (.ref a) (.lst ds)
  | dct0 {a : Addr} : F a = some (.dK []) → Rp T F (.ref a) (.dct [])
  | dcT {a : Addr} {kv : List (List Key × V)} {kvs : List (List Key × D)} : F a = some (.dT kv) → kv.map (·.1) = kvs.map (·.1) → Rps T F (kv.map (·.2)) (kvs.map (·.2)) → Rp T F (.ref a) (.dcT kvs)
  | obj {a C dx : Addr} {c : Str} {fs : List (Str × V)} {ds : List (Str × D)} : T.cls c = some C → F a = some (.ins C dx fs) → fs.map (·.1) = ds.map (·.1) → Rps T F (fs.map (·.2)) (ds.map (·.2)) → Rp T F (.ref a) (.obj c ds)
  | cache (a : Addr) : Rp T F (.ref a) .cache
inductive Rps (T : Txt) (F : Hp) : List V → List D → Prop
  | nil : Rps T F [] []
  | cons {v : V} {vs : List V} {d : D} {ds : List D} : Rp T F v d → Rps T F vs ds → Rps T F (v :: vs) (d :: ds)
end

theorem rd_same {H H' : Hp} {a : Addr} {u : HO} (e : Same H H') (h : Rd H a u) : Rd H' a u := by
  rcases h with h | ⟨o, h⟩
  · exact .inl (e _ _ h)
  · exact .inr ⟨o, e _ _ h⟩
theorem sqt_same {K : PySem.W.Frag} {H H' : Hp} {a : Addr} {xs : List V} (e : Same H H') (h : SqT K H a xs) : SqT K H' a xs := by
  rcases h with h | h
  · exact .inl (rd_same e h)
  · exact .inr h
theorem sql_same {K : PySem.W.Frag} {H H' : Hp} {a : Addr} {xs : List V} (e : Same H H') (h : SqL K H a xs) : SqL K H' a xs := by
  rcases h with h | h
  · exact .inl (rd_same e h)
  · exact .inr h

mutual
theorem Rp.mono {T : Txt} {F F' : Hp} (e : Same F F') : ∀ {v : V} {d : D}, Rp T F v d → Rp T F' v d
  | _, _, .non => .non
  | _, _, .bl b => .bl b
  | _, _, .int i => .int i
  | _, _, .str x => .str x
  | _, _, .tup h r => .tup (e _ _ h) (Rps.mono e r)
  | _, _, .tpN h c n r => .tpN (e _ _ h) c n (Rps.mono e r)
  | _, _, .scr h => .scr (h.same e)
  | _, _, .etp h => .etp h
  | _, _, .lst h r => .lst (e _ _ h) (Rps.mono e r)
  | _, _, .dct0 h => .dct0 (e _ _ h)
  | _, _, .dcT h n r => .dcT (e _ _ h) n (Rps.mono e r)
  | _, _, .obj c h n r => .obj c (e _ _ h) n (Rps.mono e r)
  | _, _, .cache a => .cache a
theorem Rps.mono {T : Txt} {F F' : Hp} (e : Same F F') : ∀ {vs : List V} {ds : List D}, Rps T F vs ds → Rps T F' vs ds
  | _, _, .nil => .nil
  | _, _, .cons h r => .cons (Rp.mono e h) (Rps.mono e r)
end
theorem Rps.length {T : Txt} {F : Hp} : ∀ {vs : List V} {ds : List D}, Rps T F vs ds → vs.length = ds.length
  | _, _, .nil => rfl
  | _, _, .cons _ r => by rw [List.length_cons, List.length_cons, Rps.length r]
theorem Rps.get {T : Txt} {F : Hp} : ∀ {vs : List V} {ds : List D} {i : Nat} {d : D}, Rps T F vs ds → ds[i]? = some d → ∃ v, vs[i]? = some v ∧ Rp T F v d
  | _, _, i, d, .nil, h => by simp at h
  | _, _, 0, d, .cons (v := v) h _, e => by
    simp at e; subst e; exact ⟨v, rfl, h⟩
  | _, _, i + 1, d, .cons _ r, e => by
    obtain ⟨v, h1, h2⟩ := Rps.get (i := i) r (by simpa using e)
    exact ⟨v, by simpa using h1, h2⟩
theorem Rps.get' {T : Txt} {F : Hp} : ∀ {vs : List V} {ds : List D} {i : Nat} {v : V}, Rps T F vs ds → vs[i]? = some v → ∃ d, ds[i]? = some d ∧ Rp T F v d
  | _, _, i, d, .nil, h => by simp at h
  | _, _, 0, v, .cons (d := d) h _, e => by
    simp at e; subst e; exact ⟨d, rfl, h⟩
  | _, _, i + 1, d, .cons _ r, e => by
    obtain ⟨v, h1, h2⟩ := Rps.get' (i := i) r (by simpa using e)
    exact ⟨v, by simpa using h1, h2⟩
theorem Rps.append {T : Txt} {F : Hp} : ∀ {vs ws : List V} {ds es : List D}, Rps T F vs ds → Rps T F ws es → Rps T F (vs ++ ws) (ds ++ es)
  | _, _, _, _, .nil, s => s
  | _, _, _, _, .cons h r, s => .cons h (Rps.append r s)
theorem Rps.take {T : Txt} {F : Hp} : ∀ (n : Nat) {vs : List V} {ds : List D}, Rps T F vs ds → Rps T F (vs.take n) (ds.take n)
  | 0, _, _, _ => by simpa using Rps.nil
  | _ + 1, _, _, .nil => .nil
  | n + 1, _, _, .cons h r => .cons h (Rps.take n r)
theorem Rps.drop {T : Txt} {F : Hp} : ∀ (n : Nat) {vs : List V} {ds : List D}, Rps T F vs ds → Rps T F (vs.drop n) (ds.drop n)
  | 0, _, _, r => r
  | _ + 1, _, _, .nil => .nil
  | n + 1, _, _, .cons _ r => Rps.drop n r
theorem Rps.set {T : Txt} {F : Hp} {v : V} {d : D} (h : Rp T F v d) : ∀ {vs : List V} {ds : List D} (i : Nat), Rps T F vs ds → Rps T F (vs.set i v) (ds.set i d)
  | _, _, _, .nil => .nil
  | _, _, 0, .cons _ r => .cons h r
  | _, _, i + 1, .cons k r => .cons k (Rps.set h i r)
theorem Rps.eraseIdx {T : Txt} {F : Hp} : ∀ {vs : List V} {ds : List D} (i : Nat), Rps T F vs ds → Rps T F (vs.eraseIdx i) (ds.eraseIdx i)
  | _, _, _, .nil => .nil
  | _, _, 0, .cons _ r => r
  | _, _, i + 1, .cons k r => .cons k (Rps.eraseIdx i r)
theorem Rps.dropLast {T : Txt} {F : Hp} {vs : List V} {ds : List D} (r : Rps T F vs ds) : Rps T F vs.dropLast ds.dropLast := by
  rw [List.dropLast_eq_take, List.dropLast_eq_take, r.length]
  exact r.take _
theorem Rps.reverse {T : Txt} {F : Hp} : ∀ {vs : List V} {ds : List D}, Rps T F vs ds → Rps T F vs.reverse ds.reverse
  | _, _, .nil => .nil
  | _, _, .cons h r => by
    rw [List.reverse_cons, List.reverse_cons]
    exact (Rps.reverse r).append (.cons h .nil)
theorem Rps.one {T : Txt} {F : Hp} {v : V} {d : D} (h : Rp T F v d) : Rps T F [v] [d] := .cons h .nil

/-! ### what a run may do -/
/-- new, or a tuple that stood and is known from now on -/
def Nw (H : Hp) (a : Addr) (o : HO) : Prop := H a = none ∨ (H a = some o ∧ ∃ xs, o = .tup xs)
theorem nw_no {H : Hp} {a : Addr} {o u : HO} (e : H a = some o) (n : ∀ xs, o ≠ .tup xs) : ¬ Nw H a u := fun z => by
  rcases z with z | ⟨z, xs, h⟩
  · rw [e] at z; cases z
  · rw [e] at z
    cases z
    exact n xs h
structure Step (M : Addr → Prop) (F H F' H' : Hp) : Prop where
  fz : Same F F'
  new : ∀ a o, F' a = some o → F a = some o ∨ (Nw H a o ∨ M a)
  keep : ∀ a o, H a = some o → ¬ M a → H' a = some o
  dom : ∀ a, H' a = none → H a = none
theorem Step.refl (M : Addr → Prop) (F H : Hp) : Step M F H F H := ⟨Same.refl F, fun _ _ h => .inl h, fun _ _ h _ => h, fun _ h => h⟩
theorem Step.nw {M : Addr → Prop} {F H F1 H1 : Hp} (a : Step M F H F1 H1) {x : Addr} {o : HO} (h : Nw H1 x o) : Nw H x o ∨ M x := by
  by_cases m : M x
  · exact .inr m
  rcases h with h | ⟨h, t⟩
  · exact .inl (.inl (a.dom x h))
  · cases q : H x with
    | none => exact .inl (.inl q)
    | some u =>
      have := a.keep x u q m
      rw [h] at this
      cases this
      exact .inl (.inr ⟨q, t⟩)
theorem Step.trans {M : Addr → Prop} {F H F1 H1 F2 H2 : Hp} (a : Step M F H F1 H1) (b : Step M F1 H1 F2 H2) : Step M F H F2 H2 where
  fz := a.fz.trans b.fz
  new := fun x o h => by
    rcases b.new x o h with h | h | h
    · exact a.new x o h
    · exact .inr (a.nw h)
    · exact .inr (.inr h)
  keep := fun x o h m => b.keep x o (a.keep x o h m) m
  dom := fun x h => a.dom x (b.dom x h)
theorem Step.weak {M M' : Addr → Prop} {F H F' H' : Hp} (a : Step M F H F' H') (h : ∀ x, M x → M' x) : Step M' F H F' H' := ⟨a.fz, fun x o e => (a.new x o e).imp id fun z => z.imp id (h x), fun x o e m => a.keep x o e fun z => m (h x z), a.dom⟩
/-- a step that leaves all as it was -/
abbrev Grow (F H F' H' : Hp) : Prop := Step (fun _ => False) F H F' H'
theorem Grow.same {F H F' H' : Hp} (g : Grow F H F' H') : Same H H' := fun a o h => g.keep a o h fun z => z
/-- a new object, known as it is from now on -/
theorem grow_new {F H : Hp} {p : Addr} {o : HO} (sub : Same F H) (hp : H p = none) : Grow F H (upd F p o) (upd H p o) where
  fz := fun a u h => by rw [upd_ne (ne_of_none (sub a u h) hp)]; exact h
  new := fun a u h => by
    by_cases e : a = p
    · exact .inr (.inl (.inl (by rw [e]; exact hp)))
    · rw [upd_ne e] at h
      exact .inl h
  keep := fun a u h _ => by rw [upd_ne (ne_of_none h hp)]; exact h
  dom := fun a h => by
    by_cases e : a = p
    · rw [e]; exact hp
    · rw [upd_ne e] at h
      exact h
theorem sub_new {F H : Hp} {p : Addr} {o : HO} (sub : Same F H) : Same (upd F p o) (upd H p o) := fun a u h => by
  by_cases e : a = p
  · subst e
    rw [upd_same] at h ⊢
    exact h
  · rw [upd_ne e] at h ⊢
    exact sub a u h
/-- a new object that may change -/
theorem grow_own {F H : Hp} {p : Addr} {o : HO} (hp : H p = none) : Grow F H F (upd H p o) where
  fz := Same.refl F
  new := fun a u h => .inl h
  keep := fun a u h _ => by rw [upd_ne (ne_of_none h hp)]; exact h
  dom := fun a h => by
    by_cases e : a = p
    · rw [e]; exact hp
    · rw [upd_ne e] at h
      exact h

/-! ### lists in lists, all of one's own: in the data each of these stands as fre -/
mutual
inductive Own (T : Txt) (F H : Hp) : V → D → List Addr → Prop
  | val {v : V} {d : D} : Rp T F v d → Own T F H v d []
  | lst {a : Addr} {xs : List V} {ds : List D} {as : List Addr} : H a = some (.lst xs) → F a = none → Owns T F H xs ds as → Own T F H (.ref a) (.fre ds) (a :: as)
inductive Owns (T : Txt) (F H : Hp) : List V → List D → List Addr → Prop
  | nil : Owns T F H [] [] []
  | cons {v : V} {vs : List V} {d : D} {ds : List D} {as bs : List Addr} : Own T F H v d as → Owns T F H vs ds bs → Owns T F H (v :: vs) (d :: ds) (as ++ bs)
end
mutual
theorem Own.mem {T : Txt} {F H : Hp} : ∀ {v : V} {d : D} {as : List Addr}, Own T F H v d as → ∀ a ∈ as, (∃ xs, H a = some (.lst xs)) ∧ F a = none
  | _, _, _, .val _, _, h => by cases h
  | _, _, _, .lst e n r, b, h => by
    rcases List.mem_cons.mp h with z | z
    · subst z; exact ⟨⟨_, e⟩, n⟩
    · exact Owns.mem r b z
theorem Owns.mem {T : Txt} {F H : Hp} : ∀ {vs : List V} {ds : List D} {as : List Addr}, Owns T F H vs ds as → ∀ a ∈ as, (∃ xs, H a = some (.lst xs)) ∧ F a = none
  | _, _, _, .nil, _, h => by cases h
  | _, _, _, .cons o r, b, h => by
    rcases List.mem_append.mp h with z | z
    · exact Own.mem o b z
    · exact Owns.mem r b z
end
mutual
theorem Own.move {T : Txt} {F H F' H' : Hp} (e : Same F F') : ∀ {v : V} {d : D} {as : List Addr}, Own T F H v d as → (∀ a ∈ as, H' a = H a ∧ F' a = none) → Own T F' H' v d as
  | _, _, _, .val r, _ => .val (r.mono e)
  | _, _, _, .lst h n r, k => .lst ((k _ (List.Mem.head _)).1.trans h) (k _ (List.Mem.head _)).2 (Owns.move e r fun a ha => k a (List.Mem.tail _ ha))
theorem Owns.move {T : Txt} {F H F' H' : Hp} (e : Same F F') : ∀ {vs : List V} {ds : List D} {as : List Addr}, Owns T F H vs ds as → (∀ a ∈ as, H' a = H a ∧ F' a = none) → Owns T F' H' vs ds as
  | _, _, _, .nil, _ => .nil
  | _, _, _, .cons o r, k => .cons (Own.move e o fun a ha => k a (List.mem_append.mpr (.inl ha))) (Owns.move e r fun a ha => k a (List.mem_append.mpr (.inr ha)))
end
theorem not_fre {T : Txt} {F : Hp} {v : V} {ds : List D} (h : Rp T F v (.fre ds)) : False := by cases h
mutual
theorem Own.uniq {T : Txt} {F G H : Hp} (k : ∀ a o, H a = some o → G a = some o) : ∀ {v : V} {d : D} {as bs : List Addr}, Own T F G v d as → Own T F H v d bs → as = bs
  | _, _, _, _, .val _, .val _ => rfl
  | _, _, _, _, .val r, .lst _ _ _ => (not_fre r).elim
  | _, _, _, _, .lst _ _ _, .val r => (not_fre r).elim
  | _, _, _, _, .lst h _ r, .lst h' _ r' => by
    have := k _ _ h'
    rw [h] at this
    cases this
    rw [Owns.uniq k r r']
theorem Owns.uniq {T : Txt} {F G H : Hp} (k : ∀ a o, H a = some o → G a = some o) : ∀ {vs : List V} {ds : List D} {as bs : List Addr}, Owns T F G vs ds as → Owns T F H vs ds bs → as = bs
  | _, _, _, _, .nil, .nil => rfl
  | _, _, _, _, .cons o r, .cons o' r' => by rw [Own.uniq k o o', Owns.uniq k r r']
end
mutual
/-- as it looks while it stands still -/
def unf : D → D
  | .fre ds => .lst (unfs ds)
  | d => d
def unfs : List D → List D
  | [] => []
  | d :: ds => unf d :: unfs ds
end
theorem unf_rp {T : Txt} {F : Hp} {v : V} {d : D} (r : Rp T F v d) : unf d = d := by cases r <;> rfl
mutual
theorem Own.rp {T : Txt} {F H F1 : Hp} (e : Same F F1) : ∀ {v : V} {d : D} {as : List Addr}, Own T F H v d as → (∀ a ∈ as, F1 a = H a) → Rp T F1 v (unf d)
  | _, _, _, .val r, _ => by rw [unf_rp r]; exact r.mono e
  | _, _, _, .lst h n r, k => by
    rw [unf]
    exact .lst ((k _ (List.Mem.head _)).trans h) (Owns.rp e r fun a ha => k a (List.Mem.tail _ ha))
theorem Owns.rp {T : Txt} {F H F1 : Hp} (e : Same F F1) : ∀ {vs : List V} {ds : List D} {as : List Addr}, Owns T F H vs ds as → (∀ a ∈ as, F1 a = H a) → Rps T F1 vs (unfs ds)
  | _, _, _, .nil, _ => .nil
  | _, _, _, .cons o r, k => .cons (Own.rp e o fun a ha => k a (List.mem_append.mpr (.inl ha))) (Owns.rp e r fun a ha => k a (List.mem_append.mpr (.inr ha)))
end
theorem Owns.of {T : Txt} {F H : Hp} : ∀ {vs : List V} {ds : List D}, Rps T F vs ds → Owns T F H vs ds []
  | _, _, .nil => .nil
  | _, _, .cons h r => .cons (as := []) (.val h) (Owns.of r)
theorem Owns.append {T : Txt} {F H : Hp} : ∀ {vs ws : List V} {ds es : List D} {as bs : List Addr}, Owns T F H vs ds as → Owns T F H ws es bs → Owns T F H (vs ++ ws) (ds ++ es) (as ++ bs)
  | _, _, _, _, _, _, .nil, s => s
  | _, _, _, _, _, _, .cons o r, s => by rw [List.append_assoc]; exact .cons o (Owns.append r s)
theorem Owns.length {T : Txt} {F H : Hp} : ∀ {vs : List V} {ds : List D} {as : List Addr}, Owns T F H vs ds as → vs.length = ds.length
  | _, _, _, .nil => rfl
  | _, _, _, .cons _ r => by rw [List.length_cons, List.length_cons, Owns.length r]

/-! ### slots -/
inductive SV where
  | val (d : D) | own (ds : List D) | deal (l1 l2 : Addr) (cs : List Int) (b : Int)
  | owk (kvs : List (Key × D)) | owt (kvs : List (List Key × D))
  | ins (p dx : Addr) (c : Str) (fs : List (Str × D)) | exc (a dd : Addr) (c : Str) (d : D) | tree (d : D)
abbrev Slots := List (Option SV)

/-- what stands in a slot; as: the addresses that are this slot's own -/
def SlotOk (T : Txt) (Fr : Addr → Prop) (F H : Hp) : Option SV → Option V → List Addr → Prop
  | none, _, as => as = []
  | some (.val d), v, as => as = [] ∧ ∃ x, v = some x ∧ Rp T F x d
  | some (.own ds), v, as => ∃ l xs, as = [l] ∧ v = some (.ref l) ∧ H l = some (.lst xs) ∧ Rps T F xs ds ∧ F l = none ∧ Fr l
  | some (.deal l1 l2 cs b), v, as => as = [l1, l2] ∧ v = some (.ref l1) ∧ H l1 = some (.lst [.ref l2, .int b]) ∧ H l2 = some (.lst (cs.map V.int)) ∧ F l1 = none ∧ F l2 = none ∧ Fr l1 ∧ Fr l2 ∧ l1 ≠ l2
  | some (.owk kvs), v, as => ∃ l kv, as = [l] ∧ v = some (.ref l) ∧ H l = some (.dK kv) ∧ kv.map (·.1) = kvs.map (·.1) ∧ Rps T F (kv.map (·.2)) (kvs.map (·.2)) ∧ F l = none ∧ Fr l
  | some (.owt kvs), v, as => ∃ l kv, as = [l] ∧ v = some (.ref l) ∧ H l = some (.dT kv) ∧ kv.map (·.1) = kvs.map (·.1) ∧ Rps T F (kv.map (·.2)) (kvs.map (·.2)) ∧ F l = none ∧ Fr l
  | some (.ins p dx c fs), v, as => ∃ Ca fv, as = [p] ∧ v = some (.ref p) ∧ T.cls c = some Ca ∧ H p = some (.ins Ca dx fv) ∧ fv.map (·.1) = fs.map (·.1) ∧ Rps T F (fv.map (·.2)) (fs.map (·.2)) ∧ F p = none ∧ Fr p
  | some (.tree d), v, as => ∃ x, v = some x ∧ Own T F H x d as ∧ as.Nodup ∧ ∀ a ∈ as, Fr a
  | some (.exc a dd c d), v, as => as = [] ∧ v = some (.ref a) ∧ ∃ y, F dd = some (.xd [("at", y)]) ∧ Rp T F y d

structure SlotsOkA (T : Txt) (Fr : Addr → Prop) (F H : Hp) (env : Slots) (σ : L2.St) (A : Nat → List Addr) : Prop where
  slot : ∀ i : Nat, SlotOk T Fr F H (env[i]?.join) (σ[i]?.join) (A i)
  apart : ∀ (i j : Nat) (a : Addr), a ∈ A i → a ∈ A j → i = j
def SlotsOk (T : Txt) (Fr : Addr → Prop) (F H : Hp) (env : Slots) (σ : L2.St) : Prop := ∃ A, SlotsOkA T Fr F H env σ A

theorem SlotOk.own_some {T : Txt} {Fr : Addr → Prop} {F H : Hp} {sv : Option SV} {v : Option V} {as : List Addr} (h : SlotOk T Fr F H sv v as) : ∀ a ∈ as, (∃ o, H a = some o ∧ ∀ xs, o ≠ .tup xs) ∧ F a = none ∧ Fr a := by
  intro a ha
  cases sv with
  | none => rw [show as = [] from h] at ha; cases ha
  | some s =>
    cases s with
    | val d => rw [h.1] at ha; cases ha
    | exc _ _ _ _ => rw [h.1] at ha; cases ha
    | tree d =>
      obtain ⟨x, _, o, _, fr⟩ := h
      obtain ⟨⟨xs, h1⟩, h2⟩ := o.mem a ha
      exact ⟨⟨_, h1, nofun⟩, h2, fr a ha⟩
    | own ds =>
      obtain ⟨l, xs, rfl, _, h1, _, h2, h3⟩ := h
      have e : a = l := by simpa using ha
      subst e
      exact ⟨⟨_, h1, nofun⟩, h2, h3⟩
    | owk ds =>
      obtain ⟨l, xs, rfl, _, h1, _, _, h2, h3⟩ := h
      have e : a = l := by simpa using ha
      subst e
      exact ⟨⟨_, h1, nofun⟩, h2, h3⟩
    | owt ds =>
      obtain ⟨l, xs, rfl, _, h1, _, _, h2, h3⟩ := h
      have e : a = l := by simpa using ha
      subst e
      exact ⟨⟨_, h1, nofun⟩, h2, h3⟩
    | ins l dx c fs =>
      obtain ⟨Ca, xs, rfl, _, _, h1, _, _, h2, h3⟩ := h
      have e : a = l := by simpa using ha
      subst e
      exact ⟨⟨_, h1, nofun⟩, h2, h3⟩
    | deal l1 l2 cs b =>
      obtain ⟨rfl, _, h1, h2, h3, h4, h5, h6, _⟩ := h
      rcases List.mem_cons.mp ha with e | ha
      · subst e; exact ⟨⟨_, h1, nofun⟩, h3, h5⟩
      · have e : a = l2 := by simpa using ha
        subst e; exact ⟨⟨_, h2, nofun⟩, h4, h6⟩
theorem SlotOk.move {T : Txt} {Fr : Addr → Prop} {F H F' H' : Hp} {sv : Option SV} {v : Option V} {as : List Addr} (h : SlotOk T Fr F H sv v as) (e : Same F F') (k : ∀ a ∈ as, H' a = H a ∧ F' a = none) : SlotOk T Fr F' H' sv v as := by
  cases sv with
  | none => exact h
  | some s =>
    cases s with
    | val d =>
      obtain ⟨h1, x, h2, h3⟩ := h
      exact ⟨h1, x, h2, h3.mono e⟩
    | exc a dd c d =>
      obtain ⟨h1, h2, y, h3, h4⟩ := h
      exact ⟨h1, h2, y, e _ _ h3, h4.mono e⟩
    | tree d =>
      obtain ⟨x, h1, o, nd, fr⟩ := h
      exact ⟨x, h1, o.move e k, nd, fr⟩
    | own ds =>
      obtain ⟨l, xs, rfl, h0, h1, h2, h3, h4⟩ := h
      obtain ⟨k1, k2⟩ := k l (by simp)
      exact ⟨l, xs, rfl, h0, by rw [k1]; exact h1, h2.mono e, k2, h4⟩
    | owk ds =>
      obtain ⟨l, xs, rfl, h0, h1, hn, h2, h3, h4⟩ := h
      obtain ⟨k1, k2⟩ := k l (by simp)
      exact ⟨l, xs, rfl, h0, by rw [k1]; exact h1, hn, h2.mono e, k2, h4⟩
    | owt ds =>
      obtain ⟨l, xs, rfl, h0, h1, hn, h2, h3, h4⟩ := h
      obtain ⟨k1, k2⟩ := k l (by simp)
      exact ⟨l, xs, rfl, h0, by rw [k1]; exact h1, hn, h2.mono e, k2, h4⟩
    | ins l dx c fs =>
      obtain ⟨Ca, xs, rfl, h0, hc, h1, hn, h2, h3, h4⟩ := h
      obtain ⟨k1, k2⟩ := k l (by simp)
      exact ⟨Ca, xs, rfl, h0, hc, by rw [k1]; exact h1, hn, h2.mono e, k2, h4⟩
    | deal l1 l2 cs b =>
      obtain ⟨rfl, h0, h1, h2, h3, h4, h5, h6, h7⟩ := h
      obtain ⟨k1, k2⟩ := k l1 (by simp)
      obtain ⟨k3, k4⟩ := k l2 (by simp)
      exact ⟨rfl, h0, by rw [k1]; exact h1, by rw [k3]; exact h2, k2, k4, h5, h6, h7⟩
theorem SlotsOk.grow {T : Txt} {Fr : Addr → Prop} {F H F' H' : Hp} {env : Slots} {σ : L2.St} (h : SlotsOk T Fr F H env σ) (g : Grow F H F' H') : SlotsOk T Fr F' H' env σ := by
  obtain ⟨A, h1, h2⟩ := h
  refine ⟨A, fun i => (h1 i).move g.fz fun a ha => ?_, h2⟩
  obtain ⟨⟨xs, e1, nt⟩, e2, _⟩ := (h1 i).own_some a ha
  refine ⟨by rw [g.same a _ e1, e1], ?_⟩
  cases q : F' a with
  | none => rfl
  | some o =>
    rcases g.new a o q with z | z | z
    · rw [e2] at z; cases z
    · exact (nw_no e1 nt z).elim
    · exact z.elim

/-- less known -/
def SlotsLe (e' e : Slots) : Prop := ∀ (i : Nat) (sv : SV), e'[i]?.join = some sv → e[i]?.join = some sv
theorem SlotsLe.refl (e : Slots) : SlotsLe e e := fun _ _ h => h
theorem SlotsLe.nil (e : Slots) : SlotsLe [] e := fun i sv h => by simp at h
theorem SlotsLe.trans {a b c : Slots} (h : SlotsLe a b) (k : SlotsLe b c) : SlotsLe a c := fun i sv e => k i sv (h i sv e)
theorem SlotsLe.cons_same {x : Option SV} {a b : Slots} (h : SlotsLe a b) : SlotsLe (x :: a) (x :: b) := fun i sv e => by
  cases i with
  | zero => exact e
  | succ i => exact h i sv (by simpa using e)
theorem SlotsLe.cons_none {x : Option SV} {a b : Slots} (h : SlotsLe a b) : SlotsLe (none :: a) (x :: b) := fun i sv e => by
  cases i with
  | zero => simp at e
  | succ i => exact h i sv (by simpa using e)
theorem SlotsOk.le {T : Txt} {Fr : Addr → Prop} {F H : Hp} {e e' : Slots} {σ : L2.St} (h : SlotsOk T Fr F H e σ) (l : SlotsLe e' e) : SlotsOk T Fr F H e' σ := by
  obtain ⟨A, h1, h2⟩ := h
  refine ⟨fun i => if (e'[i]?.join).isSome then A i else [], fun i => ?_, fun i j a ha hb => ?_⟩
  · cases q : e'[i]?.join with
    | none => simp [q, SlotOk]
    | some sv =>
      have z := h1 i
      rw [l i sv q] at z
      simpa [q] using z
  · refine h2 i j a ?_ ?_
    · by_cases c : (e'[i]?.join).isSome
      · simpa [c] using ha
      · simp [c] at ha
    · by_cases c : (e'[j]?.join).isSome
      · simpa [c] using hb
      · simp [c] at hb

theorem join_set_self {α : Type} {l : List (Option α)} {i : Nat} {x : Option α} (h : i < l.length) : (l.set i x)[i]?.join = x := by
  rw [List.getElem?_set_self h]; rfl
theorem join_set_ne {α : Type} {l : List (Option α)} {i j : Nat} {x : Option α} (h : i ≠ j) : (l.set i x)[j]?.join = l[j]?.join := by
  rw [List.getElem?_set_ne h]
/-- a slot takes a value -/
theorem SlotsOk.setVal {T : Txt} {Fr : Addr → Prop} {F H : Hp} {e : Slots} {σ : L2.St} {i : Nat} {v : V} {d : D} (h : SlotsOk T Fr F H e σ) (r : Rp T F v d) (hl : e.length ≤ σ.length) : SlotsOk T Fr F H (e.set i (some (.val d))) (σ.set i (some v)) := by
  obtain ⟨A, h1, h2⟩ := h
  refine ⟨fun j => if j = i then [] else A j, fun j => ?_, fun j k a ha hb => ?_⟩
  · by_cases c : j = i
    · subst c
      rw [if_pos rfl]
      by_cases he : j < e.length
      · rw [join_set_self he, join_set_self (Nat.lt_of_lt_of_le he hl)]
        exact ⟨rfl, v, rfl, r⟩
      · rw [List.getElem?_eq_none (by simpa using he)]
        rfl
    · rw [join_set_ne (Ne.symm c), join_set_ne (Ne.symm c), if_neg c]
      exact h1 j
  · by_cases c : j = i
    · simp [c] at ha
    · by_cases c' : k = i
      · simp [c'] at hb
      · rw [if_neg c] at ha
        rw [if_neg c'] at hb
        exact h2 j k a ha hb
/-- a slot is forgotten, whatever it takes -/
theorem SlotsOk.setAny {T : Txt} {Fr : Addr → Prop} {F H : Hp} {e : Slots} {σ : L2.St} {i : Nat} {v : Option V} (h : SlotsOk T Fr F H e σ) : SlotsOk T Fr F H (e.set i none) (σ.set i v) := by
  obtain ⟨A, h1, h2⟩ := h
  refine ⟨fun j => if j = i then [] else A j, fun j => ?_, fun j k a ha hb => ?_⟩
  · by_cases c : j = i
    · subst c
      rw [if_pos rfl]
      by_cases l : j < e.length
      · rw [join_set_self l]; rfl
      · rw [List.getElem?_eq_none (by simpa using l)]; rfl
    · rw [join_set_ne (Ne.symm c), join_set_ne (Ne.symm c), if_neg c]
      exact h1 j
  · by_cases c : j = i
    · simp [c] at ha
    · by_cases c' : k = i
      · simp [c'] at hb
      · rw [if_neg c] at ha
        rw [if_neg c'] at hb
        exact h2 j k a ha hb
/-- a slot takes something of its own, at a place that nobody has -/
theorem SlotsOk.setOwner {T : Txt} {Fr : Addr → Prop} {F H : Hp} {e : Slots} {σ : L2.St} {i : Nat} {l : Addr} {sv : SV} {v : V} (h : SlotsOk T Fr F H e σ) (ok : SlotOk T Fr F H (some sv) (some v) [l]) (hn : ∀ A, SlotsOkA T Fr F H e σ A → ∀ j, l ∉ A j) (hl : e.length ≤ σ.length) :
    SlotsOk T Fr F H (e.set i (some sv)) (σ.set i (some v)) := by
  obtain ⟨A, h1, h2⟩ := h
  have hn' := hn A ⟨h1, h2⟩
  by_cases hei : i < e.length
  · refine ⟨fun j => if j = i then [l] else A j, fun j => ?_, fun j k a ha hb => ?_⟩
    · by_cases c : j = i
      · subst c
        rw [join_set_self hei, join_set_self (Nat.lt_of_lt_of_le hei hl), if_pos rfl]
        exact ok
      · rw [join_set_ne (Ne.symm c), join_set_ne (Ne.symm c), if_neg c]
        exact h1 j
    · by_cases c : j = i
      · by_cases c' : k = i
        · rw [c, c']
        · rw [if_pos c] at ha
          rw [if_neg c'] at hb
          have z : a = l := by simpa using ha
          subst z
          exact absurd hb (hn' k)
      · by_cases c' : k = i
        · rw [if_neg c] at ha
          rw [if_pos c'] at hb
          have z : a = l := by simpa using hb
          subst z
          exact absurd ha (hn' j)
        · rw [if_neg c] at ha
          rw [if_neg c'] at hb
          exact h2 j k a ha hb
  · rw [List.set_eq_of_length_le (by omega)]
    refine ⟨A, fun j => ?_, h2⟩
    by_cases c : j = i
    · subst c
      have z := h1 j
      rw [List.getElem?_eq_none (by omega)] at z ⊢
      exact z
    · rw [join_set_ne (Ne.symm c)]
      exact h1 j
/-- nobody has a place that is new, or known -/
theorem SlotsOkA.notNew {T : Txt} {Fr : Addr → Prop} {F H : Hp} {e : Slots} {σ : L2.St} {A : Nat → List Addr} (h : SlotsOkA T Fr F H e σ A) {l : Addr} (hl : H l = none) (j : Nat) : l ∉ A j := fun hm => by
  obtain ⟨⟨o, e1, nt⟩, _⟩ := (h.slot j).own_some l hm
  rw [hl] at e1
  cases e1
/-- what a slot owns changes -/
theorem SlotsOk.upd1 {T : Txt} {Fr : Addr → Prop} {F H : Hp} {e : Slots} {σ : L2.St} {i : Nat} {l : Addr} {sv sv' : SV} {v : V} {o : HO} (h : SlotsOk T Fr F H e σ) (hi : e[i]?.join = some sv) (hv : σ[i]?.join = some v)
    (one : ∀ as, SlotOk T Fr F H (some sv) (some v) as → as = [l]) (ok : SlotOk T Fr F H (some sv) (some v) [l] → SlotOk T Fr F (upd H l o) (some sv') (some v) [l]) : SlotsOk T Fr F (upd H l o) (e.set i (some sv')) σ := by
  obtain ⟨A, h1, h2⟩ := h
  have q := h1 i
  rw [hi, hv] at q
  have e1 := one _ q
  rw [e1] at q
  have he : i < e.length := by
    by_cases c : i < e.length
    · exact c
    · rw [List.getElem?_eq_none (by simpa using c)] at hi; cases hi
  refine ⟨A, fun j => ?_, h2⟩
  by_cases c : j = i
  · subst c
    rw [join_set_self he, hv, e1]
    exact ok q
  · rw [join_set_ne (Ne.symm c)]
    refine (h1 j).move (Same.refl F) fun a ha => ?_
    have ne : a ≠ l := fun z => c (h2 j i a ha (by rw [e1, z]; simp))
    exact ⟨upd_ne ne, ((h1 j).own_some a ha).2.1⟩
/-- an owned list is owned no more: it stays as it is from now on -/
theorem SlotsOk.freeze {T : Txt} {Fr : Addr → Prop} {F H : Hp} {e : Slots} {σ : L2.St} {i : Nat} {ds : List D} (h : SlotsOk T Fr F H e σ) (sub : Same F H) (hi : e[i]?.join = some (.own ds)) :
    ∃ l xs, σ[i]?.join = some (.ref l) ∧ H l = some (.lst xs) ∧ F l = none ∧ Fr l ∧ Rps T F xs ds ∧ Same F (upd F l (.lst xs)) ∧ Same (upd F l (.lst xs)) H ∧ SlotsOk T Fr (upd F l (.lst xs)) H (e.set i (some (.val (.lst ds)))) σ := by
  obtain ⟨A, h1, h2⟩ := h
  have q := h1 i
  rw [hi] at q
  obtain ⟨l, xs, e1, e2, e3, e4, e5, e6⟩ := q
  have he : i < e.length := by
    by_cases c : i < e.length
    · exact c
    · rw [List.getElem?_eq_none (by simpa using c)] at hi; cases hi
  have s1 : Same F (upd F l (.lst xs)) := fun a o z => by rw [upd_ne (ne_of_none z e5)]; exact z
  refine ⟨l, xs, e2, e3, e5, e6, e4, s1, fun a o z => ?_, fun j => if j = i then [] else A j, fun j => ?_, fun j k a ha hb => ?_⟩
  · by_cases c : a = l
    · subst c
      rw [upd_same] at z
      rw [e3]
      exact z
    · rw [upd_ne c] at z
      exact sub a o z
  · by_cases c : j = i
    · subst c
      rw [join_set_self he, if_pos rfl]
      exact ⟨rfl, _, e2, .lst upd_same (e4.mono s1)⟩
    · rw [join_set_ne (Ne.symm c), if_neg c]
      refine (h1 j).move s1 fun a ha => ⟨rfl, ?_⟩
      have ne : a ≠ l := fun z => c (h2 j i a ha (by rw [e1, z]; simp))
      rw [upd_ne ne]
      exact ((h1 j).own_some a ha).2.1
  · by_cases c : j = i
    · simp [c] at ha
    · by_cases c' : k = i
      · simp [c'] at hb
      · rw [if_neg c] at ha
        rw [if_neg c'] at hb
        exact h2 j k a ha hb

/-! ### what a def returns: a value, or a list that nobody has (fre) -/
def RtV (T : Txt) (H0 F' H' : Hp) (v : V) : D → Prop
  | .fre ds => ∃ l xs, v = .ref l ∧ H' l = some (.lst xs) ∧ F' l = none ∧ H0 l = none ∧ Rps T F' xs ds
  | d => Rp T F' v d
def unfre : D → D
  | .fre ds => .lst ds
  | d => d
theorem RtV.of {T : Txt} {H0 F' H' : Hp} {v : V} {d : D} (r : Rp T F' v d) : RtV T H0 F' H' v d := by cases r <;> (first | exact .non | exact .bl _ | exact .int _ | exact .str _ | exact .tup ‹_› ‹_› | exact .tpN ‹_› ‹_› ‹_› ‹_› | exact .scr ‹_› | exact .etp ‹_› | exact .lst ‹_› ‹_› | exact .dct0 ‹_› | exact .dcT ‹_› ‹_› ‹_› | exact .obj ‹_› ‹_› ‹_› ‹_› | exact .cache _)
theorem unfre_rp {T : Txt} {F : Hp} {v : V} {d : D} (r : Rp T F v d) : unfre d = d := by cases r <;> rfl
theorem RtV.weak {T : Txt} {H0 H1 F' H' : Hp} {v : V} {d : D} (r : RtV T H1 F' H' v d) (h : ∀ a, H1 a = none → H0 a = none) : RtV T H0 F' H' v d := by
  cases d with
  | fre ds =>
    obtain ⟨l, xs, e, h1, h2, h3, h4⟩ := r
    exact ⟨l, xs, e, h1, h2, h l h3, h4⟩
  | _ => exact r
/-- it stays as it is from now on -/
theorem RtV.frz {T : Txt} {M : Addr → Prop} {F H F' H' : Hp} {v : V} {d : D} (r : RtV T H F' H' v d) (stp : Step M F H F' H') (sub : Same F' H') : ∃ F2, Step M F H F2 H' ∧ Same F' F2 ∧ Same F2 H' ∧ Rp T F2 v (unfre d) ∧ ∀ a, F2 a ≠ F' a → H a = none := by
  cases d with
  | fre ds =>
    obtain ⟨l, xs, rfl, h1, h2, h3, h4⟩ := r
    have s1 : Same F' (upd F' l (.lst xs)) := fun a o e => by rw [upd_ne (ne_of_none e h2)]; exact e
    refine ⟨upd F' l (.lst xs), ⟨stp.fz.trans s1, fun a o e => ?_, stp.keep, stp.dom⟩, s1, fun a o e => ?_, .lst upd_same (h4.mono s1), fun a e => ?_⟩
    · by_cases c : a = l
      · exact .inr (.inl (.inl (by rw [c]; exact h3)))
      · rw [upd_ne c] at e
        exact stp.new a o e
    · by_cases c : a = l
      · subst c
        rw [upd_same] at e
        rw [h1]
        exact e
      · rw [upd_ne c] at e
        exact sub a o e
    · by_cases c : a = l
      · rw [c]; exact h3
      · rw [upd_ne c] at e
        exact absurd rfl e
  | _ => exact ⟨F', stp, Same.refl _, sub, r, fun a e => absurd rfl e⟩
end Pv
set_option Elab.async false
set_option linter.all false
set_option maxRecDepth 100000
set_option maxHeartbeats 2000000
/-! PvX: own errors whose __init__ hands a text to its base's and keeps its argument as at. -/
namespace PySem
namespace SupX
open PySem.W PySem.Calls PyProof.Rows PySem.HandSPX
def iA (p1 p2 : Pos) : Arguments := { posonlyargs := [], args := [{ arg := "self", annotation := none, pos := p1 }, { arg := "at", annotation := none, pos := p2 }], vararg := none, kwonlyargs := [], kw_defaults := [], kwarg := none, defaults := [] }
def iB (z : Str) (jj : Nat) (r1 r2 r3 r4 r5 r6 q1 q2 q3 q4 : Pos) : List Stmt :=
  [.Expr (.Call (.Attribute (.Call (.Name "super" r1) [] [] r2) "__init__" r3) [.Constant (.str z) jj r4] [] r5) r6, .Assign [.Attribute (.Name "self" q1) "at" q2] (.Name "at" q3) q4]
def iS : Scope := { kind := .function, names := [(PySem.Str.ofString "self", .local), (PySem.Str.ofString "at", .local), (PySem.Str.ofString "__class__", .free), (PySem.Str.ofString "super", .globalImplicit)], isGenerator := false, isCoroutine := false, more := [] }
/-- what the written part says of the class x, at C, and of its __init__, at fI -/
structure SupTxt (P : Program) (K : Frag) (mg : Str → Option Value) (x qual : Str) (C fI : Addr) : Prop where
  gC : mg x = some (.ref C)
  cls : ∃ nm q N bs bm sn sub ab col dd k0 k1 k2 k3 k5, K.lookup C = some (excClassObj nm q C N bs bm true sn sub ab col dd k0 k1 k2 k3 k5 "ValueError.__new__") ∧ refsVE bm = true
  sa : findIn K (.ref C) "__setattr__" = some (some (.builtin "object.__setattr__"))
  ga : findIn K (.ref C) "__getattribute__" = some (some (.builtin "BaseException.__getattribute__"))
  gg : findIn K (.ref C) "__getattr__" = some none
  noN : findIn K (.ref C) "at" = some none
  iC : findIn K (.ref C) "__init__" = some (some (.ref fI))
  tC : typeIn K (.ref fI) = some (.type "function")
  kC : keepIn K (.ref C) = true
  exC : subIn K (.ref C) (.type "BaseException") = some true
  tyC : typeIn K (.ref C) = some (.type "type")
  hdC : hasDictIn K C = true
  supm : ks_superIn K C C "__init__" = some (some (.builtin "ValueError.__init__"))
  subS : mroIn K C (.ref C) = some true
  subV : subIn K (.ref C) (.type "ValueError") = some true
  opq : nsIn K cStatics "thirdparty.any" = some none
  noS : mg "super" = none
  top : (P.main.scope.names.lookup ("super" : Str)).isSome = false
  fn : ∃ (oc : Value) (od : Option Addr) (doc pm : Value) (an : Option Addr) (cda cc : Addr) (ct : Value) (osl : Array (Option Value)) (z : Str) (jj : Nat) (p1 p2 r1 r2 r3 r4 r5 r6 q1 q2 q3 q4 : Pos)
      (ccl cl : Value) (cdd cld : Option Addr) (ccs csl : Array (Option Value)) (vs : Array Value) (file : Str) (tf : Tok),
    K.lookup fI = some ⟨oc, od, .func (ksFn "__init__" qual (iA p1 p2) (iB z jj r1 r2 r3 r4 r5 r6 q1 q2 q3 q4) iS .none .none doc pm an (.ref cda) ct cc), osl⟩ ∧ codeIn K (.ref cda) qual = true ∧
    K.lookup cda = some ⟨ccl, cdd, .fields vs, ccs⟩ ∧ vs[2]? = some (.str file tf) ∧ ((P.main.file : Str) == file) = true ∧ K.lookup cc = some ⟨cl, cld, .cell (some (.ref C)), csl⟩ ∧
    ∀ env : Env, ∃ pl : Sem Bool, eval (.Call (.Attribute (.Call (.Name "super" r1) [] [] r2) "__init__" r3) [.Constant (.str z) jj r4] [] r5) env = (do
      let ov ← attributeBase (.Call (.Name "super" r1) [] [] r2) "__init__" env (eval (.Call (.Name "super" r1) [] [] r2) env)
      standAt r3.atName
      let (f, first) ← holding [ov] (getMethod ov "__init__" pl)
      callWith r5 f first (backTo r5 (starEach [.Constant (.str z) jj r4] env)) [])
/-- what __init__ leaves of a fresh exception at x -/
structure InitEnd (h h' : Heap) (x C dx t1 : Addr) (v : Value) : Prop where
  keep : ∀ b o, b ≠ x → h.get? b = some o → h'.get? b = some o
  obj : h'.get? x = some { cls := .ref C, dict := some dx, data := .fields #[.ref t1, .none, .none, .none, .bool false, .none] }
  dbig : h.objs.size ≤ dx
  dne : dx ≠ x
  ns : h'.Ns1 dx (fun y => if y = "at" then some v else none)
/-- a made error -/
structure OwnMade (h h' : Heap) (e C d : Addr) (v : Value) : Prop where
  keep : ∀ b o, h.get? b = some o → h'.get? b = some o
  new : h.objs.size ≤ e
  obj : ∃ oe vs, h'.get? e = some oe ∧ oe.cls = .ref C ∧ oe.dict = some d ∧ oe.data = .fields vs ∧ vs[1]? = some .none
  dbig : h.objs.size ≤ d
  dne : d ≠ e
  ns : h'.Ns1 d (fun y => if y = "at" then some v else none)
theorem one_size (v : Value) : [v].length ≤ sizeLine := by
  rw [sizeLine_eq]
  exact (by decide : 1 ≤ 16777216)
section
variable {prog : Program} {w : World} {A : Around} {E : Value → Shared → Prop} {R : Result → Shared → Prop} {s : Shared} {K : Frag} {mg : Str → Option Value} {C fI : Addr} {x qual : Str}
theorem sup_init (T : SupTxt prog K mg x qual C fI) {e t0 : Addr} {v : Value} (X : K.In s.heap) (hlim : s.heap.NoLimit) (hg : s.heap.Ns mainGlobals mg) (hb : ∃ mb, s.heap.Ns builtinsNs mb ∧ ∀ x : Str, x ≠ "__name__" → mb x = bootBuiltins x)
    (hx : s.heap.get? e = some (excO C t0)) (hnx : K.lookup e = none) (hroom : A.depth < recursionLimit)
    (hq : ∀ h' tk dx t1, InitEnd s.heap h' e C dx t1 v → R (.ok (.ret .none)) { s with heap := h', toks := tk }) :
    codeAny (model prog w) A (.call (.ref fI) ⟨[.ref e, v], []⟩) R s := by
  obtain ⟨oc, od, doc, pm, an, cda, cc, ct, osl, z, jj, p1, p2, r1, r2, r3, r4, r5, r6, q1, q2, q3, q4, ccl, cl, cdd, cld, ccs, csl, vs, file, tf, ho, hcd, hcode, hvs, hfile, hcell, hev⟩ := T.fn
  obtain ⟨nm, q, N, bs, bm, sn, sub, ab, col, dd, k0, k1, k2, k3, k5, hC, hbm⟩ := T.cls
  have hcl : clsIn K C = some { name := nm, bases := bs, mro := .ref C :: bm, ns := N, qualname := q, hasDict := true, slotNames := sn, subclasses := sub, abstract := ab, collection := col, hasDel := false } := by unfold clsIn; rw [hC] <;> rfl
  obtain ⟨mb, hb1, hb2⟩ := hb
  refine ks_codeAny_call_defAt (fd := ksFn "__init__" qual (iA p1 p2) (iB z jj r1 r2 r3 r4 r5 r6 q1 q2 q3 q4) iS .none .none doc pm an (.ref cda) ct cc) (body := iB z jj r1 r2 r3 r4 r5 r6 q1 q2 q3 q4) (binds := [("self", .ref e), ("at", v)])
    hroom (X _ _ ho) rfl hlim (codeRec_of X hcd) rfl (BindsTo.of_eq (by first | rfl | with_unfolding_all rfl)) (by show ∀ x ∈ iS.names, x.2 ≠ .cell; decide +kernel) (fun y hy => ?_) (fun h₁ hns hk₁ => ?_)
  · rcases List.mem_cons.mp hy with rfl | hy
    · rfl
    · rcases List.mem_cons.mp hy with rfl | hy
      · rfl
      · cases hy
  · have X₁ : K.In h₁ := X.keeps hk₁
    have hx₁ := hk₁ _ _ hx
    have hinst : InstAt h₁ e (excO C t0) C none := ⟨hx₁, rfl, rfl, trivial⟩
    obtain ⟨oD, hD1, hD2⟩ : ∃ oD, h₁.get? C = some oD ∧ oD.data = .cls { name := nm, bases := bs, mro := .ref C :: bm, ns := N, qualname := q, hasDict := true, slotNames := sn, subclasses := sub, abstract := ab, collection := col, hasDel := false } := ⟨_, X₁ _ _ hC, rfl⟩
    obtain ⟨pl, he⟩ := hev (ksEnv qual iS s.heap.objs.size fI (.ref cda) cc)
    refine ks_wpAt_execs_cons (ks_wpAt_Expr_any (ks_wpAt_MethodCall (pl := pl) ?_ he))
    · refine ks_wpAt_super_base (env := ksEnv qual iS s.heap.objs.size fI (.ref cda) cc) (f := fI) (cc := cda) rfl rfl (by decide +kernel) rfl (X₁ _ _ ho) rfl rfl rfl (X₁ _ _ hcode) rfl hvs hfile T.top ?_
      refine ks_loadName_global rfl rfl (loadGlobal_builtin (env := ksEnv qual iS s.heap.objs.size fI (.ref cda) cc) (hg.keeps hk₁) T.noS (hb1.keeps hk₁) ((hb2 _ (by decide +kernel)).trans (by first | boot_by_name | rfl | kernel_rfl)) ⟨rfl, ?_⟩)
      refine wpAny_loadName_free rfl rfl rfl ⟨_, X₁ _ _ hcell, rfl⟩ ?_
      refine wpAny_loadName_local (name := ("self" : Str)) rfl rfl hns (show List.lookup ("self" : Str) [(("at" : Str), v), ("self", Value.ref e)] = some (Value.ref e) by rfl) ?_
      refine ks_wpAny_isType_cls hD1 hD2 ⟨rfl, ?_⟩
      refine ks_wpAny_call_super hD1 hD2 hx₁ rfl (fun c ec => by cases ec) (looks_mroIn X₁ T.subS) (fun h₂ e₂ k₂ => ?_)
      have X₂ : K.In h₂ := X₁.keeps k₂
      have hx₂ := k₂ _ _ hx₁
      have hinst₂ : InstAt h₂ e (excO C t0) C none := ⟨hx₂, rfl, rfl, trivial⟩
      refine kxs_getMethod kxs_ValueError e₂ (looks_opaque X₂ T.opq) (l₀ := .ref C :: bm) (l := ((Value.ref C :: bm).dropWhile (· != .ref C)).drop 1) ?_ rfl X₂ (K := K) ?_ (hinst₂.type.andThen (looks_subIn X₂ T.subV)) (ks_ne X₂ hinst₂ hcl) (by decide +kernel) ?_
      · exact fun A Q E s k q => wpAny_bind ((looks_clsIn X₂ hcl) A _ E s k (wpAny_pure q))
      · have z := T.supm
        unfold ks_superIn at z
        rw [hcl] at z
        exact z
      · -- super().__init__: a wrapper, called with the text
        have hu : (h₂.push (kxs_mw "ValueError.__init__" e)).get? h₂.objs.size = some (kxs_mw "ValueError.__init__" e) := Heap.get?_push_at rfl rfl
        have k₃ : ∀ b o, h₂.get? b = some o → (h₂.push (kxs_mw "ValueError.__init__" e)).get? b = some o := fun b o q => Heap.get?_push_of_some _ q
        refine kxs_callWith (i := "ValueError.__init__") (x := e) rfl ?_
        refine evalArgs_plain ?_
        show wpAny _ _ (spliced ((false, eval (.Constant (.str z) jj r4) (ksEnv qual iS s.heap.objs.size fI (.ref cda) cc)) :: [])) _ _ _
        refine Calls.spliced_cons (Calls.Constant_str (Calls.spliced_nil ⟨hu, ?_⟩))
        refine wpAny_call (codeAny_of_tree ?_)
        show wpAny _ _ (callAny (.ref h₂.objs.size) ⟨_, []⟩) _ _ _
        simp only [callAny]
        refine wpAny_bind (wpAny_load hu ?_)
        simp only [kxs_mw, show (Value.type "method-wrapper" == Value.type "method" || Value.type "method-wrapper" == Value.type "builtin_function_or_method" || Value.type "method-wrapper" == Value.type "method-wrapper") = true by decide, if_true]
        refine KFB.if_so (by decide) ?_
        have hC₃ := k₃ _ _ (X₂ _ _ hC)
        have hx₃ := k₃ _ _ hx₂
        refine wpAny_bind (check_bound_init F.excBase_ValueError.toExcCallFacts hC₃ hx₃ rfl ?_)
        refine wpAny_bind (wpAny_pure (wpAny_pure ?_))
        refine ⟨plainId_quiet F.excBase_ValueError.init.plain _, codeAny_builtin F.excBase_ValueError.initEntry ?_⟩
        refine exc_init_tree (cls := .ref C) (t0 := t0) (dv := none) (c2 := .none) (c3 := .none) (b4 := .bool false) hx₃ (one_size _) fun h₄ k₄ hx₄ _ => ?_
        show wpAt _ _ _ (execs [.Assign [.Attribute (.Name "self" q1) "at" q2] (.Name "at" q3) q4] (ksEnv qual iS s.heap.objs.size fI (.ref cda) cc)) _ _ _
        have up : ∀ b o, b ≠ e → h₁.get? b = some o → h₄.get? b = some o := fun b o hb q => k₄ b o hb (k₃ b o (k₂ b o q))
        have hLe : s.heap.objs.size ≠ e := Nat.ne_of_gt (Heap.lt_size hx)
        have X₄ : K.In h₄ := fun a o q => up a o (fun y => by rw [y, hnx] at q; cases q) (X₁ a o q)
        have hns₄ : h₄.Ns s.heap.objs.size fun x => List.lookup x [(("at" : Str), v), ("self", Value.ref e)] := by
          obtain ⟨oL, es, ep, hL, r⟩ := hns
          exact ⟨oL, es, ep, up _ _ hLe hL, r⟩
        refine wpAt_of_wpAny (wpAny_execs_cons (plainObj_wpAny_Assign_Attribute ?_))
        refine wpAny_Name (wpAny_loadName_local (name := ("at" : Str)) rfl rfl hns₄ (v := v) (by rfl) ?_) (by decide +kernel)
        refine wpAny_Name (wpAny_loadName_local (name := ("self" : Str)) rfl rfl hns₄ (v := Value.ref e) (by rfl) ?_) (by decide +kernel)
        have hx₅ : h₄.get? e = some (excO C (h₂.push (kxs_mw "ValueError.__init__" e)).objs.size) := hx₄
        refine set_plain X₄ (ox := excO C (h₂.push (kxs_mw "ValueError.__init__" e)).objs.size) (od := none) ⟨hx₅, rfl, rfl, trivial⟩ T.sa ?_
        refine exc_osa X₄ hx₅ hcl (show refsVE (.ref C :: bm) = true from hbm) rfl T.noN (fun h₆ tk₆ dx k₆ dn dne hx₆ hn₆ => ?_)
        show wpAny _ _ (execs _ _) _ _ _
        have old : ∀ b o, b ≠ e → s.heap.get? b = some o → h₆.get? b = some o := fun b o hb q => k₆ b o hb (up b o hb (hk₁ b o q))
        have big : s.heap.objs.size ≤ dx := by
          by_cases c : s.heap.objs.size ≤ dx
          · exact c
          · have z1 : h₄.objs.size ≤ dx := dn
            have z2 : s.heap.objs.size < h₄.objs.size := hns₄.lt
            exact absurd (Nat.le_of_lt (Nat.lt_of_lt_of_le z2 z1)) c
        exact wpAny_execs_nil (hq h₆ tk₆ dx _ ⟨old, hx₆, big, dne, hn₆⟩)
theorem sup_made (T : SupTxt prog K mg x qual C fI) {v : Value} (X : K.In s.heap) (hlim : s.heap.NoLimit) (hg : s.heap.Ns mainGlobals mg) (hb : ∃ mb, s.heap.Ns builtinsNs mb ∧ ∀ x : Str, x ≠ "__name__" → mb x = bootBuiltins x) (hroom : A.depth + 1 < recursionLimit)
    (hq : ∀ h' tk e d, OwnMade s.heap h' e C d v → R (.ok (.ret (.ref e))) { s with heap := h', toks := tk }) :
    codeAny (model prog w) A (.call (.ref C) ⟨[v], []⟩) R s := by
  obtain ⟨nm, q, N, bs, bm, sn, sub, ab, col, dd, k0, k1, k2, k3, k5, hC, hbm⟩ := T.cls
  obtain ⟨hp, g, dr, tk, os⟩ := s
  obtain ⟨mb, hb1, hb2⟩ := hb
  have kept : ∀ b o, hp.get? b = some o → ((hp.push (kdv_tup [v])).push (excO C hp.objs.size)).get? b = some o := fun b o e => Heap.get?_push_of_some _ (Heap.get?_push_of_some _ e)
  have hget : ((hp.push (kdv_tup [v])).push (excO C hp.objs.size)).get? (hp.objs.size + 1) = some (excO C hp.objs.size) := by heap_get
  have hnx : K.lookup (hp.objs.size + 1) = none := by
    cases e : K.lookup (hp.objs.size + 1) with
    | none => rfl
    | some o =>
      have y : hp.get? (hp.objs.size + 1) = some o := X _ _ e
      exact absurd (Nat.lt_of_succ_lt (Heap.lt_size y)) (Nat.lt_irrefl _)
  refine call_own F.excBase_ValueError (fun Y => refsVE_contains Y bm hbm) (X _ _ hC) (looks_findIn X T.iC) (fun self => bind_fn X self T.tC) (one_size v) ?_
  refine sup_init (s := ⟨(hp.push (kdv_tup [v])).push (excO C hp.objs.size), g, dr, tk, os⟩) T (X.keeps kept) (hlim.keeps kept) (hg.keeps kept) ⟨mb, hb1.keeps kept, hb2⟩ hget hnx hroom fun h' tk' dx t1 ⟨k', hx, dn, dne, hns⟩ => ?_
  have old : ∀ b o, hp.get? b = some o → h'.get? b = some o := fun b o e => k' b o (Nat.ne_of_lt (Nat.lt_succ_of_lt (Heap.lt_size e))) (kept b o e)
  have y : hp.objs.size + 1 + 1 ≤ dx := by
    have y1 := dn
    rw [Heap.size_push, Heap.size_push] at y1
    exact y1
  exact ⟨rfl, hq h' tk' (hp.objs.size + 1) dx ⟨old, Nat.le_succ _, ⟨_, _, hx, rfl, rfl, rfl, rfl⟩, Nat.le_trans (Nat.le_trans (Nat.le_succ _) (Nat.le_succ _)) y, dne, hns⟩⟩
end
end SupX
end PySem

namespace Pv
open PySem PySem.Spec PyProof.Rows L2
theorem relO_at {v : V} {u : Value} (r : RelV v u) (f : Str) : RelO (List.lookup f [(("at" : Str), v)]) (if f = "at" then some u else none) := by
  by_cases c : f = "at"
  · subst c
    rw [if_pos rfl, show List.lookup ("at" : Str) [(("at" : Str), v)] = some v by simp [List.lookup]]
    exact r
  · have e : (f == ("at" : Str)) = false := by simpa using c
    rw [if_neg c, show List.lookup f [(("at" : Str), v)] = none by simp [List.lookup, e]]
    trivial
section
variable {X : Cx} {C fI : Addr} {x qual : Str}
/-- X(e), an error with its argument -/
def tMkSup (C : Addr) (ta : TA) : L2.St → Hp → XK → Prop := fun σ H Q => ta σ H fun vs H1 => ∃ v, vs = [v] ∧ ∀ d, H1 d = none → Q (.ref C) (some d) (upd H1 d (.xd [(("at" : Str), v)]))
theorem pmk_sup {a : Expr} {ta : TA} {p pos : Pos} {k : Nat} (T : PySem.SupX.SupTxt X.prog X.K X.mg x qual C fI) (hr : Room k X.A) (ha : PA X [a] ta) (hg : Gl X x) (hdb : (x == ("__debug__" : Str)) = false)
    (he : starEach (a :: []) X.env = (false, eval a X.env) :: starEach [] X.env := by rfl) (hpl : (backTo pos (starEach [] X.env)).any (·.1) = false := by rfl) :
    PMk X (.Call (.Name x p) [a] [] pos) (tMkSup C ta) := by
  intro pins s σ H Q I h
  refine wpAny_Call_Name_kw (ld_glob I hg T.gC ?_ hdb)
  refine PySem.W.callWith_K (h₀ := X.base) I.ok.mod.kin T.kC (thn (ha.run pos pins s σ H _ I h) fun us s1 hh => ?_) he hpl
  obtain ⟨vs, H1, I1, r1, v, ev, q1⟩ := hh
  subst ev
  refine ⟨I1.kIn, ?_⟩
  cases r1 with
  | @cons _ v' _ us' rv rn =>
    cases rn
    show wpAny _ _ (call (.ref C) [v']) _ _ _
    have hlim := I1.nolimit
    have hgl : s1.heap.Ns mainGlobals X.mg := I1.mod.glob.keeps I1.bk
    obtain ⟨mb, hb1, hb2⟩ := I1.mod.blt
    have hbl : s1.heap.Ns builtinsNs mb := hb1.keeps I1.bk
    obtain ⟨hp, g, dr, tk, os⟩ := s1
    refine wpAny_call (PySem.SupX.sup_made T I1.kIn hlim hgl ⟨mb, hbl, hb2⟩ (by have := hr.dp; omega) fun h' tk' e d M => ?_)
    show MkP X pins σ Q (.ref e) ⟨h', g, dr, tk', os⟩
    obtain ⟨oe, fv, hoe, hc, hd, hdat, h1⟩ := M.obj
    have hns := M.ns
    obtain ⟨G', g1, g2⟩ := restrict h' fun b => decide (b ≠ e)
    have gk : ∀ b, b ≠ e → G'.get? b = h'.get? b := fun b hb => g1 b (decide_eq_true hb)
    have ge : G'.get? e = none := g2 e (by simp)
    have old : ∀ b o, hp.get? b = some o → G'.get? b = some o := fun b o z => (gk b (Nat.ne_of_lt (Nat.lt_of_lt_of_le (Heap.lt_size z) M.new))).trans (M.keep b o z)
    have ob : ObjOk X.prog X.w (upd H1 d (.xd [(("at" : Str), v)])) G' d (.xd [(("at" : Str), v)]) := ⟨_, hns.at (fun o z => (gk d M.dne).trans z), fun f => relO_at rv f⟩
    have J : Inv X pins σ (upd H1 d (.xd [(("at" : Str), v)])) ⟨G', g, dr, tk', os⟩ := I1.laid (t' := tk') old M.dbig ob
    refine ⟨e, oe, fv, ⟨G', g, dr, tk', os⟩, _, .ref C, some d, rfl, J, fun b o z => ?_, ge, hoe, ⟨hc, hd⟩, hdat, h1, ?_, rfl, I1.bare, raises_own T.exC T.tyC, q1 d (I1.hok.fresh M.dbig)⟩
    · by_cases hb : b = e
      · have z' : G'.get? b = some o := z
        rw [hb, ge] at z'
        cases z'
      · exact (gk b hb).symm.trans z
    · rw [upd_ne (Ne.symm M.dne)]
      exact I1.hok.fresh M.new
/-- err.at, err the exception that the suite holds (at a; its class cls, its dict d) -/
def tAt (C : Addr) (a : Addr) (cls : Value) (d : Option Addr) (te : TE) : TE := fun σ H Q => te σ H fun x H1 => x = .ref a ∧ cls = .ref C ∧ ∃ (dd : Addr) (v : V), d = some dd ∧ H1 dd = some (.xd [(("at" : Str), v)]) ∧ Q v H1
theorem pe_at {a : Addr} {oe : Obj} {cls : Value} {d : Option Addr} {pn : List (Addr × Obj)} {e : Expr} {te : TE} {pos : Pos} (T : PySem.SupX.SupTxt X.prog X.K X.mg x qual C fI) (hz : Zc cls d oe) (hf : ∃ vs, oe.data = .fields vs) (he : PE (X.suite a ((a, oe) :: pn)) e te)
    (hb : attributeBase e "at" X.env (eval e X.env) = eval e X.env := by rfl) : PE (X.suite a ((a, oe) :: pn)) (.Attribute e "at" pos) (tAt C a cls d te) := by
  refine ⟨fun pins s σ H Q I h => ?_⟩
  refine attr_of hb (thn (he.run pins s σ H _ I h) fun u s1 hh => ?_)
  obtain ⟨y, H1, I1, rx, ex, ec, dd, v, ed, ea, q⟩ := hh
  subst ex
  obtain rfl : u = Value.ref a := rx
  subst ec
  subst ed
  obtain ⟨ha, _⟩ := I1.pin (a, oe) (List.mem_append_left _ List.mem_cons_self)
  obtain ⟨vs, hd⟩ := hf
  have hx : ObjOk X.prog X.w H1 s1.heap dd (.xd [(("at" : Str), v)]) := I1.hok dd _ ea
  obtain ⟨mA, hns, hr⟩ := hx
  obtain ⟨od, ho, hl⟩ := lookIn_ns hns
  have l : List.lookup ("at" : Str) [(("at" : Str), v)] = some v := by simp [List.lookup]
  obtain ⟨u, hu, ru⟩ := RelO.some_of (v := v) (o := mA "at") (by rw [← l]; exact hr "at")
  have J : PySem.W.InstAt s1.heap a oe C (some od) := ⟨ha, hz.1, by unfold PySem.W.notCls; rw [hd] <;> rfl, by rw [hz.2]; exact ho⟩
  exact HandSPX.exc_get I1.kIn J T.ga T.gg T.exC (PySem.W.findObj_own T.hdC T.noN rfl (by rw [hl, hu])) (handed_of ru) ⟨v, H1, I1.tok _, ru, q⟩
end
end Pv
set_option Elab.async false
set_option linter.all false
set_option maxRecDepth 100000
/-! PvG: room in which nothing is being shown (so that what repr does of lists is known); defs and the law's end in such a room. -/
namespace Pv
open PySem PySem.Spec PyProof.Rows L2

structure RoomG (k : Nat) (A : Around) : Prop where
  r : Room k A
  g : A.guards = some []
theorem RoomG.mono {j k : Nat} {A : Around} (h : RoomG k A) (e : j ≤ k) : RoomG j A := ⟨h.r.mono e, h.g⟩
theorem deeper_guards {A : Around} {env : Env} : (A.deeper env).guards = A.guards := by
  first | rfl | (cases A; rfl)
theorem make_guards {A : Around} {C : Addr} {us : List Value} {kw : List (Str × Value)} : (A.under (.builtin "type.__call__" ⟨.ref C :: us, kw⟩)).guards = A.guards := by
  first | rfl | simp [Around.under, Code.guards, Code.isGuard, guardIds, pushGuards]
theorem RoomG.deeper {k : Nat} {A : Around} (h : RoomG (k + 1) A) (env : Env) : RoomG k (A.deeper env) := ⟨h.r.deeper env, by rw [deeper_guards]; exact h.g⟩
theorem RoomG.make {k : Nat} {A : Around} (h : RoomG (k + 1) A) (C : Addr) (us : List Value) (kw : List (Str × Value)) : RoomG k (A.under (.builtin "type.__call__" ⟨.ref C :: us, kw⟩)) := ⟨h.r.make C us kw, by rw [make_guards]; exact h.g⟩

structure FnG (P : Program) (w : World) (K : PySem.W.Frag) (mg : Str → Option Value) (base : Heap) (CX : CXT) (k : Nat) (f : Addr) (fd : FuncData) (ps : List Str) (sp : Sp) : Prop where
  run : ∀ (A : Around) (outer : List Env) (s : Shared) (H : Hp) (args : Args) (us : List Value) (vs : List V) (Q : VK) (E : XK), RoomG k A → Env0 P w K mg base A outer s H → BindsTo s fd args (ps.zip us) → Vals vs us → sp vs H Q E →
    codeAny (model P w) A (.call (.ref f) args) (CR CX outer P w H s Q E) s
variable {P : Program} {w : World} {K : PySem.W.Frag} {mg : Str → Option Value} {base : Heap}
/-- a def in such a room -/
theorem fn_okG {x qual : Str} {st : Stmt} {f : Addr} {fd : FuncData} {N ps : List Str} {k : Nat} {sp : Sp} (F : Fun K x qual st f fd) (S : FnScope N ps (defScope st)) (len : ∀ vs H Q E, sp vs H Q E → vs.length = ps.length)
    (hbody : ∀ (cdv : Value) (A : Around) (outer : List Env) (s : Shared) (H : Hp) (vs : List V) (Q : VK) (E : XK), RoomG k (A.deeper (envOfC qual (defScope st) s.heap.objs.size f cdv)) → sp vs H Q E →
      ∃ t, PSs (cxOf (L2.CX P w) P w K mg base N qual (defScope st) f cdv A outer s H E) (defBody st) t ∧ t { nx := fun _ H' => Q .non H', rt := Q } (start N vs) H) : FnG P w K mg base (L2.CX P w) (k + 1) f fd ps sp := by
  obtain ⟨oc, od, kV, doc, pm, an, cdv, ct, osl, rfl, lk, hcd⟩ := F.ex
  refine ⟨fun A outer s H args us vs Q E hr e0 hb r hsp => ?_⟩
  have KX : K.In s.heap := e0.mod.kin.keeps fun b o e => (e0.bs b o e).1
  refine codeAny_call_function hr.r.depth (KX _ _ lk) rfl S.co S.gen rfl (PySem.W.codeRec_of KX hcd) (hb _ _ _ _ (wpAny_newFunctionEnv_cells S.kind (fun y hy => ?_) fun env he s1 x => ?_))
  · exact (S.par y.1 (List.of_mem_zip hy).1).imp id fun q => ⟨q, PySem.W.cellsFrom_some _ _ _ (.inl q)⟩
  · subst he
    obtain ⟨t, ht, hq⟩ := hbody cdv A outer s H vs Q E (hr.deeper _) hsp
    refine ⟨(e0.mod.nolimit.keeps fun b o e => (e0.bs b o e).1).keeps x.toInCall.keep, codeAny_func (wpAny_mono (ht.run [] s1 _ H _ (inv_start S hr.r.hd e0 (len _ _ _ _ hsp) r x) hq) (fun fl s' hs => ?_) fun e s' hs => hs)⟩
    cases fl with
    | ret u => obtain ⟨v, _, H', J, rv, q⟩ := hs; exact ⟨v, H', J.os, J.bare, J.base, J.hok, rv, q⟩
    | next => obtain ⟨_, H', J, q⟩ := hs; exact ⟨V.non, H', J.os, J.bare, J.base, J.hok, rfl, q⟩
    | brk => obtain ⟨_, _, _, q⟩ := hs; exact q.elim
    | cont => obtain ⟨_, _, _, q⟩ := hs; exact q.elim

/-! ### the law's end -/
theorem law_end {mb : Str → Option Value} {CX : CXT} {k : Nat} {fa a : Addr} {fd : FuncData} {x : Str} {sp : Sp} {s₁ : Shared} {vs : List Value} {H : Hp}
    (KX : K.In s₁.heap) (hns : s₁.heap.Ns mainGlobals mg) (hb : s₁.heap.Ns builtinsNs mb) (hbb : ∀ x : Str, x ≠ "__name__" → mb x = bootBuiltins x) (hlim : s₁.heap.NoLimit) (hg : s₁.gens = #[])
    (ha : s₁.heap.get? a = some { cls := .type "list", data := .seq vs.toArray }) (hr : RoomG k callerA)
    (F : ∀ base : Heap, K.In base → base.Ns mainGlobals mg → FnG P w K mg base CX k fa fd [x] sp) (hbind : ∀ (s : Shared) (u : Value), BindsTo s fd ⟨[u], []⟩ [(x, u)])
    (hsp : sp [.ref a] H (fun v _ => v = .bl true) fun _ _ _ => False) (hCX : ∀ e s', CX [] H s₁ (fun _ _ _ => False) e s' → False)
    (hok : HOk P w H s₁.heap) (hA : ∀ b u, H b = some u → b = a ∧ K.lookup a = none ∧ ∃ o xs, u = .frz o (.lst xs)) :
    codeAny (model P w) callerA (.call (.ref fa) ⟨[.ref a], []⟩) (fun r s' => r = .ok (.ret (.bool true)) ∧ OldK s₁.heap s'.heap ∧ s'.os = s₁.os ∧ AllBare s'.gens) s₁ := by
  have off : ∀ {b : Addr} {o : Obj}, s₁.heap.get? b = some o → (b = a → K.lookup a = none → False) → H b = none := fun {b o} _ n => by
    cases q : H b with
    | none => rfl
    | some u => exact (n (hA b u q).1 (hA b u q).2.1).elim
  have nsK : ∀ {b : Addr} {m : Str → Option Value}, s₁.heap.Ns b m → (hidT s₁.heap H).Ns b m := fun {b m} ⟨o, es, ep, e, d, r⟩ => ⟨o, es, ep, hidT_get e (off e fun z _ => by
    subst z
    rw [ha] at e
    cases e
    cases (show Data.seq vs.toArray _ = Data.dict es ep from d)), d, r⟩
  have hKb : K.In (hidT s₁.heap H) := fun b o e => hidT_get (KX b o e) (off (KX b o e) fun z n => by rw [z, n] at e; cases e)
  have e0 : Env0 P w K mg (hidT s₁.heap H) callerA [] s₁ H :=
    ⟨rfl, ⟨hKb, nsK hns, ⟨mb, nsK hb, hbb⟩, let ⟨mc, h1, h2⟩ := hlim; ⟨mc, nsK h1, h2⟩⟩, fun b o e => of_hidT e, Nat.le_of_eq (hidT_size _ _), trivial, fun b hb => absurd (show b ∈ ([] : List Addr) from hb) (by simp), hok, .of_eq hg⟩
  refine codeAny_mono ((F _ hKb (nsK hns)).run callerA [] s₁ H ⟨[.ref a], []⟩ [.ref a] [.ref a] _ _ hr e0 (hbind s₁ (.ref a)) (.cons rfl .nil) hsp) fun r s' h => ?_
  cases r with
  | error e => exact (hCX e s' h).elim
  | ok fl =>
    cases fl with
    | next => exact False.elim h
    | brk => exact False.elim h
    | cont => exact False.elim h
    | ret u =>
      obtain ⟨v, H', os, bare, un, hok', r', q⟩ := h
      obtain rfl : v = .bl true := q
      obtain rfl : u = Value.bool true := r'
      refine ⟨rfl, OldK.of_keep fun b o e => ?_, os, bare⟩
      cases q : H b with
      | none => exact un.keep b o e q (fun z => absurd (show b ∈ ([] : List Addr) from z) (by simp)) (by simp)
      | some u =>
        obtain ⟨_, _, ob, xs, z⟩ := hA b u q
        subst z
        obtain ⟨e1, _⟩ := hok b _ q
        obtain ⟨e2, _⟩ := hok' b _ (un.frzs b ob _ q)
        rw [e] at e1
        cases e1
        exact e2
/-- what a head leaves to be shown of a law -/
theorem walk_ofG {l : PySem.W.OpenLaw} {n k : Nat} {q : Program} {loose : List Str} {XP : (Str → Option Value) → Heap → Prop} {YP : World → Heap → Prop} {d : DefRec} {K : Params → PySem.W.Frag} {CX : World → CXT} {sp : World → Sp} {x : Str}
    (hn : l.most = some n) (hn2 : n ≤ sizeLine) (hdf : d.params.defaults = []) (hr : RoomG k callerA)
    (hY : ∀ (w : World) (h : Heap), YP w h → (K w.params).In h)
    (F : ∀ (w : World) (mg : Str → Option Value) (fa : Addr) (h : Heap), (K w.params).In h → h.Ns mainGlobals mg → mg d.name = some (.ref fa) →
      ∃ fd : FuncData, (∀ (s : Shared) (u : Value), BindsTo s fd ⟨[u], []⟩ [(x, u)]) ∧
        ∀ base : Heap, (K w.params).In base → base.Ns mainGlobals mg → FnG l.prog w (K w.params) mg base (CX w) k fa fd [x] (sp w))
    (hsp : ∀ (w : World) (H : Hp) (a : Addr) (ns : List Int), ns.length ≤ n → ScL (K w.params) H a (ns.map V.int) → (∀ b u, H b = some u → ∃ o xs, u = .frz o (.lst xs)) → sp w [.ref a] H (fun v _ => v = .bl true) fun _ _ _ => False)
    (hCX : ∀ (w : World) (H : Hp) (s : Shared) (e : Value) (s' : Shared), CX w [] H s (fun _ _ _ => False) e s' → False) :
    PySem.W.WalkO q loose XP YP l.row.toRowW d [] (fun f vs => PySem.call f vs) := by
  refine Att.attach_call hn hdf fun w s₀ s₁ mg mb fa o pm cd doc a vs ns G Y ho hd hcd hmg hobj hints hlen hg => ?_
  have KX := hY w _ Y
  obtain ⟨fd, hb, hF⟩ := F w mg fa _ KX G.T.g hmg
  have rv := vals_ints hints
  have lenV := hints.length
  have hl : ns.length ≤ sizeLine := Nat.le_trans hlen hn2
  have go : ∀ H : Hp, ScL (K w.params) H a (ns.map V.int) → HOk l.prog w H s₁.heap → (∀ b u, H b = some u → b = a ∧ (K w.params).lookup a = none ∧ ∃ o xs, u = .frz o (.lst xs)) → _ :=
    fun H hS hok hA => law_end KX G.T.g G.T.b G.T.builtins G.T.nolimit hg hobj hr hF hb (hsp w H a ns hlen hS fun b u e => (hA b u e).2.2) (fun e s' => hCX w H s₁ e s') hok hA
  cases hk : (K w.params).lookup a with
  | some o =>
    have e := KX a o hk
    rw [hobj] at e
    cases e
    exact go (fun _ => none) (.inr ⟨_, vs.toArray, _, hk, rfl, rfl, rfl, by rw [List.size_toArray, lenV]; exact hl, by simpa using rv⟩) (fun b u z => nomatch z) fun b u z => nomatch z
  | none =>
    refine go (fun b => if b = a then some (.frz { cls := .type "list", data := .seq vs.toArray } (.lst (ns.map V.int))) else none) (.inl ⟨_, if_pos rfl⟩) (fun b u z => ?_) fun b u z => ?_
    · by_cases hb : b = a
      · have z' := (if_pos hb).symm.trans z
        cases z'
        subst hb
        exact ⟨hobj, by rw [List.length_map]; exact hl, vs, _, rv, hobj⟩
      · have z' := (if_neg hb).symm.trans z
        cases z'
    · by_cases hb : b = a
      · have z' := (if_pos hb).symm.trans z
        cases z'
        exact ⟨hb, hk, _, _, rfl⟩
      · have z' := (if_neg hb).symm.trans z
        cases z'
end Pv
set_option Elab.async false
set_option linter.all false
set_option maxRecDepth 100000
/-! Pv1: judgements: an expression (a block) of the text does what a plain function says. -/
namespace Pv
open PySem L2

structure Ctx where
  T : Txt
  X : Cx
  k : Nat
  M : Addr → Prop
  F0 : Hp
  H0 : Hp
  W : WX
  eh : Slots
  hot : Bool
  loose : Bool := false
abbrev Ctx.Fr (C : Ctx) : Addr → Prop := fun a => C.H0 a = none ∨ C.M a

structure Good (C : Ctx) : Prop where
  K : C.X.K = C.T.K
  mg : C.X.mg = C.T.mg
  pr : C.X.prog = C.T.P
  w : C.X.w = C.T.w
  base : C.X.base = C.T.base
  calm : C.hot = false → C.X.calm = true
  nd : C.X.N.Nodup
  room : C.hot = false → RoomG C.k C.X.A
  own : PassesOwn (model C.X.prog C.X.w) C.X.A C.X.env C.X.xe
  tk : Takes C.X C.W

structure St8 (C : Ctx) (sl : Slots) (σ : L2.St) (F H : Hp) : Prop where
  step : Step C.M C.F0 C.H0 F H
  sub : Same F H
  env : SlotsOk C.T C.Fr F H sl σ
  len : sl.length ≤ σ.length
theorem St8.grow {C : Ctx} {env : Slots} {σ : L2.St} {F H F' H' : Hp} (s : St8 C env σ F H) (g : Grow F H F' H') (sub : Same F' H') : St8 C env σ F' H' :=
  ⟨s.step.trans (g.weak fun _ z => z.elim), sub, s.env.grow g, s.len⟩
theorem St8.le {C : Ctx} {env env' : Slots} {σ : L2.St} {F H : Hp} (s : St8 C env σ F H) (l : SlotsLe env' env) (hl : env'.length ≤ env.length) : St8 C env' σ F H :=
  ⟨s.step, s.sub, s.env.le l, Nat.le_trans hl s.len⟩
theorem St8.new {C : Ctx} {env : Slots} {σ : L2.St} {F H : Hp} {p : Addr} {o : HO} (s : St8 C env σ F H) (hp : H p = none) : St8 C env σ (upd F p o) (upd H p o) :=
  s.grow (grow_new s.sub hp) (sub_new s.sub)

/-- what must stay of the known things at a block's end: all, or (in a law's own block) what was known at its start -/
def Ctx.Fx (C : Ctx) (F : Hp) : Hp := if C.loose = true then C.F0 else F
theorem St8.fx {C : Ctx} {env : Slots} {σ : L2.St} {F H : Hp} (s : St8 C env σ F H) : Same (C.Fx F) F := by
  unfold Ctx.Fx
  split
  · exact s.step.fz
  · exact Same.refl F
theorem Ctx.fx_mono (C : Ctx) {F F1 : Hp} (e : Same F F1) : Same (C.Fx F) (C.Fx F1) := by
  unfold Ctx.Fx
  split
  · exact Same.refl _
  · exact e
theorem Ctx.fx_tight {C : Ctx} (h : C.loose = false) {F F1 : Hp} (e : Same (C.Fx F) F1) : Same F F1 := by
  unfold Ctx.Fx at e
  rw [h] at e
  exact e
abbrev Ctx.tight (C : Ctx) : Ctx := { C with loose := false }
theorem St8.to_tight {C : Ctx} {env : Slots} {σ : L2.St} {F H : Hp} (s : St8 C env σ F H) : St8 C.tight env σ F H := ⟨s.step, s.sub, s.env, s.len⟩
theorem St8.of_tight {C : Ctx} {env : Slots} {σ : L2.St} {F H : Hp} (s : St8 C.tight env σ F H) : St8 C env σ F H := ⟨s.step, s.sub, s.env, s.len⟩
theorem Good.tight {C : Ctx} (g : Good C) : Good C.tight := ⟨g.K, g.mg, g.pr, g.w, g.base, g.calm, g.nd, g.room, g.own, g.tk⟩

structure ErrC (T : Txt) (c : Str) : Prop where
  ex : ∃ Ca fI qual, T.cls c = some Ca ∧ PySem.SupX.SupTxt T.P T.K T.mg c qual Ca fI
/-- how an error that leaves lies -/
def ErrOk (T : Txt) (c : Str) (d : D) (cls : Value) (dd : Option Addr) (F H : Hp) : Prop :=
  ErrC T c ∧ ∃ Ca a v, T.cls c = some Ca ∧ cls = .ref Ca ∧ dd = some a ∧ F a = some (.xd [("at", v)]) ∧ Rp T F v d
def Werr (C : Ctx) (c : Str) (d : D) : Prop := ∀ (σ : L2.St) (cls : Value) (dd : Option Addr) (F H : Hp), ErrOk C.T c d cls dd F H → St8 C C.eh σ F H → C.W cls dd σ H

def Srv (C : Ctx) {α τ : Type} : R (α × τ) → (α → τ → Prop) → Prop
  | .ok (a, s), K => K a s
  | .err c d, _ => Werr C c d
  | .bad, _ => False
theorem Srv.mono {C : Ctx} {α τ : Type} {r : R (α × τ)} {K K' : α → τ → Prop} (h : Srv C r K) (k : ∀ a s, K a s → K' a s) : Srv C r K' := by
  cases r with
  | ok p => exact k _ _ h
  | err c d => exact h
  | bad => exact h
theorem Srv.to_tight {C : Ctx} {α τ : Type} {r : R (α × τ)} {K : α → τ → Prop} (h : Srv C r K) : Srv C.tight r K := by
  cases r with
  | ok p => exact h
  | err c d => exact fun σ cls dd F H e st => h σ cls dd F H e st.of_tight
  | bad => exact h
theorem Srv.bind {C : Ctx} {α β τ τ' : Type} {r : R (α × τ)} {f : α × τ → R (β × τ')} {K : β → τ' → Prop} (h : Srv C (r.bind f) K) : Srv C r (fun a s => Srv C (f (a, s)) K) := by
  cases r with
  | ok p => exact h
  | err c d => exact h
  | bad => exact h
theorem Srv.of_ok {C : Ctx} {α τ : Type} {r : R (α × τ)} {K : α → τ → Prop} {a : α} {s : τ} (h : Srv C r K) (e : r = .ok (a, s)) : K a s := by
  subst e; exact h
/-- a plain result -/
def Srv1 (C : Ctx) {α : Type} : R α → (α → Prop) → Prop
  | .ok a, K => K a
  | .err c d, _ => Werr C c d
  | .bad, _ => False
theorem Srv.bind1 {C : Ctx} {α β τ' : Type} {r : R α} {f : α → R (β × τ')} {K : β → τ' → Prop} (h : Srv C (r.bind f) K) : Srv1 C r (fun a => Srv C (f a) K) := by
  cases r with
  | ok p => exact h
  | err c d => exact h
  | bad => exact h

/-! ### the weakest reading -/
def wpE (X : Cx) (e : Expr) : TE := fun σ H Q => ∃ t, PE X e t ∧ t σ H Q
theorem pe_wp {X : Cx} {e : Expr} : PE X e (wpE X e) := ⟨fun pins s σ H Q I ⟨t, h, q⟩ => h.run pins s σ H Q I q⟩
def wpT (X : Cx) (e : Expr) : TT := fun σ H Q => ∃ t, PT X e t ∧ t σ H Q
theorem pt_wp {X : Cx} {e : Expr} : PT X e (wpT X e) := ⟨fun pins s σ H Q I ⟨t, h, q⟩ => h.run pins s σ H Q I q⟩
def wpA (X : Cx) (es : List Expr) : TA := fun σ H Q => ∃ t, PA X es t ∧ t σ H Q
theorem pa_wp {X : Cx} {es : List Expr} : PA X es (wpA X es) := ⟨fun pos pins s σ H Q I ⟨t, h, q⟩ => h.run pos pins s σ H Q I q⟩
def wpS (X : Cx) (ss : List Stmt) : TS := fun D σ H => ∃ t, PSs X ss t ∧ t D σ H
theorem ps_wp {X : Cx} {ss : List Stmt} : PSs X ss (wpS X ss) := ⟨fun pins s σ H D I ⟨t, h, q⟩ => h.run pins s σ H D I q⟩
theorem pw_wp {X : Cx} {e : Expr} {t : TT} (h : PW X e t) : PT X e t := h.pt

/-! ### judgements -/
def JE (C : Ctx) {τ : Type} (φ : τ → Slots) (e : Expr) (m : τ → R (D × τ)) : Prop := Good C → ∀ (s : τ) (σ : L2.St) (F H : Hp) (Q : VK), St8 C (φ s) σ F H →
  Srv C (m s) (fun d s' => ∀ v F' H', Same F F' → Rp C.T F' v d → St8 C (φ s') σ F' H' → Q v H') → wpE C.X e σ H Q
def JT (C : Ctx) {τ : Type} (φ : τ → Slots) (e : Expr) (m : τ → R (Bool × τ)) : Prop := Good C → ∀ (s : τ) (σ : L2.St) (F H : Hp) (Q : Bool → Hp → Prop), St8 C (φ s) σ F H →
  Srv C (m s) (fun b s' => ∀ F' H', Same F F' → St8 C (φ s') σ F' H' → Q b H') → wpT C.X e σ H Q
def JA (C : Ctx) {τ : Type} (φ : τ → Slots) (es : List Expr) (m : τ → R (List D × τ)) : Prop := Good C → ∀ (s : τ) (σ : L2.St) (F H : Hp) (Q : List V → Hp → Prop), St8 C (φ s) σ F H →
  Srv C (m s) (fun ds s' => ∀ vs F' H', Same F F' → Rps C.T F' vs ds → St8 C (φ s') σ F' H' → Q vs H') → wpA C.X es σ H Q

section
variable {C : Ctx} {τ : Type} {φ : τ → Slots}
theorem SlotsOk.valAt {T : Txt} {Fr : Addr → Prop} {F H : Hp} {e : Slots} {σ : L2.St} {i : Nat} {d : D} (h : SlotsOk T Fr F H e σ) (hi : e[i]?.join = some (.val d)) : ∃ v, σ[i]? = some (some v) ∧ Rp T F v d := by
  obtain ⟨A, h1, _⟩ := h
  have q := h1 i
  rw [hi] at q
  obtain ⟨_, v, e1, r⟩ := q
  refine ⟨v, ?_, r⟩
  cases z : σ[i]? with
  | none => rw [z] at e1; cases e1
  | some o => rw [z] at e1; rw [show o = some v from e1]
/-- a name that holds a value -/
theorem je_var (i : Nat) {x : Str} {pos : Pos} {f : τ → D} (hv : ∀ s, (φ s)[i]?.join = some (.val (f s)) := by intro _; rfl) (hN : C.X.N[i]? = some x := by rfl) (hs : Vis C.X.env.scope x := by first | exact Or.inl rfl | exact Or.inr (Or.inl rfl) | exact Or.inr (Or.inr rfl))
    (hd : (x == ("__debug__" : Str)) = false := by decide) (hcd : (x == ("__classdict__" : Str)) = false := by decide) : JE C φ (.Name x pos) (fun s => .ok (f s, s)) := fun g s σ F H Q st h => by
  obtain ⟨v, e, r⟩ := st.env.valAt (hv s)
  exact ⟨_, pe_var hN hs hd hcd, v, e, h v F H (Same.refl F) r st⟩
theorem je_int {i : Int} {j : Nat} {pos : Pos} : JE C φ (.Constant (.int i) j pos) (fun s => .ok (.int i, s)) := fun g s σ F H Q st h => ⟨_, pe_int, h _ F H (Same.refl F) (.int i) st⟩
theorem je_bl {i : Bool} {j : Nat} {pos : Pos} : JE C φ (.Constant (.bool i) j pos) (fun s => .ok (.bl i, s)) := fun g s σ F H Q st h => ⟨_, pe_bl, h _ F H (Same.refl F) (.bl i) st⟩
theorem je_str {i : Str} {j : Nat} {pos : Pos} : JE C φ (.Constant (.str i) j pos) (fun s => .ok (.str i, s)) := fun g s σ F H Q st h => ⟨_, pe_str, h _ F H (Same.refl F) (.str i) st⟩
theorem je_non {j : Nat} {pos : Pos} : JE C φ (.Constant .none j pos) (fun s => .ok (.non, s)) := fun g s σ F H Q st h => ⟨_, pe_non, h _ F H (Same.refl F) .non st⟩

/-- a two-place operation -/
def OpD (C : Ctx) (op : Value → Value → Sem Value) (g : D → D → R D) : Prop := Good C → ∃ r, OpR C.X op r ∧ ∀ (F H : Hp) (Q : VK) (vx vy : V) (dx dy : D), Same F H → Rp C.T F vx dx → Rp C.T F vy dy →
  Srv1 C (g dx dy) (fun d => ∀ v F' H', Grow F H F' H' → Same F' H' → Rp C.T F' v d → Q v H') → r vx vy H Q
theorem je_op {a b : Expr} {pos : Pos} {op : Operator} {g : D → D → R D} {ma mb : τ → R (D × τ)} (ho : OpD C (binaryOp op) g) (ha : JE C φ a ma) (hb : JE C φ b mb) :
    JE C φ (.BinOp a op b pos) (fun s => (ma s).bind fun p => (mb p.2).bind fun q => (g p.1 q.1).bind fun d => .ok (d, q.2)) := fun gd s σ F H Q st h => by
  obtain ⟨r, hr, hv⟩ := ho gd
  refine ⟨_, pe_op hr pe_wp pe_wp, ?_⟩
  refine ha gd s σ F H _ st (h.bind.mono fun dx s1 h1 vx F1 H1 e1 r1 st1 => ?_)
  refine hb gd s1 σ F1 H1 _ st1 (h1.bind.mono fun dy s2 h2 vy F2 H2 e2 r2 st2 => ?_)
  refine hv F2 H2 Q vx vy dx dy st2.sub (r1.mono e2) r2 ?_
  have h3 := h2.bind1
  cases q : g dx dy with
  | ok d => rw [q] at h3; exact fun v F' H' gr sub rv => h3 v F' H' ((e1.trans e2).trans gr.fz) rv (st2.grow gr sub)
  | err c d => rw [q] at h3; exact h3
  | bad => rw [q] at h3; exact h3
/-- a comparison as a value -/
theorem je_cmp {a b : Expr} {pos : Pos} {op : CmpOp} {g : D → D → R D} {ma mb : τ → R (D × τ)} (ho : OpD C (compareOp op) g) (ha : JE C φ a ma) (hb : JE C φ b mb) (hm : behindInMarks op b = false := by first | exact nomark _ | rfl) :
    JE C φ (.Compare a [op] [b] pos) (fun s => (ma s).bind fun p => (mb p.2).bind fun q => (g p.1 q.1).bind fun d => .ok (d, q.2)) := fun gd s σ F H Q st h => by
  obtain ⟨r, hr, hv⟩ := ho gd
  refine ⟨_, pe_cmpR hr pe_wp pe_wp hm, ?_⟩
  refine ha gd s σ F H _ st (h.bind.mono fun dx s1 h1 vx F1 H1 e1 r1 st1 => ?_)
  refine hb gd s1 σ F1 H1 _ st1 (h1.bind.mono fun dy s2 h2 vy F2 H2 e2 r2 st2 => ?_)
  refine hv F2 H2 Q vx vy dx dy st2.sub (r1.mono e2) r2 ?_
  have h3 := h2.bind1
  cases q : g dx dy with
  | ok d => rw [q] at h3; exact fun v F' H' gr sub rv => h3 v F' H' ((e1.trans e2).trans gr.fz) rv (st2.grow gr sub)
  | err c d => rw [q] at h3; exact h3
  | bad => rw [q] at h3; exact h3
def asBool : D → R Bool
  | .bl b => .ok b
  | _ => .bad
/-- a comparison as a test -/
theorem jt_cmp {a b : Expr} {pos : Pos} {op : CmpOp} {g : D → D → R D} {ma mb : τ → R (D × τ)} (ho : OpD C (compareOp op) g) (ha : JE C φ a ma) (hb : JE C φ b mb) (hm : behindInMarks op b = false := by first | exact nomark _ | rfl) :
    JT C φ (.Compare a [op] [b] pos) (fun s => (ma s).bind fun p => (mb p.2).bind fun q => (g p.1 q.1).bind fun d => (asBool d).bind fun c => .ok (c, q.2)) := fun gd s σ F H Q st h => by
  obtain ⟨r, hr, hv⟩ := ho gd
  refine ⟨_, pt_cmpR hr pe_wp pe_wp hm, ?_⟩
  refine ha gd s σ F H _ st (h.bind.mono fun dx s1 h1 vx F1 H1 e1 r1 st1 => ?_)
  refine hb gd s1 σ F1 H1 _ st1 (h1.bind.mono fun dy s2 h2 vy F2 H2 e2 r2 st2 => ?_)
  refine hv F2 H2 _ vx vy dx dy st2.sub (r1.mono e2) r2 ?_
  have h3 := h2.bind1
  cases q : g dx dy with
  | ok d =>
    rw [q] at h3
    intro v F' H' gr sub rv
    have h4 := (show Srv C ((asBool d).bind fun c => .ok (c, s2)) _ from h3).bind1
    cases rv with
    | bl c => exact ⟨c, rfl, h4 F' H' ((e1.trans e2).trans gr.fz) (st2.grow gr sub)⟩
    | _ => exact h4.elim
  | err c d => rw [q] at h3; exact h3
  | bad => rw [q] at h3; exact h3
/-- an expression that gives a bool, as a test -/
theorem jt_val {e : Expr} {m : τ → R (D × τ)} (h : JE C φ e m) (he : ∀ whole, isTrue e C.X.env whole = (do let v ← whole; standAt e.pos; holding [v] (truthy v)) := by intro _; rfl) :
    JT C φ e (fun s => (m s).bind fun p => (asBool p.1).bind fun c => .ok (c, p.2)) := fun gd s σ F H Q st hs => by
  refine ⟨_, pt_val pe_wp he, ?_⟩
  refine h gd s σ F H _ st (hs.bind.mono fun d s1 h1 v F1 H1 e1 r1 st1 => ?_)
  have h4 := h1.bind1
  cases r1 with
  | bl c => exact ⟨c, rfl, h4 F1 H1 e1 st1⟩
  | _ => exact h4.elim
theorem jt_not {e : Expr} {pos : Pos} {m : τ → R (Bool × τ)} (h : JT C φ e m) : JT C φ (.UnaryOp .Not e pos) (fun s => (m s).bind fun p => .ok (!p.1, p.2)) := fun gd s σ F H Q st hs => by
  refine ⟨_, pt_not pt_wp, ?_⟩
  exact h gd s σ F H _ st (hs.bind.mono fun b s1 h1 F1 H1 e1 st1 => h1 F1 H1 e1 st1)
/-- and, or as tests -/
def JW (C : Ctx) {τ : Type} (φ : τ → Slots) (e : Expr) (m : τ → R (Bool × τ)) : Prop := Good C → ∀ (s : τ) (σ : L2.St) (F H : Hp) (Q : Bool → Hp → Prop), St8 C (φ s) σ F H →
  Srv C (m s) (fun b s' => ∀ F' H', Same F F' → St8 C (φ s') σ F' H' → Q b H') → ∃ t, PW C.X e t ∧ t σ H Q
def wpW (X : Cx) (e : Expr) : TT := fun σ H Q => ∃ t, PW X e t ∧ t σ H Q
theorem pw_self {X : Cx} {e : Expr} : PW X e (wpW X e) := ⟨fun wh pins s σ H Q I ⟨t, h, q⟩ => h.run wh pins s σ H Q I q⟩
theorem jt_w {e : Expr} {m : τ → R (Bool × τ)} (h : JW C φ e m) : JT C φ e m := fun gd s σ F H Q st hs => by
  obtain ⟨t, h1, h2⟩ := h gd s σ F H Q st hs
  exact ⟨t, h1.pt, h2⟩
theorem jw_and1 {e : Expr} {pos : Pos} {m : τ → R (Bool × τ)} (h : JT C φ e m) : JW C φ (.BoolOp .And [e] pos) m := fun gd s σ F H Q st hs => ⟨_, pw_and1 pt_wp, h gd s σ F H Q st hs⟩
theorem jw_or1 {e : Expr} {pos : Pos} {m : τ → R (Bool × τ)} (h : JT C φ e m) : JW C φ (.BoolOp .Or [e] pos) m := fun gd s σ F H Q st hs => ⟨_, pw_or1 pt_wp, h gd s σ F H Q st hs⟩
theorem jw_and {e b : Expr} {rest : List Expr} {pos : Pos} {m n : τ → R (Bool × τ)} (h : JT C φ e m) (k : JW C φ (.BoolOp .And (b :: rest) pos) n) : JW C φ (.BoolOp .And (e :: b :: rest) pos) (fun s => (m s).bind fun p => if p.1 = true then n p.2 else .ok (false, p.2)) := fun gd s σ F H Q st hs => by
  refine ⟨_, pw_and pt_wp pw_self, ?_⟩
  refine h gd s σ F H _ st (hs.bind.mono fun c s1 h1 F1 H1 e1 st1 => ?_)
  cases c with
  | true => exact iteT (k gd s1 σ F1 H1 Q st1 (Srv.mono h1 fun b s2 h2 F2 H2 e2 st2 => h2 F2 H2 (e1.trans e2) st2))
  | false => exact iteF (h1 F1 H1 e1 st1)
theorem jw_or {e b : Expr} {rest : List Expr} {pos : Pos} {m n : τ → R (Bool × τ)} (h : JT C φ e m) (k : JW C φ (.BoolOp .Or (b :: rest) pos) n) : JW C φ (.BoolOp .Or (e :: b :: rest) pos) (fun s => (m s).bind fun p => if p.1 = true then .ok (true, p.2) else n p.2) := fun gd s σ F H Q st hs => by
  refine ⟨_, pw_or pt_wp pw_self, ?_⟩
  refine h gd s σ F H _ st (hs.bind.mono fun c s1 h1 F1 H1 e1 st1 => ?_)
  cases c with
  | true => exact iteT (h1 F1 H1 e1 st1)
  | false => exact iteF (k gd s1 σ F1 H1 Q st1 (Srv.mono h1 fun b s2 h2 F2 H2 e2 st2 => h2 F2 H2 (e1.trans e2) st2))
/-- and, or, not as values: bools -/
theorem je_one {op : BoolOp} {e : Expr} {pos : Pos} {m : τ → R (D × τ)} (h : JE C φ e m) : JE C φ (.BoolOp op [e] pos) m := fun gd s σ F H Q st hs => ⟨_, pe_one pe_wp, h gd s σ F H Q st hs⟩
theorem je_and {e b : Expr} {rest : List Expr} {pos : Pos} {m n : τ → R (D × τ)} (h : JE C φ e m) (k : JE C φ (.BoolOp .And (b :: rest) pos) n) :
    JE C φ (.BoolOp .And (e :: b :: rest) pos) (fun s => (m s).bind fun p => (asBool p.1).bind fun c => if c = true then n p.2 else .ok (.bl false, p.2)) := fun gd s σ F H Q st hs => by
  refine ⟨_, pe_and pe_wp pe_wp, ?_⟩
  refine h gd s σ F H _ st (hs.bind.mono fun d s1 h1 v F1 H1 e1 r1 st1 => ?_)
  have h4 := h1.bind1
  cases r1 with
  | bl c =>
    refine ⟨c, rfl, ?_⟩
    cases c with
    | true => exact iteT (k gd s1 σ F1 H1 Q st1 (Srv.mono h4 fun b s2 h2 v2 F2 H2 e2 r2 st2 => h2 v2 F2 H2 (e1.trans e2) r2 st2))
    | false => exact iteF (h4 _ F1 H1 e1 (.bl false) st1)
  | _ => exact h4.elim
theorem je_or {e b : Expr} {rest : List Expr} {pos : Pos} {m n : τ → R (D × τ)} (h : JE C φ e m) (k : JE C φ (.BoolOp .Or (b :: rest) pos) n) :
    JE C φ (.BoolOp .Or (e :: b :: rest) pos) (fun s => (m s).bind fun p => (asBool p.1).bind fun c => if c = true then .ok (.bl true, p.2) else n p.2) := fun gd s σ F H Q st hs => by
  refine ⟨_, pe_or pe_wp pe_wp, ?_⟩
  refine h gd s σ F H _ st (hs.bind.mono fun d s1 h1 v F1 H1 e1 r1 st1 => ?_)
  have h4 := h1.bind1
  cases r1 with
  | bl c =>
    refine ⟨c, rfl, ?_⟩
    cases c with
    | true => exact iteT (h4 _ F1 H1 e1 (.bl true) st1)
    | false => exact iteF (k gd s1 σ F1 H1 Q st1 (Srv.mono h4 fun b s2 h2 v2 F2 H2 e2 r2 st2 => h2 v2 F2 H2 (e1.trans e2) r2 st2))
  | _ => exact h4.elim
theorem je_not {e : Expr} {pos : Pos} {m : τ → R (D × τ)} (h : JE C φ e m) : JE C φ (.UnaryOp .Not e pos) (fun s => (m s).bind fun p => (asBool p.1).bind fun c => .ok (.bl (!c), p.2)) := fun gd s σ F H Q st hs => by
  refine ⟨_, pe_not pe_wp, ?_⟩
  refine h gd s σ F H _ st (hs.bind.mono fun d s1 h1 v F1 H1 e1 r1 st1 => ?_)
  have h4 := h1.bind1
  cases r1 with
  | bl c => exact ⟨c, rfl, h4 _ F1 H1 e1 (.bl _) st1⟩
  | _ => exact h4.elim
theorem je_if {c a b : Expr} {pos : Pos} {mc : τ → R (Bool × τ)} {ma mb : τ → R (D × τ)} (hc : JT C φ c mc) (ha : JE C φ a ma) (hb : JE C φ b mb) : JE C φ (.IfExp c a b pos) (fun s => (mc s).bind fun p => if p.1 = true then ma p.2 else mb p.2) := fun gd s σ F H Q st hs => by
  refine ⟨_, pe_ifExp pt_wp pe_wp pe_wp, ?_⟩
  refine hc gd s σ F H _ st (hs.bind.mono fun c s1 h1 F1 H1 e1 st1 => ?_)
  cases c with
  | true => exact iteT (ha gd s1 σ F1 H1 Q st1 (Srv.mono h1 fun b s2 h2 v2 F2 H2 e2 r2 st2 => h2 v2 F2 H2 (e1.trans e2) r2 st2))
  | false => exact iteF (hb gd s1 σ F1 H1 Q st1 (Srv.mono h1 fun b s2 h2 v2 F2 H2 e2 r2 st2 => h2 v2 F2 H2 (e1.trans e2) r2 st2))

/-! ### argument lists, displays -/
theorem ja_nil : JA C φ [] (fun s => .ok ([], s)) := fun gd s σ F H Q st hs => ⟨_, pa_nil, hs [] F H (Same.refl F) .nil st⟩
theorem ja_cons {e : Expr} {es : List Expr} {m : τ → R (D × τ)} {n : τ → R (List D × τ)} (h : JE C φ e m) (k : JA C φ es n) (hst : starEach (e :: es) C.X.env = (false, eval e C.X.env) :: starEach es C.X.env := by rfl) :
    JA C φ (e :: es) (fun s => (m s).bind fun p => (n p.2).bind fun q => .ok (p.1 :: q.1, q.2)) := fun gd s σ F H Q st hs => by
  refine ⟨_, pa_cons pe_wp pa_wp hst, ?_⟩
  refine h gd s σ F H _ st (hs.bind.mono fun d s1 h1 v F1 H1 e1 r1 st1 => ?_)
  exact k gd s1 σ F1 H1 _ st1 (h1.bind.mono fun ds s2 h2 vs F2 H2 e2 r2 st2 => h2 (v :: vs) F2 H2 (e1.trans e2) (.cons (r1.mono e2) r2) st2)
theorem sz_small {n : Nat} (h : n ≤ 1000000) : n ≤ sizeLine := Nat.le_trans h (by decide)
theorem je_tup {es : List Expr} {x1 : Nat} {pos : Pos} {n : τ → R (List D × τ)} (h : JA C φ es n) : JE C φ (.Tuple es x1 pos) (fun s => (n s).bind fun p => if p.1.length ≤ 1000000 then .ok (.tup p.1, p.2) else .bad) := fun gd s σ F H Q st hs => by
  refine ⟨_, pe_tup pa_wp, ?_⟩
  refine h gd s σ F H _ st (hs.bind.mono fun ds s1 h1 vs F1 H1 e1 r1 st1 => ?_)
  by_cases c : ds.length ≤ 1000000
  · have h2 : ∀ v F' H', Same F F' → Rp C.T F' v (.tup ds) → St8 C (φ s1) σ F' H' → Q v H' := by
      have z := h1
      simp only [c, if_true] at z
      exact z
    refine ⟨sz_small (by rw [r1.length]; exact c), fun p hp => ?_⟩
    have st2 := st1.new (o := .tup vs) hp
    exact h2 (.ref p) _ _ (e1.trans (grow_new st1.sub hp).fz) (.tup upd_same (r1.mono (grow_new st1.sub hp).fz)) st2
  · have z := h1
    simp only [c, if_false] at z
    exact z.elim
theorem je_lst {es : List Expr} {pos : Pos} {n : τ → R (List D × τ)} (h : JA C φ es n) : JE C φ (.List es pos) (fun s => (n s).bind fun p => if p.1.length ≤ 1000000 then .ok (.lst p.1, p.2) else .bad) := fun gd s σ F H Q st hs => by
  refine ⟨_, pe_lst pa_wp, ?_⟩
  refine h gd s σ F H _ st (hs.bind.mono fun ds s1 h1 vs F1 H1 e1 r1 st1 => ?_)
  by_cases c : ds.length ≤ 1000000
  · have h2 : ∀ v F' H', Same F F' → Rp C.T F' v (.lst ds) → St8 C (φ s1) σ F' H' → Q v H' := by
      have z := h1
      simp only [c, if_true] at z
      exact z
    refine ⟨sz_small (by rw [r1.length]; exact c), fun p hp => ?_⟩
    have st2 := st1.new (o := .lst vs) hp
    exact h2 (.ref p) _ _ (e1.trans (grow_new st1.sub hp).fz) (.lst upd_same (r1.mono (grow_new st1.sub hp).fz)) st2
  · have z := h1
    simp only [c, if_false] at z
    exact z.elim
end
end Pv
set_option Elab.async false
set_option linter.all false
set_option maxRecDepth 100000
/-! Pv2: blocks, loops, defs. -/
namespace Pv
open PySem L2

/-- how a block ends -/
inductive Fl (α β : Type) where
  | nx (a : α) | rt (d : D) | bk (b : β)
def FlPost (C : Ctx) {τ α β : Type} (F : Hp) (ψ : α → τ → Slots) (χ : β → τ → Slots) (ρ : τ → Slots) (Dn : Ends) : Fl α β → τ → Prop
  | .nx a, s => ∀ σ F' H', Same (C.Fx F) F' → St8 C (ψ a s) σ F' H' → Dn.nx σ H'
  | .bk b, s => ∀ σ F' H', Same (C.Fx F) F' → St8 C (χ b s) σ F' H' → Dn.bk σ H'
  | .rt d, s => ∀ v σ F' H', Same (C.Fx F) F' → RtV C.T C.H0 F' H' v d → St8 C (ρ s) σ F' H' → Dn.rt v H'
theorem FlPost.mono {C : Ctx} {τ α β : Type} {F F1 : Hp} {ψ : α → τ → Slots} {χ : β → τ → Slots} {ρ : τ → Slots} {Dn : Ends} (e : Same F F1) : ∀ {f : Fl α β} {s : τ}, FlPost C F ψ χ ρ Dn f s → FlPost C F1 ψ χ ρ Dn f s
  | .nx a, s, h => fun σ F' H' e' st => h σ F' H' ((C.fx_mono e).trans e') st
  | .bk b, s, h => fun σ F' H' e' st => h σ F' H' ((C.fx_mono e).trans e') st
  | .rt d, s, h => fun v σ F' H' e' r st => h v σ F' H' ((C.fx_mono e).trans e') r st
/-- the same, where what must stay stands in a later one -/
theorem FlPost.move {C : Ctx} {τ α β : Type} {F F1 : Hp} {ψ : α → τ → Slots} {χ : β → τ → Slots} {ρ : τ → Slots} {Dn : Ends} {sl : Slots} {σ1 : L2.St} {H1 : Hp} (e : Same (C.Fx F) F1) (st : St8 C sl σ1 F1 H1) {f : Fl α β} {s : τ} (h : FlPost C F ψ χ ρ Dn f s) : FlPost C F1 ψ χ ρ Dn f s := by
  have k : ∀ {F'}, Same (C.Fx F1) F' → Same (C.Fx F) F' := fun {F'} z => by
    unfold Ctx.Fx at e z ⊢
    split
    · rename_i hl
      rw [if_pos hl] at z
      exact z
    · rename_i hl
      rw [if_neg hl] at z e
      exact e.trans z
  cases f with
  | nx a => exact fun σ F' H' e' st => h σ F' H' (k e') st
  | bk b => exact fun σ F' H' e' st => h σ F' H' (k e') st
  | rt d => exact fun v σ F' H' e' r st => h v σ F' H' (k e') r st
def JB (C : Ctx) {τ α β : Type} (φ : τ → Slots) (ss : List Stmt) (ψ : α → τ → Slots) (χ : β → τ → Slots) (ρ : τ → Slots) (m : τ → R (Fl α β × τ)) : Prop := Good C → ∀ (s : τ) (σ : L2.St) (F H : Hp) (Dn : Ends), St8 C (φ s) σ F H →
  Srv C (m s) (FlPost C F ψ χ ρ Dn) → wpS C.X ss Dn σ H
/-- a block behind a block -/
def flb {α α' β τ : Type} (r : R (Fl α β × τ)) (k : α → τ → R (Fl α' β × τ)) : R (Fl α' β × τ) := r.bind fun p => match p.1 with
  | .nx a => k a p.2
  | .rt d => .ok (.rt d, p.2)
  | .bk b => .ok (.bk b, p.2)
@[simp] theorem flb_nx {α α' β τ : Type} (a : α) (s : τ) (k : α → τ → R (Fl α' β × τ)) : flb (.ok (.nx a, s)) k = k a s := rfl
@[simp] theorem flb_rt {α α' β τ : Type} (d : D) (s : τ) (k : α → τ → R (Fl α' β × τ)) : flb (.ok (.rt d, s)) k = .ok (.rt d, s) := rfl
@[simp] theorem flb_bk {α α' β τ : Type} (b : β) (s : τ) (k : α → τ → R (Fl α' β × τ)) : flb (.ok (.bk b, s)) k = .ok (.bk b, s) := rfl
@[simp] theorem flb_err {α α' β τ : Type} (c : Str) (d : D) (k : α → τ → R (Fl α' β × τ)) : flb (.err c d) k = .err c d := rfl
@[simp] theorem flb_bad {α α' β τ : Type} (k : α → τ → R (Fl α' β × τ)) : flb .bad k = .bad := rfl
def FlK (C : Ctx) {α α' β τ : Type} (k : α → τ → R (Fl α' β × τ)) (K : Fl α' β → τ → Prop) : Fl α β → τ → Prop
  | .nx a, s => Srv C (k a s) K
  | .rt d, s => K (.rt d) s
  | .bk b, s => K (.bk b) s
theorem Srv.flb {C : Ctx} {α α' β τ : Type} {r : R (Fl α β × τ)} {k : α → τ → R (Fl α' β × τ)} {K : Fl α' β → τ → Prop} (h : Srv C (Pv.flb r k) K) :
    Srv C r (FlK C k K) := by
  cases r with
  | ok p =>
    obtain ⟨f, s⟩ := p
    cases f with
    | nx a => exact h
    | rt d => exact h
    | bk b => exact h
  | err c d => exact h
  | bad => exact h

section
variable {C : Ctx} {τ α β α' : Type} {φ : τ → Slots} {ψ : α → τ → Slots} {χ : β → τ → Slots} {ρ : τ → Slots} {rest : List Stmt} {pos : Pos}
theorem jb_nil (a : τ → α) (h : ∀ s, SlotsLe (ψ (a s) s) (φ s)) (hl : ∀ s, (ψ (a s) s).length ≤ (φ s).length) : JB C φ [] ψ χ ρ (fun s => .ok (.nx (a s), s)) := fun g s σ F H Dn st h' =>
  ⟨_, pss_nil, h' σ F H st.fx (st.le (h s) (hl s))⟩
theorem St8.setVal {env : Slots} {σ : L2.St} {F H : Hp} {i : Nat} {v : V} {d : D} (st : St8 C env σ F H) (r : Rp C.T F v d) : St8 C (env.set i (some (.val d))) (σ.set i (some v)) F H :=
  ⟨st.step, st.sub, st.env.setVal r st.len, by rw [List.length_set, List.length_set]; exact st.len⟩
/-- x = e -/
theorem jb_set (i : Nat) {x : Str} {e : Expr} {pos' : Pos} {me : τ → R (D × τ)} {k : D → τ → R (Fl α β × τ)} (he : JE C φ e me) (hk : ∀ d, JB C (fun s => (φ s).set i (some (.val d))) rest ψ χ ρ (k d))
    (hi : C.X.N[i]? = some x := by rfl) (hx : Loc C.X.env.scope x := by first | exact Or.inl rfl | exact Or.inr rfl) (hs : swapsWith e (some (.Name x pos')) pos.line C.X.env = pure false := by rfl)
    (hf : C.X.fn x = true ∨ C.X.env.scope.names.lookup x = some .local := by first | exact .inl rfl | exact .inr rfl) :
    JB C φ (.Assign [.Name x pos'] e pos :: rest) ψ χ ρ (fun s => (me s).bind fun p => k p.1 p.2) := fun g s σ F H Dn st h => by
  refine ⟨_, pss_cons (ps_set g.nd hi hx pe_wp hs hf) ps_wp, ?_⟩
  refine he g s σ F H _ st (h.bind.mono fun d s1 h1 v F1 H1 e1 r1 st1 => ?_)
  exact hk d g s1 _ F1 H1 Dn (st1.setVal r1) (h1.mono fun f s2 => FlPost.mono e1)
theorem jb_ret {e : Expr} {me : τ → R (D × τ)} (he : JE C φ e me) (h : ∀ s, SlotsLe (ρ s) (φ s)) (hl : ∀ s, (ρ s).length ≤ (φ s).length) :
    JB C φ (.Return (some e) pos :: rest) ψ χ ρ (fun s => (me s).bind fun p => .ok (.rt p.1, p.2)) := fun g s σ F H Dn st hs => by
  refine ⟨_, pss_cons (ps_ret pe_wp) pss_never, ?_⟩
  exact he g s σ F H _ st (hs.bind.mono fun d s1 h1 v F1 H1 e1 r1 st1 => h1 v σ F1 H1 (st.fx.trans e1) (.of r1) (st1.le (h s1) (hl s1)))
theorem jb_drop {e : Expr} {me : τ → R (D × τ)} {k : τ → R (Fl α β × τ)} (he : JE C φ e me) (hk : JB C φ rest ψ χ ρ k) (hs : swapsWith e none pos.line C.X.env = pure false := by rfl) :
    JB C φ (.Expr e pos :: rest) ψ χ ρ (fun s => (me s).bind fun p => k p.2) := fun g s σ F H Dn st h => by
  refine ⟨_, pss_cons (ps_expr pe_wp hs) ps_wp, ?_⟩
  exact he g s σ F H _ st (h.bind.mono fun d s1 h1 v F1 H1 e1 r1 st1 => hk g s1 σ F1 H1 Dn st1 (h1.mono fun f s2 => FlPost.mono e1))
theorem jb_pass {k : τ → R (Fl α β × τ)} (hk : JB C φ rest ψ χ ρ k) : JB C φ (.Pass pos :: rest) ψ χ ρ k := fun g s σ F H Dn st h => ⟨_, pss_cons ps_pass ps_wp, hk g s σ F H Dn st h⟩
theorem jb_break (b : τ → β) (h : ∀ s, SlotsLe (χ (b s) s) (φ s)) (hl : ∀ s, (χ (b s) s).length ≤ (φ s).length) : JB C φ (.Break pos :: rest) ψ χ ρ (fun s => .ok (.bk (b s), s)) := fun g s σ F H Dn st h' =>
  ⟨_, pss_cons ps_break pss_never, h' σ F H st.fx (st.le (h s) (hl s))⟩
/-- if .. else .., then the rest -/
theorem jb_if {c : Expr} {A B : List Stmt} {mc : τ → R (Bool × τ)} (ψ1 : α' → τ → Slots) {mA mB : τ → R (Fl α' β × τ)} {k : α' → τ → R (Fl α β × τ)} (hc : JT C φ c mc) (hA : JB C φ A ψ1 χ ρ mA) (hB : JB C φ B ψ1 χ ρ mB) (hk : ∀ a, JB C (ψ1 a) rest ψ χ ρ (k a)) :
    JB C φ (.If c A B pos :: rest) ψ χ ρ (fun s => (mc s).bind fun p => flb (if p.1 = true then mA p.2 else mB p.2) k) := fun g s σ F H Dn st h => by
  refine ⟨_, pss_cons (ps_if pt_wp ps_wp ps_wp) ps_wp, ?_⟩
  refine hc g s σ F H _ st (h.bind.mono fun c s1 h1 F1 H1 e1 st1 => ?_)
  have go : ∀ {S : List Stmt} {n : τ → R (Fl α' β × τ)}, JB C φ S ψ1 χ ρ n → Srv C (flb (n s1) k) (FlPost C F ψ χ ρ Dn) → wpS C.X S { Dn with nx := wpS C.X rest Dn } σ H1 := fun {S n} hS hn => by
    refine hS g s1 σ F1 H1 _ st1 (hn.flb.mono fun f s2 h2 => ?_)
    cases f with
    | nx a => exact fun σ' F' H' e' st' => hk a g s2 σ' F' H' Dn st' (Srv.mono h2 fun f s3 h3 => FlPost.move ((C.fx_mono e1).trans e') st' h3)
    | rt d => exact fun v σ' F' H' e' r st' => h2 v σ' F' H' ((C.fx_mono e1).trans e') r st'
    | bk b => exact fun σ' F' H' e' st' => h2 σ' F' H' ((C.fx_mono e1).trans e') st'
  cases c with
  | true => exact iteT (go hA (by simpa using h1))
  | false => exact iteF (go hB (by simpa using h1))
/-- what is known may be forgotten -/
theorem jb_weak (φ' : τ → Slots) {k : τ → R (Fl α β × τ)} (h : ∀ s, SlotsLe (φ' s) (φ s)) (hl : ∀ s, (φ' s).length ≤ (φ s).length) (hk : JB C φ' rest ψ χ ρ k) : JB C φ rest ψ χ ρ k := fun g s σ F H Dn st hs => hk g s σ F H Dn (st.le (h s) (hl s)) hs

/-! ### what is walked -/
def wpI (X : Cx) (tg e : Expr) : TI := fun σ H R => ∃ w, PI X tg e w ∧ w σ H R
theorem pi_wp {X : Cx} {tg e : Expr} : PI X tg e (wpI X tg e) := ⟨fun pins s σ H R I ⟨t, h, q⟩ => h.run pins s σ H R I q⟩
/-- what an iterator gives: the data ds, one after another -/
def Gives (T : Txt) (F1 : Hp) (ds : List D) (J : It) : Prop := ∃ (G : Hp → Prop) (Y : Nat → Hp → V → Hp → Prop), Walk J ds.length G Y ∧ (∀ H, Same F1 H → G H) ∧
  ∀ i F H x H', i < ds.length → Same F1 F → Same F H → Y i H x H' → ∃ F' d, Grow F H F' H' ∧ Same F' H' ∧ ds[i]? = some d ∧ Rp T F' x d
def JI (C : Ctx) {τ : Type} (φ : τ → Slots) (tg e : Expr) (m : τ → R (List D × τ)) : Prop := Good C → ∀ (s : τ) (σ : L2.St) (F H : Hp) (Q : It → Hp → Prop), St8 C (φ s) σ F H →
  Srv C (m s) (fun ds s' => ∀ J F' H', Same F F' → St8 C (φ s') σ F' H' → Gives C.T F' ds J → Q J H') → wpI C.X tg e σ H Q
def asItems : D → R (List D)
  | .lst ds => .ok ds
  | .scr ns => .ok (ns.map .int)
  | .etp => .ok []
  | .tup ds => .ok ds
  | .tpN ds => .ok ds
  | _ => .bad
theorem pi_or {X : Cx} {tg e : Expr} {w w' : TI} (h : PI X tg e w) (h' : PI X tg e w') : PI X tg e (fun σ H R => w σ H R ∨ w' σ H R) := ⟨fun pins s σ H R I q => by
  rcases q with q | q
  · exact h.run pins s σ H R I q
  · exact h'.run pins s σ H R I q⟩
theorem Rps.ints {T : Txt} {F : Hp} : ∀ ns : List Int, Rps T F (ns.map V.int) (ns.map D.int)
  | [] => .nil
  | n :: ns => .cons (.int n) (Rps.ints ns)
theorem Gives.list {T : Txt} {F1 : Hp} {a : Addr} {xs : List V} {ds : List D} (h : SqL T.K F1 a xs) (r : Rps T F1 xs ds) : Gives T F1 ds (Itl T.K a) := by
  refine ⟨_, _, by rw [← r.length]; exact walk_list (xs := xs), fun H e => sql_same e h, fun i F H x H' _ e1 e2 y => ?_⟩
  obtain ⟨rfl, hx⟩ := y
  obtain ⟨d, hd, rd⟩ := r.get' hx
  exact ⟨F, d, Step.refl _ _ _, e2, hd, rd.mono e1⟩
theorem Gives.tuple {T : Txt} {F1 : Hp} {a : Addr} {xs : List V} {ds : List D} (h : SqT T.K F1 a xs) (r : Rps T F1 xs ds) : Gives T F1 ds (Itt T.K a) := by
  refine ⟨_, _, by rw [← r.length]; exact walk_tup (xs := xs), fun H e => sqt_same e h, fun i F H x H' _ e1 e2 y => ?_⟩
  obtain ⟨rfl, hx⟩ := y
  obtain ⟨d, hd, rd⟩ := r.get' hx
  exact ⟨F, d, Step.refl _ _ _, e2, hd, rd.mono e1⟩
/-- a list or a tuple, walked -/
theorem ji_seq {tg e : Expr} {m : τ → R (D × τ)} (h : JE C φ e m) : JI C φ tg e (fun s => (m s).bind fun p => (asItems p.1).bind fun ds => .ok (ds, p.2)) := fun g s σ F H Q st hs => by
  refine ⟨fun σ H R => wpE C.X e σ H fun x H1 => (∃ a, x = .ref a ∧ (∃ xs, SqL C.X.K H1 a xs) ∧ R (Itl C.X.K a) H1) ∨ (∃ a, x = .ref a ∧ (∃ xs, SqT C.X.K H1 a xs) ∧ R (Itt C.X.K a) H1), ⟨fun pins s σ H R I q => ?_⟩, ?_⟩
  · refine thn (pe_wp.run pins s σ H _ I q) fun v s1 ⟨x, H1, I1, r1, q1⟩ => ?_
    have one : PE C.X e (fun _ _ Q => Q x H1) → True := fun _ => trivial
    rcases q1 with ⟨a, ex, ⟨xs, hq⟩, q⟩ | ⟨a, ex, ⟨xs, hq⟩, q⟩
    · subst ex
      cases r1
      obtain ⟨its, rv, p, hz⟩ := I1.list hq
      refine wpAny_pyIter_list p.isList ?_
      refine ⟨s1.heap.objs.size, [s1.heap.objs.size], _, _, H1, rfl, I1.kept (t' := s1.toks) fun b o e => Heap.get?_push_of_some _ e, turn_list a _, ⟨_, Heap.get?_push_size _ rfl, rfl, rfl⟩, fun b hb => ?_, q⟩
      obtain rfl : b = s1.heap.objs.size := by simpa using hb
      exact I1.fpOk (Nat.le_refl _) (I1.hok.fresh (Nat.le_refl _))
    · subst ex
      cases r1
      obtain ⟨its, rv, p, hz⟩ := I1.tuple hq
      refine wpAny_pyIter_tuple (show s1.heap.IsTuple a its.toArray from p) ?_
      refine ⟨s1.heap.objs.size, [s1.heap.objs.size], _, _, H1, rfl, I1.kept (t' := s1.toks) fun b o e => Heap.get?_push_of_some _ e, turn_tuple a _, ⟨_, Heap.get?_push_size _ rfl, rfl, rfl⟩, fun b hb => ?_, q⟩
      obtain rfl : b = s1.heap.objs.size := by simpa using hb
      exact I1.fpOk (Nat.le_refl _) (I1.hok.fresh (Nat.le_refl _))
  · refine h g s σ F H _ st (hs.bind.mono fun d s1 h1 v F1 H1 e1 r1 st1 => ?_)
    have h2 := h1.bind1
    rw [g.K]
    cases r1 with
    | lst hq rr => exact .inl ⟨_, rfl, ⟨_, .inl (.inl (st1.sub _ _ hq))⟩, h2 _ F1 H1 e1 st1 (.list (.inl (.inl hq)) rr)⟩
    | scr hq => exact .inl ⟨_, rfl, ⟨_, sql_same st1.sub hq.sql⟩, h2 _ F1 H1 e1 st1 (.list hq.sql (Rps.ints _))⟩
    | etp hq => exact .inr ⟨_, rfl, ⟨_, hq.sqt⟩, h2 _ F1 H1 e1 st1 (.tuple hq.sqt .nil)⟩
    | tup hq rr => exact .inr ⟨_, rfl, ⟨_, .inl (.inl (st1.sub _ _ hq))⟩, h2 _ F1 H1 e1 st1 (.tuple (.inl (.inl hq)) rr)⟩
    | tpN hq _ _ rr => exact .inr ⟨_, rfl, ⟨_, .inl (.inr ⟨_, st1.sub _ _ hq⟩)⟩, h2 _ F1 H1 e1 st1 (.tuple (.inl (.inr ⟨_, hq⟩)) rr)⟩
    | _ => exact h2.elim

/-! ### for -/
def forL {γ : Type} (f : D → α → τ → R (Fl α α × τ)) : List D → α → τ → R (Fl α γ × τ)
  | [], a, s => .ok (.nx a, s)
  | d :: ds, a, s => (f d a s).bind fun p => match p.1 with
    | .nx a' => forL f ds a' p.2
    | .bk a' => .ok (.nx a', p.2)
    | .rt r => .ok (.rt r, p.2)
/-- a target takes a datum: the places and the parts that they take -/
def setMany (env : Slots) : List Nat → List D → Slots
  | i :: is, d :: ds => setMany (env.set i (some (.val d))) is ds
  | _, _ => env
/-- only these slots were stored -/
def SB (is : List Nat) (σ σ' : L2.St) : Prop := σ'.length = σ.length ∧ ∀ j, j ∉ is → σ'[j]? = σ[j]?
theorem SB.refl (is : List Nat) (σ : L2.St) : SB is σ σ := ⟨rfl, fun _ _ => rfl⟩
theorem SB.set (i : Nat) (is : List Nat) (σ : L2.St) (v : Option V) : SB (i :: is) σ (σ.set i v) := ⟨List.length_set, fun j hj => List.getElem?_set_ne fun e => hj (by rw [e]; exact List.Mem.head _)⟩
theorem SB.cons {i : Nat} {is : List Nat} {σ σ' : L2.St} {v : Option V} (h : SB is (σ.set i v) σ') : SB (i :: is) σ σ' := ⟨by rw [h.1, List.length_set], fun j hj => by
  rw [h.2 j fun e => hj (List.Mem.tail _ e)]
  exact List.getElem?_set_ne fun e => hj (by rw [e]; exact List.Mem.head _)⟩
def JG (C : Ctx) (tg : Expr) (is : List Nat) (parts : D → Option (List D)) : Prop := Good C → ∀ (env : Slots) (σ : L2.St) (F H : Hp) (v : V) (d : D) (ds : List D) (Q : L2.St → Hp → Prop), St8 C env σ F H → Rp C.T F v d →
  parts d = some ds → (∀ σ', SB is σ σ' → St8 C (setMany env is ds) σ' F H → Q σ' H) → ∃ g, PG C.X tg g ∧ g v σ H Q
def wpG (X : Cx) (tg : Expr) : TG := fun v σ H Q => ∃ g, PG X tg g ∧ g v σ H Q
theorem pg_wp {X : Cx} {tg : Expr} : PG X tg (wpG X tg) := ⟨fun pins s σ H v u Q I r ⟨g, h, q⟩ => h.run pins s σ H v u Q I r q⟩
abbrev partName : D → Option (List D) := fun d => some [d]
theorem jg_name (i : Nat) {x : Str} {p : Pos} (hi : C.X.N[i]? = some x := by rfl) (hx : Loc C.X.env.scope x := by first | exact Or.inl rfl | exact Or.inr rfl) (hf : C.X.fn x = true ∨ C.X.env.scope.names.lookup x = some .local := by first | exact .inl rfl | exact .inr rfl) :
    JG C (.Name x p) [i] partName := fun g env σ F H v d ds Q st r e h => by
  cases e
  exact ⟨_, pg_name g.nd hi hx hf, h _ (SB.set i [] σ _) (st.setVal r)⟩
/-- names, one after another -/
def JGs (C : Ctx) (tgs : List Expr) (is : List Nat) : Prop := Good C → ∀ (env : Slots) (σ : L2.St) (F H : Hp) (vs : List V) (ds : List D) (Q : L2.St → Hp → Prop), St8 C env σ F H → Rps C.T F vs ds →
  ds.length = is.length → (∀ σ', SB is σ σ' → St8 C (setMany env is ds) σ' F H → Q σ' H) → ∃ g, PGs C.X tgs g ∧ g vs σ H Q
def wpGs (X : Cx) (tgs : List Expr) : TGs := fun vs σ H Q => ∃ g, PGs X tgs g ∧ g vs σ H Q
theorem pgs_wp {X : Cx} {tgs : List Expr} : PGs X tgs (wpGs X tgs) := ⟨fun pins s σ H vs us Q I r ⟨g, h, q⟩ => h.run pins s σ H vs us Q I r q⟩
theorem jgs_nil : JGs C [] [] := fun g env σ F H vs ds Q st r e h => by
  cases r with
  | nil => exact ⟨_, pgs_nil, rfl, h σ (SB.refl _ _) st⟩
  | cons _ _ => simp at e
theorem jgs_cons (i : Nat) {x : Str} {p : Pos} {es : List Expr} {is : List Nat} (h2 : JGs C es is) (hi : C.X.N[i]? = some x := by rfl) (hx : Loc C.X.env.scope x := by first | exact Or.inl rfl | exact Or.inr rfl)
    (hf : C.X.fn x = true ∨ C.X.env.scope.names.lookup x = some .local := by first | exact .inl rfl | exact .inr rfl) (hs : (assignEach (.Name x p :: es) C.X.env).map (·.2) = assign (.Name x p) C.X.env :: (assignEach es C.X.env).map (·.2) := by rfl) :
    JGs C (.Name x p :: es) (i :: is) := fun g env σ F H vs ds Q st r e h => by
  cases r with
  | nil => simp at e
  | @cons v vs d ds rv rr => exact ⟨_, pgs_cons (pg_name g.nd hi hx hf) pgs_wp hs, v, vs, rfl, h2 g _ _ F H vs ds Q (st.setVal rv) rr (by simpa using e) fun σ' sb => h σ' sb.cons⟩
def partTup (n : Nat) : D → Option (List D)
  | .tup ds => if ds.length = n then some ds else none
  | _ => none
theorem jg_tup {es : List Expr} {k : Nat} {p : Pos} {is : List Nat} (h : JGs C es is) (hn : (assignEach es C.X.env).length = is.length := by rfl) (hst : (assignEach es C.X.env).findIdx? (·.1) = none := by rfl) (hc : C.hot = false := by rfl) :
    JG C (.Tuple es k p) is (partTup is.length) := fun g env σ F H v d ds Q st r e hs => by
  cases r with
  | @tup a xs ds' hq rr =>
    have e : (if ds'.length = is.length then some ds' else none) = some ds := e
    by_cases c : ds'.length = is.length
    · rw [if_pos c] at e
      cases e
      exact ⟨_, pg_tup (g.calm hc) pgs_wp hn hst, a, xs, rfl, by rw [g.K]; exact .inl (.inl (st.sub _ _ hq)), by rw [rr.length]; exact c, h g env σ F H xs _ Q st rr c hs⟩
    · rw [if_neg c] at e
      cases e
  | _ => cases e

/-- for target in iter: body. γ: what a turn hands on; φL: the slots ahead of a turn -/
theorem jb_forG {tg it : Expr} {body : List Stmt} {γ : Type} {mi : τ → R (List D × τ)} (φL : γ → τ → Slots) (a0 : τ → γ) {is : List Nat} {parts : D → Option (List D)} {f : D → γ → τ → R (Fl γ γ × τ)} {k : γ → τ → R (Fl α β × τ)}
    (hi : JI C φ tg it mi) (hg : JG C tg is parts) (h0 : ∀ s, SlotsLe (φL (a0 s) s) (φ s)) (hl0 : ∀ s, (φL (a0 s) s).length ≤ (φ s).length)
    (hb : ∀ d ds, parts d = some ds → ∀ a, JB C.tight (fun s => setMany (φL a s) is ds) body φL φL ρ (f d a)) (hbad : ∀ d, parts d = none → ∀ a s, f d a s = .bad)
    (hk : ∀ a, JB C (φL a) rest ψ χ ρ (k a)) (hfs : ∀ x, foldedSetIterable it C.X.env x = pure x := by intro _; rfl) (hc : C.hot = false := by rfl) :
    JB C φ (.For tg it body [] pos :: rest) ψ χ ρ (fun s => (mi s).bind fun p => flb (forL f p.1 (a0 p.2) p.2) k) := fun g s σ F H Dn st h => by
  refine ⟨_, pss_cons (ps_for g.own (g.calm hc) pi_wp pg_wp ps_wp hfs) ps_wp, ?_⟩
  refine hi g s σ F H _ st (h.bind.mono fun ds s1 h1 J F1 H1 e1 st1 gv => ?_)
  obtain ⟨G, Y, w, hG, hY⟩ := gv
  have hK : Srv C (forL f ds (a0 s1) s1) (FlK C k (FlPost C F ψ χ ρ Dn)) := Srv.flb h1
  refine for_it w (D := { Dn with nx := wpS C.X rest Dn }) (fun i σ' H' => ∃ a s2 F2, Same F1 F2 ∧ St8 C (φL a s2) σ' F2 H' ∧ Srv C (forL f (ds.drop i) a s2) (FlK C k (FlPost C F ψ χ ρ Dn))) ?_ ?_ ?_ ?_
  · exact ⟨a0 s1, s1, F1, Same.refl F1, st1.le (h0 s1) (hl0 s1), hK⟩
  · rintro i σ' H' _ ⟨a, s2, F2, e2, st2, _⟩
    exact hG H' (e2.trans st2.sub)
  · rintro i x σ' H' H2 hi' ⟨a, s2, F2, e2, st2, h2⟩ y
    obtain ⟨F3, d, gr, sub, hd, rd⟩ := hY i F2 H' x H2 hi' e2 st2.sub y
    have st3 := st2.grow gr sub
    have ed : ds.drop i = d :: ds.drop (i + 1) := by
      obtain ⟨hlt, hv⟩ := List.getElem?_eq_some_iff.mp hd
      rw [List.drop_eq_getElem_cons hlt, hv]
    rw [ed] at h2
    have h3 := (show Srv C (forL f (d :: ds.drop (i + 1)) a s2) (FlK C k (FlPost C F ψ χ ρ Dn)) from h2).bind
    cases q : parts d with
    | none =>
      rw [hbad d q] at h3
      exact h3.elim
    | some ps =>
      refine hg g (φL a s2) σ' F3 H2 x d ps _ st3 rd q fun σ3 _ st4 => hb d ps q a g.tight s2 σ3 F3 H2 _ st4.to_tight (Srv.to_tight h3 |>.mono fun fl s3 h4 => ?_)
      cases fl with
      | nx a' => exact fun σ4 F4 H4 e4 st5 => ⟨a', s3, F4, (e2.trans gr.fz).trans (show Same F3 F4 from e4), st5.of_tight, h4⟩
      | bk a' => exact fun σ4 F4 H4 e4 st5 => hk a' g s3 σ4 F4 H4 Dn st5.of_tight (Srv.mono (show Srv C (k a' s3) (FlPost C F ψ χ ρ Dn) from h4) fun _ _ z => FlPost.mono (((e1.trans e2).trans gr.fz).trans (show Same F3 F4 from e4)) z)
      | rt r => exact fun v σ4 F4 H4 e4 rv st5 => (show FlPost C F ψ χ ρ Dn (.rt r) s3 from h4) v σ4 F4 H4 (st.fx.trans (((e1.trans e2).trans gr.fz).trans (show Same F3 F4 from e4))) rv st5.of_tight
  · rintro σ' H' ⟨a, s2, F2, e2, st2, h2⟩
    rw [List.drop_length] at h2
    exact hk a g s2 σ' F2 H' Dn st2 (Srv.mono (show Srv C (k a s2) (FlPost C F ψ χ ρ Dn) from h2) fun _ _ z => FlPost.mono (e1.trans e2) z)
/-- for x in iter -/
theorem jb_for (i : Nat) {x : Str} {p : Pos} {it : Expr} {body : List Stmt} {γ : Type} {mi : τ → R (List D × τ)} (φL : γ → τ → Slots) (a0 : τ → γ) {f : D → γ → τ → R (Fl γ γ × τ)} {k : γ → τ → R (Fl α β × τ)}
    (hi : JI C φ (.Name x p) it mi) (h0 : ∀ s, SlotsLe (φL (a0 s) s) (φ s)) (hl0 : ∀ s, (φL (a0 s) s).length ≤ (φ s).length)
    (hb : ∀ d a, JB C.tight (fun s => (φL a s).set i (some (.val d))) body φL φL ρ (f d a)) (hk : ∀ a, JB C (φL a) rest ψ χ ρ (k a))
    (hin : C.X.N[i]? = some x := by rfl) (hx : Loc C.X.env.scope x := by first | exact Or.inl rfl | exact Or.inr rfl) (hf : C.X.fn x = true ∨ C.X.env.scope.names.lookup x = some .local := by first | exact .inl rfl | exact .inr rfl)
    (hfs : ∀ x, foldedSetIterable it C.X.env x = pure x := by intro _; rfl) (hc : C.hot = false := by rfl) :
    JB C φ (.For (.Name x p) it body [] pos :: rest) ψ χ ρ (fun s => (mi s).bind fun q => flb (forL f q.1 (a0 q.2) q.2) k) :=
  jb_forG φL a0 hi (jg_name i hin hx hf) h0 hl0 (fun d ds e a => by cases e; exact hb d a) (fun d e => by cases e) hk hfs hc
def pair2 {ω : Type} (f : D → D → ω) (z : ω) : D → ω
  | .tup [a, b] => f a b
  | _ => z
theorem parts2 {d : D} {ds : List D} (e : partTup 2 d = some ds) : ∃ a b, d = .tup [a, b] ∧ ds = [a, b] := by
  cases d with
  | tup xs =>
    have e : (if xs.length = 2 then some xs else none) = some ds := e
    by_cases c : xs.length = 2
    · rw [if_pos c] at e
      cases e
      match ds, c with
      | [a, b], _ => exact ⟨a, b, rfl, rfl⟩
    · rw [if_neg c] at e
      cases e
  | _ => cases e
theorem parts2_none {ω : Type} {d : D} (e : partTup 2 d = none) (f : D → D → ω) (z : ω) : pair2 f z d = z := by
  cases d with
  | tup xs =>
    have e : (if xs.length = 2 then some xs else none) = none := e
    by_cases c : xs.length = 2
    · rw [if_pos c] at e
      cases e
    · match xs, c with
      | [], _ => rfl
      | [a], _ => rfl
      | [a, b], c => exact absurd rfl c
      | a :: b :: c :: r, _ => rfl
  | _ => rfl
/-- for x, y in iter -/
theorem jb_for2 (i j : Nat) {x y : Str} {p p1 p2 : Pos} {kk : Nat} {it : Expr} {body : List Stmt} {γ : Type} {mi : τ → R (List D × τ)} (φL : γ → τ → Slots) (a0 : τ → γ) {f : D → D → γ → τ → R (Fl γ γ × τ)} {k : γ → τ → R (Fl α β × τ)}
    (hi : JI C φ (.Tuple [.Name x p1, .Name y p2] kk p) it mi) (h0 : ∀ s, SlotsLe (φL (a0 s) s) (φ s)) (hl0 : ∀ s, (φL (a0 s) s).length ≤ (φ s).length)
    (hb : ∀ d e a, JB C.tight (fun s => ((φL a s).set i (some (.val d))).set j (some (.val e))) body φL φL ρ (f d e a)) (hk : ∀ a, JB C (φL a) rest ψ χ ρ (k a))
    (hg : JG C (.Tuple [.Name x p1, .Name y p2] kk p) [i, j] (partTup 2) := by exact jg_tup (jgs_cons _ (jgs_cons _ jgs_nil)))
    (hfs : ∀ x, foldedSetIterable it C.X.env x = pure x := by intro _; rfl) (hc : C.hot = false := by rfl) :
    JB C φ (.For (.Tuple [.Name x p1, .Name y p2] kk p) it body [] pos :: rest) ψ χ ρ (fun s => (mi s).bind fun q => flb (forL (fun d a s => pair2 (fun d e => f d e a s) .bad d) q.1 (a0 q.2) q.2) k) :=
  jb_forG φL a0 hi hg h0 hl0 (fun d ds e a => by
    obtain ⟨u, v, rfl, rfl⟩ := parts2 e
    exact hb u v a) (fun d e a s => parts2_none e _ _) hk hfs hc

/-! ### while -/
def whileL {γ δ : Type} (t : γ → τ → R (Bool × τ)) (f : γ → τ → R (Fl γ γ × τ)) : Nat → γ → τ → R (Fl γ δ × τ)
  | 0, _, _ => .bad
  | n + 1, a, s => (t a s).bind fun p => if p.1 = true then (f a p.2).bind fun q => match q.1 with
      | .nx a' => whileL t f n a' q.2
      | .bk a' => .ok (.nx a', q.2)
      | .rt r => .ok (.rt r, q.2)
    else .ok (.nx a, p.2)
theorem jb_while (n : Nat) {c : Expr} {body : List Stmt} {γ : Type} (φL : γ → τ → Slots) (a0 : τ → γ) {mt : γ → τ → R (Bool × τ)} {f : γ → τ → R (Fl γ γ × τ)} {k : γ → τ → R (Fl α β × τ)}
    (h0 : ∀ s, SlotsLe (φL (a0 s) s) (φ s)) (hl0 : ∀ s, (φL (a0 s) s).length ≤ (φ s).length) (ht : ∀ a, JT C (φL a) c (mt a)) (hb : ∀ a, JB C.tight (φL a) body φL φL ρ (f a)) (hk : ∀ a, JB C (φL a) rest ψ χ ρ (k a)) :
    JB C φ (.While c body [] pos :: rest) ψ χ ρ (fun s => flb (whileL mt f n (a0 s) s) k) := fun g s σ F H Dn st h => by
  refine ⟨_, pss_cons (ps_while g.own pt_wp ps_wp) ps_wp, ?_⟩
  have hK : Srv C (whileL mt f n (a0 s) s) (FlK C k (FlPost C F ψ χ ρ Dn)) := Srv.flb h
  refine ⟨fun m σ' H' => ∃ a s2 F2, Same F F2 ∧ St8 C (φL a s2) σ' F2 H' ∧ Srv C (whileL mt f m a s2) (FlK C k (FlPost C F ψ χ ρ Dn)), ⟨n, a0 s, s, F, Same.refl F, st.le (h0 s) (hl0 s), hK⟩, ?_⟩
  rintro m σ' H' ⟨a, s2, F2, e2, st2, h2⟩
  cases m with
  | zero => exact h2.elim
  | succ m =>
    have h3 := (show Srv C ((mt a s2).bind fun p => if p.1 = true then (f a p.2).bind fun q => match q.1 with
      | .nx a' => whileL mt f m a' q.2
      | .bk a' => .ok (.nx a', q.2)
      | .rt r => .ok (.rt r, q.2)
    else .ok (.nx a, p.2)) (FlK C k (FlPost C F ψ χ ρ Dn)) from h2).bind
    refine ht a g s2 σ' F2 H' _ st2 (h3.mono fun b s3 h4 F3 H3 e3 st3 => ?_)
    cases b with
    | true =>
      refine iteT ⟨fun σ' H' => ∃ a s2 F2, Same F F2 ∧ St8 C (φL a s2) σ' F2 H' ∧ Srv C (whileL mt f m a s2) (FlK C k (FlPost C F ψ χ ρ Dn)), fun σ4 H4 z => ⟨m, Nat.lt_succ_self m, z⟩, ?_⟩
      have h5 : Srv C ((f a s3).bind fun q => match q.1 with
        | .nx a' => whileL mt f m a' q.2
        | .bk a' => .ok (.nx a', q.2)
        | .rt r => .ok (.rt r, q.2)) (FlK C k (FlPost C F ψ χ ρ Dn)) := by simpa using h4
      refine hb a g.tight s3 σ' F3 H3 _ st3.to_tight (Srv.to_tight h5.bind |>.mono fun fl s4 h6 => ?_)
      cases fl with
      | nx a' => exact fun σ4 F4 H4 e4 st5 => ⟨a', s4, F4, (e2.trans e3).trans (show Same F3 F4 from e4), st5.of_tight, h6⟩
      | bk a' => exact fun σ4 F4 H4 e4 st5 => hk a' g s4 σ4 F4 H4 Dn st5.of_tight (Srv.mono (show Srv C (k a' s4) (FlPost C F ψ χ ρ Dn) from h6) fun _ _ z => FlPost.mono ((e2.trans e3).trans (show Same F3 F4 from e4)) z)
      | rt r => exact fun v σ4 F4 H4 e4 rv st5 => (show FlPost C F ψ χ ρ Dn (.rt r) s4 from h6) v σ4 F4 H4 (st.fx.trans ((e2.trans e3).trans (show Same F3 F4 from e4))) rv st5.of_tight
    | false =>
      have h5 : Srv C (k a s3) (FlPost C F ψ χ ρ Dn) := by
        have z : Srv C (.ok (.nx a, s3)) (FlK C k (FlPost C F ψ χ ρ Dn)) := by simpa using h4
        exact z
      exact iteF (hk a g s3 σ' F3 H3 Dn st3 (Srv.mono h5 fun _ _ z => FlPost.mono (e2.trans e3) z))
end
end Pv
set_option Elab.async false
set_option linter.all false
set_option maxRecDepth 100000
/-! PvT: try with several clauses, each with a name or without; raise. -/
namespace Pv
open PySem PySem.Spec PyProof.Rows L2
/-- a clause: the class, the slot of its name, its suite's reading -/
structure Cl where
  c : Value
  io : Option Nat
  ts : Addr → Value → Option Addr → TS
def suiteEnds (io : Option Nat) (Dn : Ends) : Ends := match io with
  | none => Dn
  | some i => { nx := fun σ H => Dn.nx (σ.set i none) H, rt := Dn.rt, bk := fun σ H => Dn.bk (σ.set i none) H, ct := fun σ H => Dn.ct (σ.set i none) H }
def suiteSlots (io : Option Nat) (a : Addr) (σ : L2.St) : L2.St := match io with
  | none => σ
  | some i => σ.set i (some (.ref a))
def wCls (K : PySem.W.Frag) (Wo : WX) (Dn : Ends) : List Cl → WX
  | [] => Wo
  | k :: r => fun cls d σ H => ∃ b, PySem.W.exmOne K cls k.c = some b ∧ (b = true → ∀ a, H a = none → k.ts a cls d (suiteEnds k.io Dn) (suiteSlots k.io a σ) H) ∧ (b = false → wCls K Wo Dn r cls d σ H)
inductive ClsOk (X : Cx) : List ExceptHandler → List Cl → Prop
  | nil : ClsOk X [] []
  | bare {x : Str} {c : Value} {ts : Addr → Value → Option Addr → TS} {b : Stmt} {suite : List Stmt} {np p : Pos} {hds : List ExceptHandler} {l : List Cl} (hc : Names X x c)
      (hsu : ∀ (a : Addr) (oe : Obj) (cls : Value) (d : Option Addr) (pn : List (Addr × Obj)), Zc cls d oe → (∃ vs, oe.data = .fields vs) → PSs (X.suite a ((a, oe) :: pn)) (b :: suite) (ts a cls d)) (r : ClsOk X hds l) :
      ClsOk X (.ExceptHandler (some (.Name x np)) none (b :: suite) p :: hds) (⟨c, none, ts⟩ :: l)
  | named {x n : Str} {i : Nat} {c : Value} {ts : Addr → Value → Option Addr → TS} {b : Stmt} {suite : List Stmt} {np p : Pos} {hds : List ExceptHandler} {l : List Cl} (hc : Names X x c) (hi : X.N[i]? = some n) (hln : X.env.kindOf n = some .local)
      (hsu : ∀ (a : Addr) (oe : Obj) (cls : Value) (d : Option Addr) (pn : List (Addr × Obj)), Zc cls d oe → (∃ vs, oe.data = .fields vs) → PSs (X.suite a ((a, oe) :: pn)) (b :: suite) (ts a cls d)) (r : ClsOk X hds l) :
      ClsOk X (.ExceptHandler (some (.Name x np)) (some n) (b :: suite) p :: hds) (⟨c, some i, ts⟩ :: l)
section
variable {X : Cx} {body : List Stmt} {hd0 : ExceptHandler} {hds : List ExceptHandler} {l : List Cl} {pos : Pos} {tb : WX → TS} {Wo : WX}
theorem ps_try (hs : X.stack = X.env :: X.outer) (hf : X.env.frame = some X.env.locals) (hN : X.N.Nodup) (tk : Takes X Wo)
    (hb : ∀ (W : WX) (pn : List (Addr × Obj)) (xe : Value → Shared → Prop), Takes (X.tr pn xe) W → PassesOwn (model X.prog X.w) X.A X.env xe → PSs (X.tr pn xe) body (tb W))
    (hh : ClsOk X (hd0 :: hds) l) : PS X (.Try body (hd0 :: hds) [] [] pos) (fun Dn σ H => tb (wCls X.K Wo Dn l) Dn σ H) := by
  refine ⟨fun pins s σ H Dn I h => ?_⟩
  have ok := I.ok
  have hfr : X.A.frames = some (X.env :: X.outer) := by rw [ok.frames, hs]
  refine wpAny_Try_except ?_
  refine wpAny_mono ((hb (wCls X.K Wo Dn l) (X.pn ++ pins) (fun e s₁ => wpAny (model X.prog X.w) X.A (noteFrame e X.env) (fun _ s₂ => wpAny (model X.prog X.w) X.A (setFlight e none) (fun _ s₃ =>
    wpAny (model X.prog X.w) X.A (handleBy e X.env (hd0 :: hds)) (SP X pins Dn) X.xe s₃) X.xe s₂) X.xe s₁) (fun u s' xx => ?_) PassesOwn.looking).run [] s σ H Dn (I.toTry _) h) (fun f s1 hsp => ?_) (fun e s1 he => he)
  · obtain ⟨a, B, sI, pins', σ', H', cls, d, rfl, J', nb, up, sky, na, os, ag, wsh⟩ := xx
    have J : Inv X pins σ' H' sI := J'.ofTry ok
    have sky' : Sky B (X.env :: X.outer) a (Zc cls d) X.env.locals s'.heap := by rw [← hs]; exact sky
    show wpAny (model X.prog X.w) X.A (noteFrame (.ref a) X.env) _ _ _
    refine Sky.land Zc.steady hfr hf sky' fun h3 fl3 up3 => ?_
    have J3 : Inv X pins σ' H' { s' with heap := h3 } := J.landed nb fl3.1 (up.trans up3) os ag
    obtain ⟨oe3, vs3, he3, hz3, hd3⟩ := fl3.there
    have nfr : a ∉ frs (X.env :: X.outer) := fun hm => by
      obtain ⟨_, o', e', hnf⟩ := fl3.2.2.1.mem hm
      rw [he3] at e'
      cases e'
      exact hnf _ hd3
    have nL : a ≠ X.env.locals := fun z => nfr (List.mem_filterMap.mpr ⟨X.env, List.mem_cons_self, by rw [hf, z]⟩)
    have nF : a ∉ X.fs := fun hm => by
      obtain ⟨e, he, q⟩ := List.mem_filterMap.mp hm
      exact nfr (List.mem_filterMap.mpr ⟨e, List.mem_cons_of_mem _ he, q⟩)
    have S3 := J3.suite he3 hd3 na nL nF
    have LT : PySem.W.Looks (model X.prog X.w) h3 (typeOf (.ref a)) cls := fun A Q E s k q => wpAny_typeOf_ref (k _ _ he3) (by rw [hz3.1]; exact q)
    have test : ∀ {x : Str} {c : Value} {np : Pos} {Q : Value → Shared → Prop} {E : Value → Shared → Prop}, Names X x c → Q c { s' with heap := h3 } → wpAny (model X.prog X.w) (X.A.mark (some (.ref a))) (eval (.Name x np) X.env) Q E { s' with heap := h3 } := fun {x c np Q E} hc q => by
      obtain ⟨hg, hdbg, hm | ⟨hm, hv, hnn⟩⟩ := hc
      · exact ld_glob (X := X.suite a ((a, oe3) :: (X.pn ++ pins))) S3 hg hm q hdbg
      · exact ld_blt (X := X.suite a ((a, oe3) :: (X.pn ++ pins))) S3 hg hm hv q hnn hdbg
    have go : ∀ {hs' : List ExceptHandler} {l' : List Cl}, ClsOk X hs' l' → wCls X.K Wo Dn l' cls d σ' H' → wpAny (model X.prog X.w) X.A (handleBy (.ref a) X.env hs') (SP X pins Dn) X.xe { s' with heap := h3 } := by
      intro hs' l' hk
      induction hk with
      | nil =>
        intro wsh
        refine wpAny_handleBy_nil ?_
        obtain ⟨k1, k2, k3, oe, vs, T, oT, ts', he, hz, hd, h1, hr⟩ := id fl3
        unfold PySem.passOn
        refine wpAny_bind (wpAny_field he hd h1 ?_)
        rw [if_neg (show ¬ ((Value.ref T == Value.none) = true) from by simp)]
        have fin : wpAny (model X.prog X.w) X.A (setFlight (.ref a) X.env.frame) (fun _ s4 => wpAny (model X.prog X.w) X.A (throw (.ref a) : Sem Flow) (SP X pins Dn) X.xe s4) X.xe { s' with heap := h3 } := by
          rw [hf]
          refine HandSPX.setFlight_upZ fl3 fun h4 hh4 up4 => wpAny_throw (tk _ _ ?_)
          exact ⟨a, B, sI, pins, σ', H', cls, d, rfl, J, nb, (up.trans up3).trans up4, .inr (.inr (by rw [hs]; exact hh4)), na, os, ag, wsh⟩
        first
          | exact wpAny_bind (wpAny_pure (wpAny_bind fin))
          | exact wpAny_bind fin
      | @bare x c ts b suite np p hds2 l2 hc hsu r ih =>
        intro wsh
        obtain ⟨b, hb1, hyes, hno⟩ := wsh
        refine wpAny_handleBy_cons (codeAny_handlers_test ?_) (by intro q; cases q)
        refine test hc ((PySem.W.exm_one (M := model X.prog X.w) (J3.kIn) LT hb1).here ?_)
        cases b with
        | true =>
          refine codeAny_handlers_suite ?_
          refine HandSPX.lands_againZ fl3 fun h4 fl4 up4 => ?_
          have J4 : Inv X pins σ' H' { s' with heap := h4 } := J.landed nb fl4.1 ((up.trans up3).trans up4) os ag
          obtain ⟨oe4, vs4, he4, hz4, hd4⟩ := fl4.there
          have S4 := J4.suite he4 hd4 na nL nF
          refine wpAny_mono ((hsu a oe4 cls d (X.pn ++ pins) hz4 ⟨_, hd4⟩).run [] _ _ H' _ S4 (hyes rfl a na)) (fun f s6 hsp => ?_) (fun _ _ z => False.elim z)
          cases f with
          | next =>
            obtain ⟨σ6, H6, S6, q6⟩ := hsp
            exact ⟨_, _, S6.unsuite ok, q6⟩
          | brk =>
            obtain ⟨σ6, H6, S6, q6⟩ := hsp
            exact ⟨_, _, S6.unsuite ok, q6⟩
          | cont =>
            obtain ⟨σ6, H6, S6, q6⟩ := hsp
            exact ⟨_, _, S6.unsuite ok, q6⟩
          | ret u =>
            obtain ⟨v6, σ6, H6, S6, r6, q6⟩ := hsp
            exact ⟨_, _, _, S6.unsuite ok, r6, q6⟩
        | false =>
          show wpAny _ X.A (handleBy (.ref a) X.env hds2) _ _ _
          exact ih (hno rfl)
      | @named x n i c ts b suite np p hds2 l2 hc hi hln hsu r ih =>
        intro wsh
        obtain ⟨b, hb1, hyes, hno⟩ := wsh
        refine wpAny_handleBy_cons (codeAny_handlers_test ?_) (by intro q; cases q)
        refine test hc ((PySem.W.exm_one (M := model X.prog X.w) (J3.kIn) LT hb1).here ?_)
        cases b with
        | true =>
          refine codeAny_handlers_suite_as ?_
          refine HandSPX.lands_againZ fl3 fun h4 fl4 up4 => ?_
          have J4 : Inv X pins σ' H' { s' with heap := h4 } := J.landed nb fl4.1 ((up.trans up3).trans up4) os ag
          obtain ⟨oe4, vs4, he4, hz4, hd4⟩ := fl4.there
          have S4 := J4.suite he4 hd4 na nL nF
          have hloc : Loc X.env.scope n := .inl hln
          refine store_ok (X := X.suite a ((a, oe4) :: (X.pn ++ pins))) (v := .ref a) S4 hN hi hloc rfl (fun s5 S5 => ?_) (.inr hln)
          refine wpAny_mono ((hsu a oe4 cls d (X.pn ++ pins) hz4 ⟨_, hd4⟩).run [] s5 _ H' _ S5 (hyes rfl a na)) (fun f s6 hsp => ?_) (fun _ _ z => False.elim z)
          have gone : ∀ {σ6 : L2.St} {H6 : Hp} {Q : Shared → Prop}, Inv (X.suite a ((a, oe4) :: (X.pn ++ pins))) [] σ6 H6 s6 → (∀ s7, Inv X pins (σ6.set i none) H6 s7 → Q s7) →
              wpAny (model X.prog X.w) X.A (do bindName X.env n .none; unbindBehindTheSuite X.env n p) (fun _ s7 => Q s7) X.xe s6 := fun {σ6 H6 Q} S6 hq => gone_ok (S6.unsuite ok) hN hi hln hq
          cases f with
          | next =>
            obtain ⟨σ6, H6, S6, q6⟩ := hsp
            exact gone S6 fun s7 J7 => ⟨_, _, J7, q6⟩
          | brk =>
            obtain ⟨σ6, H6, S6, q6⟩ := hsp
            exact gone S6 fun s7 J7 => ⟨_, _, J7, q6⟩
          | cont =>
            obtain ⟨σ6, H6, S6, q6⟩ := hsp
            exact gone S6 fun s7 J7 => ⟨_, _, J7, q6⟩
          | ret u =>
            obtain ⟨v6, σ6, H6, S6, r6, q6⟩ := hsp
            exact gone S6 fun s7 J7 => ⟨_, _, _, J7, r6, q6⟩
        | false =>
          show wpAny _ X.A (handleBy (.ref a) X.env hds2) _ _ _
          exact ih (hno rfl)
    exact go hh wsh
  · cases f with
    | next =>
      obtain ⟨σ', H', J', q⟩ := hsp
      exact wpAny_execs_nil ⟨σ', H', J'.ofTry ok, q⟩
    | brk =>
      obtain ⟨σ', H', J', q⟩ := hsp
      exact ⟨σ', H', J'.ofTry ok, q⟩
    | cont =>
      obtain ⟨σ', H', J', q⟩ := hsp
      exact ⟨σ', H', J'.ofTry ok, q⟩
    | ret u =>
      obtain ⟨v, σ', H', J', r, q⟩ := hsp
      exact ⟨v, σ', H', J'.ofTry ok, r, q⟩
end
end Pv
set_option Elab.async false
set_option linter.all false
set_option maxRecDepth 100000
/-! Pv3: what a def promises, calls of defs, with and without a deal. -/
namespace Pv
open PySem PySem.Spec PyProof.Rows L2

abbrev Deal := List Int × Int
structure DealAt (F H : Hp) (l1 l2 : Addr) (dl : Deal) : Prop where
  h1 : H l1 = some (.lst [.ref l2, .int dl.2])
  h2 : H l2 = some (.lst (dl.1.map V.int))
  f1 : F l1 = none
  f2 : F l2 = none
  ne : l1 ≠ l2
def DPost (T : Txt) (F H : Hp) (Q : VK) (E : XK) : R D → Prop
  | .ok d => ∀ v F' H', Grow F H F' H' → Same F' H' → RtV T H F' H' v d → Q v H'
  | .err c d => ∀ cls dd F' H', Grow F H F' H' → Same F' H' → ErrOk T c d cls dd F' H' → E cls dd H'
  | .bad => False
/-- a def that does what m tells, and changes nothing that stood -/
def SpD (T : Txt) (n : Nat) (m : List D → R D) : Sp := fun vs H Q E => ∃ F ds, Same F H ∧ Rps T F vs ds ∧ ds.length = n ∧ DPost T F H Q E (m ds)
abbrev onDeal (l1 l2 : Addr) : Addr → Prop := fun a => a = l1 ∨ a = l2
def DPostL (T : Txt) (l1 l2 : Addr) (F H : Hp) (Q : VK) (E : XK) : R (D × Deal) → Prop
  | .ok (d, dl) => ∀ v F' H', Step (onDeal l1 l2) F H F' H' → Same F' H' → RtV T H F' H' v d → DealAt F' H' l1 l2 dl → Q v H'
  | .err c d => ∀ cls dd F' H', Step (onDeal l1 l2) F H F' H' → Same F' H' → ErrOk T c d cls dd F' H' → E cls dd H'
  | .bad => False
/-- a def whose first argument is a deal, which it may change -/
def SpL (T : Txt) (n : Nat) (m : List D → Deal → R (D × Deal)) : Sp := fun vs H Q E => ∃ F l1 l2 dl vs' ds, vs = .ref l1 :: vs' ∧ Same F H ∧ DealAt F H l1 l2 dl ∧ Rps T F vs' ds ∧ ds.length = n ∧ DPostL T l1 l2 F H Q E (m ds dl)

def ar1 {ω : Type} (z : ω) (f : D → ω) : List D → ω
  | [a] => f a
  | _ => z
def ar2 {ω : Type} (z : ω) (f : D → D → ω) : List D → ω
  | [a, b] => f a b
  | _ => z
def ar3 {ω : Type} (z : ω) (f : D → D → D → ω) : List D → ω
  | [a, b, c] => f a b c
  | _ => z
def ar4 {ω : Type} (z : ω) (f : D → D → D → D → ω) : List D → ω
  | [a, b, c, d] => f a b c d
  | _ => z
def ar5 {ω : Type} (z : ω) (f : D → D → D → D → D → ω) : List D → ω
  | [a, b, c, d, e] => f a b c d e
  | _ => z

/-- how a block's end is a def's answer -/
def finish {τ α β : Type} (r : R (Fl α β × τ)) : R (D × τ) := r.bind fun p => match p.1 with
  | .nx _ => .ok (.non, p.2)
  | .rt d => .ok (d, p.2)
  | .bk _ => .bad
def finish1 {α β : Type} (r : R (Fl α β × Unit)) : R D := r.bind fun p => match p.1 with
  | .nx _ => .ok .non
  | .rt d => .ok d
  | .bk _ => .bad
@[simp] theorem finish1_rt {α β : Type} (d : D) (s : Unit) : finish1 (α := α) (β := β) (.ok (.rt d, s)) = .ok d := rfl
@[simp] theorem finish1_nx {α β : Type} (a : α) (s : Unit) : finish1 (α := α) (β := β) (.ok (.nx a, s)) = .ok .non := rfl
@[simp] theorem finish1_err {α β : Type} (c : Str) (d : D) : finish1 (α := α) (β := β) (.err c d) = .err c d := rfl
@[simp] theorem finish_rt {α β τ : Type} (d : D) (s : τ) : finish (α := α) (β := β) (.ok (.rt d, s)) = .ok (d, s) := rfl
@[simp] theorem finish_nx {α β τ : Type} (a : α) (s : τ) : finish (α := α) (β := β) (.ok (.nx a, s)) = .ok (.non, s) := rfl
@[simp] theorem finish_err {α β τ : Type} (c : Str) (d : D) : finish (α := α) (β := β) (τ := τ) (.err c d) = .err c d := rfl

/-! ### the body of a def -/
abbrev bodyCtx (T : Txt) (N : List Str) (qual : Str) (st : Stmt) (f : Addr) (cdv : Value) (A : Around) (outer : List Env) (s : Shared) (H : Hp) (E : XK) (k : Nat) (F : Hp) (M : Addr → Prop) : Ctx :=
  { T := T, X := cxOf (L2.CX T.P T.w) T.P T.w T.K T.mg T.base N qual (defScope st) f cdv A outer s H E, k := k, M := M, F0 := F, H0 := H, W := fun cls d _ H => E cls d H, eh := [], hot := false }
theorem good_body {T : Txt} {N ps : List Str} {qual : Str} {st : Stmt} {f : Addr} {cdv : Value} {A : Around} {outer : List Env} {s : Shared} {H : Hp} {E : XK} {k : Nat} {F : Hp} {M : Addr → Prop} (S : FnScope N ps (defScope st))
    (hr : RoomG k (A.deeper (envOfC qual (defScope st) s.heap.objs.size f cdv))) : Good (bodyCtx T N qual st f cdv A outer s H E k F M) :=
  ⟨rfl, rfl, rfl, rfl, rfl, fun _ => rfl, S.nd, fun _ => hr, passes_of rfl, takes_of rfl rfl rfl rfl⟩
def startD (N : List Str) (ds : List D) : Slots := ds.map (fun d => some (.val d)) ++ List.replicate (N.length - ds.length) none
theorem start_get {N : List Str} {vs : List V} {i : Nat} (h : i < vs.length) : (L2.start N vs)[i]?.join = vs[i]? := by
  unfold L2.start
  rw [List.getElem?_append_left (by simpa using h), List.getElem?_map]
  cases vs[i]? <;> rfl
theorem startD_get {N : List Str} {ds : List D} {i : Nat} : (startD N ds)[i]?.join = ds[i]?.map SV.val := by
  unfold startD
  by_cases h : i < ds.length
  · rw [List.getElem?_append_left (by simpa using h), List.getElem?_map]
    cases ds[i]? <;> rfl
  · rw [List.getElem?_append_right (by simpa using h), List.getElem?_eq_none (l := ds) (by omega), List.getElem?_replicate]
    split <;> rfl
theorem slots_start {T : Txt} {Fr : Addr → Prop} {F H : Hp} {N : List Str} {vs : List V} {ds : List D} (r : Rps T F vs ds) : SlotsOk T Fr F H (startD N ds) (L2.start N vs) := by
  refine ⟨fun _ => [], fun i => ?_, fun i j a ha => by simp at ha⟩
  rw [startD_get]
  cases q : ds[i]? with
  | none => rfl
  | some d =>
    obtain ⟨v, h1, h2⟩ := r.get q
    have hi : i < vs.length := (List.getElem?_eq_some_iff.mp h1).1
    rw [start_get hi, h1]
    exact ⟨rfl, v, rfl, h2⟩
theorem startD_length {N : List Str} {ds : List D} (h : ds.length ≤ N.length) : (startD N ds).length = N.length := by
  unfold startD
  rw [List.length_append, List.length_map, List.length_replicate]
  omega
theorem start_length {N : List Str} {vs : List V} (h : vs.length ≤ N.length) : (L2.start N vs).length = N.length := by
  unfold L2.start
  rw [List.length_append, List.length_map, List.length_replicate]
  omega
theorem scope_le {N ps : List Str} {sc : Scope} (S : FnScope N ps sc) : ps.length ≤ N.length := by
  have := congrArg List.length S.pre
  rw [List.length_take] at this
  omega
theorem fn_ok {T : Txt} {x qual : Str} {st : Stmt} {f : Addr} {fd : FuncData} {N ps : List Str} {k : Nat} {m : List D → R (Fl Unit Unit × Unit)} (Fn : Fun T.K x qual st f fd) (S : FnScope N ps (defScope st))
    (hbody : ∀ (cdv : Value) (A : Around) (outer : List Env) (s : Shared) (H : Hp) (E : XK) (F : Hp) (ds : List D), ds.length = ps.length → JB (bodyCtx T N qual st f cdv A outer s H E k F fun _ => False) (fun _ : Unit => startD N ds) (defBody st) (fun _ _ => []) (fun _ _ => []) (fun _ => []) (fun _ => m ds)) :
    FnG T.P T.w T.K T.mg T.base (L2.CX T.P T.w) (k + 1) f fd ps (SpD T ps.length fun ds => finish1 (m ds)) := by
  refine fn_okG Fn S (fun vs H Q E ⟨F, ds, _, r, hl, _⟩ => by rw [r.length]; exact hl) (fun cdv A outer s H vs Q E hr ⟨F, ds, sub, r, hl, hp⟩ => ?_)
  have hp : DPost T F H Q E (finish1 (m ds)) := hp
  have hN := scope_le S
  have st0 : St8 (bodyCtx T N qual st f cdv A outer s H E k F fun _ => False) (startD N ds) (L2.start N vs) F H :=
    ⟨Step.refl _ _ _, sub, slots_start r, by rw [startD_length (by omega), start_length (by rw [r.length]; omega)]; exact Nat.le_refl _⟩
  refine ⟨_, ps_wp, hbody cdv A outer s H E F ds hl (good_body S hr) () _ F H _ st0 ?_⟩
  cases q : m ds with
  | ok p =>
    obtain ⟨fl, u⟩ := p
    rw [q] at hp
    cases fl with
    | nx a => exact fun σ F' H' _ st' => hp .non F' H' st'.step st'.sub (.of .non)
    | rt d => exact fun v σ F' H' _ rv st' => hp v F' H' st'.step st'.sub rv
    | bk b => exact hp.elim
  | err c d =>
    rw [q] at hp
    exact fun σ cls dd F' H' eo st' => hp cls dd F' H' st'.step st'.sub eo
  | bad =>
    rw [q] at hp
    exact hp.elim
/-- a def whose first argument is a deal -/
theorem fn_okL {T : Txt} {x qual : Str} {st : Stmt} {f : Addr} {fd : FuncData} {N ps : List Str} {k : Nat} {m : List D → Deal → R (Fl Unit Unit × Deal)} (Fn : Fun T.K x qual st f fd) (S : FnScope N ps (defScope st)) (h0 : 0 < ps.length)
    (hbody : ∀ (cdv : Value) (A : Around) (outer : List Env) (s : Shared) (H : Hp) (E : XK) (F : Hp) (l1 l2 : Addr) (ds : List D), ds.length + 1 = ps.length →
      JB (bodyCtx T N qual st f cdv A outer s H E k F (onDeal l1 l2)) (fun dl : Deal => some (.deal l1 l2 dl.1 dl.2) :: startD N.tail ds) (defBody st) (fun _ dl => [some (.deal l1 l2 dl.1 dl.2)]) (fun _ _ => []) (fun dl => [some (.deal l1 l2 dl.1 dl.2)]) (m ds)) :
    FnG T.P T.w T.K T.mg T.base (L2.CX T.P T.w) (k + 1) f fd ps (SpL T (ps.length - 1) fun ds dl => finish (m ds dl)) := by
  refine fn_okG Fn S (fun vs H Q E ⟨F, l1, l2, dl, vs', ds, e, _, _, r, hl, _⟩ => by subst e; show vs'.length + 1 = ps.length; have := r.length; omega) (fun cdv A outer s H vs Q E hr ⟨F, l1, l2, dl, vs', ds, e, sub, da, r, hl, hp⟩ => ?_)
  subst e
  have hp : DPostL T l1 l2 F H Q E (finish (m ds dl)) := hp
  have hN := scope_le S
  obtain ⟨n0, N', eN⟩ : ∃ n0 N', N = n0 :: N' := by
    cases N with
    | nil => exact absurd (Nat.lt_of_lt_of_le h0 hN) (Nat.lt_irrefl 0)
    | cons a b => exact ⟨a, b, rfl⟩
  subst eN
  have hN' : ds.length ≤ N'.length := by rw [List.length_cons] at hN; omega
  have es : L2.start (n0 :: N') (V.ref l1 :: vs') = some (.ref l1) :: L2.start N' vs' := by
    unfold L2.start
    simp
  have st0 : St8 (bodyCtx T (n0 :: N') qual st f cdv A outer s H E k F (onDeal l1 l2)) (some (.deal l1 l2 dl.1 dl.2) :: startD (n0 :: N').tail ds) (L2.start (n0 :: N') (V.ref l1 :: vs')) F H := by
    refine ⟨Step.refl _ _ _, sub, ?_, ?_⟩
    · rw [es]
      obtain ⟨A, h1, h2⟩ := slots_start (T := T) (Fr := fun a => H a = none ∨ onDeal l1 l2 a) (H := H) (N := N') r
      refine ⟨fun i => if i = 0 then [l1, l2] else [], fun i => ?_, fun i j a ha hb => ?_⟩
      · cases i with
        | zero => exact ⟨rfl, rfl, da.h1, da.h2, da.f1, da.f2, .inr (.inl rfl), .inr (.inr rfl), da.ne⟩
        | succ i =>
          have q := startD_get (N := N') (ds := ds) (i := i)
          show SlotOk T _ F H ((startD N' ds)[i]?.join) ((L2.start N' vs')[i]?.join) []
          rw [q]
          cases z : ds[i]? with
          | none => rfl
          | some d =>
            obtain ⟨v, e1, e2⟩ := r.get z
            rw [start_get (List.getElem?_eq_some_iff.mp e1).1, e1]
            exact ⟨rfl, v, rfl, e2⟩
      · by_cases c : i = 0
        · by_cases c' : j = 0
          · rw [c, c']
          · simp [c'] at hb
        · simp [c] at ha
    · rw [es, List.length_cons, List.length_cons, List.tail_cons, startD_length hN', start_length (by rw [r.length]; exact hN')]
      exact Nat.le_refl _
  refine ⟨_, ps_wp, hbody cdv A outer s H E F l1 l2 ds (by omega) (good_body S hr) dl _ F H _ st0 ?_⟩
  have back : ∀ {σ : L2.St} {F' H' : Hp} {dl' : Deal}, St8 (bodyCtx T (n0 :: N') qual st f cdv A outer s H E k F (onDeal l1 l2)) [some (.deal l1 l2 dl'.1 dl'.2)] σ F' H' → DealAt F' H' l1 l2 dl' := fun {σ F' H' dl'} z => by
    obtain ⟨A, h1, _⟩ := z.env
    obtain ⟨_, _, q1, q2, q3, q4, _, _, q5⟩ := h1 0
    exact ⟨q1, q2, q3, q4, q5⟩
  cases q : m ds dl with
  | ok p =>
    obtain ⟨fl, dl'⟩ := p
    rw [q] at hp
    cases fl with
    | nx a => exact fun σ F' H' _ st' => hp .non F' H' st'.step st'.sub (.of .non) (back st')
    | rt d => exact fun v σ F' H' _ rv st' => hp v F' H' st'.step st'.sub rv (back st')
    | bk b => exact hp.elim
  | err c d =>
    rw [q] at hp
    exact fun σ cls dd F' H' eo st' => hp cls dd F' H' st'.step st'.sub eo
  | bad =>
    rw [q] at hp
    exact hp.elim

/-! ### calls -/
/-- what a caller must know of a def: x its name, n the values and ks the keywords that are written, pick: all arguments from these -/
structure Shape (T : Txt) (x : Str) (n : Nat) (ks : List Str) (j : Nat) (sp : Sp) (pick : List V → List V → List V) : Prop where
  ex : ∃ f fd ps g, FnG T.P T.w T.K T.mg T.base (L2.CX T.P T.w) j f fd ps sp ∧ T.mg x = some (.ref f) ∧ PySem.W.keepIn T.K (.ref f) = true ∧ KBn T.K fd ps n ks g pick
def CalleeD (T : Txt) (x : Str) (n : Nat) (ks : List Str) (j : Nat) (m : List D → List D → R D) : Prop := ∃ k mm pick, Shape T x n ks j (SpD T k mm) pick ∧
  (∀ (F : Hp) (vs zs : List V) (ds es : List D), Rps T F vs ds → Rps T F zs es → ds.length = n → es.length = ks.length → ∃ as, Rps T F (pick vs zs) as ∧ as.length = k ∧ mm as = m ds es) ∧ ∀ ds es, m ds es ≠ .bad → ds.length = n ∧ es.length = ks.length
def CalleeL (T : Txt) (x : Str) (n : Nat) (ks : List Str) (j : Nat) (m : List D → List D → Deal → R (D × Deal)) : Prop := ∃ k mm pick, Shape T x (n + 1) ks j (SpL T k mm) pick ∧
  (∀ (F : Hp) (l1 : Addr) (vs zs : List V) (ds es : List D), Rps T F vs ds → Rps T F zs es → ds.length = n → es.length = ks.length → ∃ ws as, pick (.ref l1 :: vs) zs = .ref l1 :: ws ∧ Rps T F ws as ∧ as.length = k ∧ mm as = m ds es) ∧ ∀ ds es dl, m ds es dl ≠ .bad → ds.length = n ∧ es.length = ks.length
def JKw (C : Ctx) {τ : Type} (φ : τ → Slots) (kws : List Keyword) (m : τ → R (List D × τ)) : Prop := Good C → ∀ (s : τ) (σ : L2.St) (F H : Hp) (Q : List V → Hp → Prop), St8 C (φ s) σ F H →
  Srv C (m s) (fun ds s' => ∀ vs F' H', Same F F' → Rps C.T F' vs ds → St8 C (φ s') σ F' H' → Q vs H') → ∃ t, PK C.X kws t ∧ t σ H Q
def wpK (X : Cx) (kws : List Keyword) : TA := fun σ H Q => ∃ t, PK X kws t ∧ t σ H Q
theorem pk_wp {X : Cx} {kws : List Keyword} : PK X kws (wpK X kws) := ⟨fun pos pins s σ H Q I ⟨t, h, q⟩ => h.run pos pins s σ H Q I q⟩
section
variable {C : Ctx} {τ : Type} {φ : τ → Slots}
theorem jkw_nil : JKw C φ [] (fun s => .ok ([], s)) := fun gd s σ F H Q st hs => ⟨_, pk_nil, hs [] F H (Same.refl F) .nil st⟩
theorem jkw_cons {e : Expr} {nm : Option Str} {kp : Pos} {kws : List Keyword} {m : τ → R (D × τ)} {n : τ → R (List D × τ)} (h : JE C φ e m) (k : JKw C φ kws n) :
    JKw C φ (⟨nm, e, kp⟩ :: kws) (fun s => (m s).bind fun p => (n p.2).bind fun q => .ok (p.1 :: q.1, q.2)) := fun gd s σ F H Q st hs => by
  refine ⟨_, pk_cons pe_wp pk_wp, ?_⟩
  refine h gd s σ F H _ st (hs.bind.mono fun d s1 h1 v F1 H1 e1 r1 st1 => ?_)
  exact k gd s1 σ F1 H1 _ st1 (h1.bind.mono fun ds s2 h2 vs F2 H2 e2 r2 st2 => h2 (v :: vs) F2 H2 (e1.trans e2) (.cons (r1.mono e2) r2) st2)
end
/-- f(es, kws), at the values -/
def tCallG (sp : Sp) (n : Nat) (ks : List Str) (pick : List V → List V → List V) (E : L2.St → XK) (t tk : TA) : TE := fun σ H Q => t σ H fun vs H1 => tk σ H1 fun zs H2 => vs.length = n ∧ zs.length = ks.length ∧ sp (pick vs zs) H2 Q (E σ)
theorem run_call {X : Cx} {CX : CXT} {k n : Nat} {f : Addr} {fd : FuncData} {ps ks : List Str} {sp : Sp} {E : XK} {pick : List V → List V → List V} {g : List Value → List Value → List Value} {pins : List (Addr × Obj)} {σ : L2.St} {H : Hp} {s : Shared} {Q : VK} {us ws : List Value} {vs zs : List V}
    (Fo : FnG X.prog X.w X.K X.mg X.base CX k f fd ps sp) (hr : RoomG k X.A) (hb : KBn X.K fd ps n ks g pick) (hx : PassesAt CX X σ E) (I : Inv X pins σ H s) (r : Vals vs us) (rz : Vals zs ws) (l1 : vs.length = n) (l2 : zs.length = ks.length) (h : sp (pick vs zs) H Q E) :
    wpAny (model X.prog X.w) X.A (call (.ref f) us (ks.zip ws)) (EP X pins σ Q) X.xe s := by
  have l3 : us.length = n := by rw [← r.length]; exact l1
  have l4 : ws.length = ks.length := by rw [← rz.length]; exact l2
  refine wpAny_call (codeAny_mono (Fo.run X.A X.stack s H ⟨us, ks.zip ws⟩ (g us ws) (pick vs zs) Q E hr I.env0 (hb.to s us ws I.kIn l3 l4) (hb.rel r rz) h) fun o s' hq => ?_)
  cases o with
  | error e => exact hx pins H s e s' I hq
  | ok fl =>
    cases fl with
    | ret u => exact I.after hq
    | next => exact False.elim hq
    | brk => exact False.elim hq
    | cont => exact False.elim hq
section
variable {X : Cx} {CX : CXT} {k n : Nat} {f : Addr} {fd : FuncData} {ps ks : List Str} {sp : Sp} {E : L2.St → XK} {pick : List V → List V → List V} {g : List Value → List Value → List Value} {x : Str} {p pos : Pos} {e : Expr} {es : List Expr} {kws : List Keyword} {t tk : TA}
theorem pe_callPos (Fo : FnG X.prog X.w X.K X.mg X.base CX k f fd ps sp) (hr : RoomG k X.A) (hg : Gl X x) (hm : X.mg x = some (.ref f)) (hk : PySem.W.keepIn X.K (.ref f) = true) (hb : KBn X.K fd ps n [] g pick) (hx : ∀ σ, PassesAt CX X σ (E σ)) (ha : PA X (e :: es) t)
    (hdb : (x == ("__debug__" : Str)) = false) (he : starEach (e :: es) X.env = (false, eval e X.env) :: starEach es X.env) (hpl : (backTo pos (starEach es X.env)).any (·.1) = false) :
    PE X (.Call (.Name x p) (e :: es) [] pos) (tCallG sp n [] pick E t tNil) := by
  refine ⟨fun pins s σ H Q I h => ?_⟩
  refine wpAny_Call_Name_kw (ld_glob I hg hm ?_ hdb)
  refine PySem.W.callWith_K (h₀ := X.base) I.ok.mod.kin hk (thn (ha.run pos pins s σ H _ I h) fun us s1 ⟨vs, H1, I1, r, l1, l2, q⟩ => ⟨I1.kIn, ?_⟩) he hpl
  exact run_call (ws := []) Fo hr hb (hx σ) I1 r .nil l1 l2 q
theorem pe_callNone (Fo : FnG X.prog X.w X.K X.mg X.base CX k f fd ps sp) (hr : RoomG k X.A) (hg : Gl X x) (hm : X.mg x = some (.ref f)) (hk : PySem.W.keepIn X.K (.ref f) = true) (hb : KBn X.K fd ps 0 [] g pick) (hx : ∀ σ, PassesAt CX X σ (E σ))
    (hdb : (x == ("__debug__" : Str)) = false) : PE X (.Call (.Name x p) [] [] pos) (tCallG sp 0 [] pick E tNil tNil) := by
  refine ⟨fun pins s σ H Q I h => ?_⟩
  obtain ⟨l1, l2, q⟩ := h
  refine wpAny_Call_Name_kw (ld_glob I hg hm ?_ hdb)
  exact PySem.W.callWith_K0 I.kIn hk (run_call (us := []) (ws := []) Fo hr hb (hx σ) I .nil .nil l1 l2 q)
theorem pe_callKw0 (Fo : FnG X.prog X.w X.K X.mg X.base CX k f fd ps sp) (hr : RoomG k X.A) (hg : Gl X x) (hm : X.mg x = some (.ref f)) (hk : PySem.W.keepIn X.K (.ref f) = true) (hb : KBn X.K fd ps 0 ks g pick) (hx : ∀ σ, PassesAt CX X σ (E σ)) (hkw : PK X kws tk)
    (hall : (backToKw pos (keywordEach kws X.env)).all (·.1.isSome) = true) (hks : (backToKw pos (keywordEach kws X.env)).filterMap (·.1) = ks) (hdb : (x == ("__debug__" : Str)) = false)
    (hpl : ((backTo pos (starEach [] X.env)).any (·.1) || (backToKw pos (keywordEach kws X.env)).any (·.1.isNone)) = false) :
    PE X (.Call (.Name x p) [] kws pos) (tCallG sp 0 ks pick E tNil tk) := by
  refine ⟨fun pins s σ H Q I h => ?_⟩
  refine wpAny_Call_Name_kw (ld_glob I hg hm ?_ hdb)
  refine PySem.W.callWith_KW0 (h₀ := X.base) I.ok.mod.kin hk hall ?_ hpl
  refine thn (hkw.run pos pins s σ H _ I h) fun ws s2 ⟨zs, H2, I2, rz, l1, l2, q2⟩ => ⟨I2.kIn, ?_⟩
  rw [hks]
  exact run_call (us := []) Fo hr hb (hx σ) I2 .nil rz l1 l2 q2
theorem pe_callKw (Fo : FnG X.prog X.w X.K X.mg X.base CX k f fd ps sp) (hr : RoomG k X.A) (hg : Gl X x) (hm : X.mg x = some (.ref f)) (hk : PySem.W.keepIn X.K (.ref f) = true) (hb : KBn X.K fd ps n ks g pick) (hx : ∀ σ, PassesAt CX X σ (E σ)) (ha : PA X (e :: es) t) (hkw : PK X kws tk)
    (hall : (backToKw pos (keywordEach kws X.env)).all (·.1.isSome) = true) (hks : (backToKw pos (keywordEach kws X.env)).filterMap (·.1) = ks)
    (hdb : (x == ("__debug__" : Str)) = false) (he : starEach (e :: es) X.env = (false, eval e X.env) :: starEach es X.env)
    (hpl : ((backTo pos (starEach (e :: es) X.env)).any (·.1) || (backToKw pos (keywordEach kws X.env)).any (·.1.isNone)) = false) :
    PE X (.Call (.Name x p) (e :: es) kws pos) (tCallG sp n ks pick E t tk) := by
  refine ⟨fun pins s σ H Q I h => ?_⟩
  refine wpAny_Call_Name_kw (ld_glob I hg hm ?_ hdb)
  refine PySem.W.callWith_KW (h₀ := X.base) I.ok.mod.kin hk hall (thn (ha.run pos pins s σ H _ I h) fun us s1 ⟨vs, H1, I1, r, q⟩ => ?_) hpl he
  refine thn (hkw.run pos pins s1 σ H1 _ I1 q) fun ws s2 ⟨zs, H2, I2, rz, l1, l2, q2⟩ => ⟨I2.kIn, ?_⟩
  rw [hks]
  exact run_call Fo hr hb (hx σ) I2 r rz l1 l2 q2
end
end Pv
set_option Elab.async false
set_option linter.all false
set_option maxRecDepth 100000
/-! Pv4: calls as expressions; raise. -/
namespace Pv
open PySem PySem.Spec PyProof.Rows L2

def LeAll (C : Ctx) {τ : Type} (φ : τ → Slots) : Prop := ∀ s, SlotsLe C.eh (φ s) ∧ C.eh.length ≤ (φ s).length
theorem le0 {C : Ctx} {τ : Type} {φ : τ → Slots} (h : C.eh = []) : LeAll C φ := fun s => by
  rw [h]
  exact ⟨SlotsLe.nil _, Nat.zero_le _⟩
theorem Step.onDeal {M : Addr → Prop} {F0 H0 F H F' H' : Hp} {l1 l2 : Addr} (a : Step M F0 H0 F H) (b : Step (Pv.onDeal l1 l2) F H F' H') (f1 : H0 l1 = none ∨ M l1) (f2 : H0 l2 = none ∨ M l2) : Step M F0 H0 F' H' where
  fz := a.fz.trans b.fz
  new := fun x o h => by
    rcases b.new x o h with h | h | h
    · exact a.new x o h
    · exact .inr (a.nw h)
    · refine .inr ?_
      have z : H0 x = none ∨ M x := h.elim (fun e => by rw [e]; exact f1) fun e => by rw [e]; exact f2
      exact z.imp .inl id
  keep := fun x o h m => b.keep x o (a.keep x o h m) fun z => by
    rcases z with rfl | rfl
    · rcases f1 with f | f
      · rw [f] at h; cases h
      · exact m f
    · rcases f2 with f | f
      · rw [f] at h; cases h
      · exact m f
  dom := fun x h => a.dom x (b.dom x h)
theorem SlotsOk.deal {T : Txt} {Fr : Addr → Prop} {F H F' H' : Hp} {e : Slots} {σ : L2.St} {i : Nat} {l1 l2 : Addr} {dl dl' : Deal} (h : SlotsOk T Fr F H e σ) (hi : e[i]?.join = some (.deal l1 l2 dl.1 dl.2)) (b : Step (Pv.onDeal l1 l2) F H F' H') (da : DealAt F' H' l1 l2 dl') :
    SlotsOk T Fr F' H' (e.set i (some (.deal l1 l2 dl'.1 dl'.2))) σ := by
  obtain ⟨A, h1, h2⟩ := h
  have q := h1 i
  rw [hi] at q
  obtain ⟨ea, ev, q1, q2, q3, q4, q5, q6, q7⟩ := q
  have he : i < e.length := by
    by_cases c : i < e.length
    · exact c
    · rw [List.getElem?_eq_none (by simpa using c)] at hi; cases hi
  refine ⟨A, fun j => ?_, h2⟩
  by_cases c : j = i
  · subst c
    rw [join_set_self he, ev, ea]
    exact ⟨rfl, rfl, da.h1, da.h2, da.f1, da.f2, q5, q6, q7⟩
  · rw [join_set_ne (Ne.symm c)]
    refine (h1 j).move b.fz fun a ha => ?_
    obtain ⟨⟨o, e1, nt⟩, e2, _⟩ := (h1 j).own_some a ha
    have n1 : a ≠ l1 := fun z => c (h2 j i a ha (by rw [ea, z]; simp))
    have n2 : a ≠ l2 := fun z => c (h2 j i a ha (by rw [ea, z]; simp))
    refine ⟨by rw [b.keep a o e1 (fun z => z.elim n1 n2), e1], ?_⟩
    cases q : F' a with
    | none => rfl
    | some u =>
      rcases b.new a u q with z | z | z
      · rw [e2] at z; cases z
      · exact (nw_no e1 nt z).elim
      · exact (z.elim n1 n2).elim
theorem St8.deal {C : Ctx} {e : Slots} {σ : L2.St} {F H F' H' : Hp} {i : Nat} {l1 l2 : Addr} {dl dl' : Deal} (st : St8 C e σ F H) (hi : e[i]?.join = some (.deal l1 l2 dl.1 dl.2)) (b : Step (Pv.onDeal l1 l2) F H F' H') (sub : Same F' H') (da : DealAt F' H' l1 l2 dl') :
    St8 C (e.set i (some (.deal l1 l2 dl'.1 dl'.2))) σ F' H' := by
  obtain ⟨A, h1, _⟩ := id st.env
  have q := h1 i
  rw [hi] at q
  obtain ⟨_, _, _, _, _, _, q5, q6, _⟩ := q
  exact ⟨st.step.onDeal b q5 q6, sub, st.env.deal hi b da, by rw [List.length_set]; exact st.len⟩

/-- a deal that nobody tells of any more -/
theorem St8.noDeal {C : Ctx} {e : Slots} {σ : L2.St} {F H F' H' : Hp} {i : Nat} {l1 l2 : Addr} {dl : Deal} (st : St8 C e σ F H) (hi : e[i]?.join = some (.deal l1 l2 dl.1 dl.2)) (b : Step (Pv.onDeal l1 l2) F H F' H') (sub : Same F' H') : St8 C (e.set i none) σ F' H' := by
  obtain ⟨A, h1, h2⟩ := id st.env
  have q := h1 i
  rw [hi] at q
  obtain ⟨ea, _, _, _, _, _, q5, q6, _⟩ := q
  refine ⟨st.step.onDeal b q5 q6, sub, ⟨fun j => if j = i then [] else A j, fun j => ?_, fun j k a ha hb => ?_⟩, by rw [List.length_set]; exact st.len⟩
  · by_cases c : j = i
    · subst c
      rw [if_pos rfl]
      by_cases l : j < e.length
      · rw [join_set_self l]; rfl
      · rw [List.getElem?_eq_none (by simpa using l)]; rfl
    · rw [join_set_ne (Ne.symm c), if_neg c]
      refine (h1 j).move b.fz fun a ha => ?_
      obtain ⟨⟨o, e1, nt⟩, e2, _⟩ := (h1 j).own_some a ha
      have n1 : a ≠ l1 := fun z => c (h2 j i a ha (by rw [ea, z]; simp))
      have n2 : a ≠ l2 := fun z => c (h2 j i a ha (by rw [ea, z]; simp))
      refine ⟨by rw [b.keep a o e1 (fun z => z.elim n1 n2), e1], ?_⟩
      cases q : F' a with
      | none => rfl
      | some u =>
        rcases b.new a u q with z | z | z
        · rw [e2] at z; cases z
        · exact (nw_no e1 nt z).elim
        · exact (z.elim n1 n2).elim
  · by_cases c : j = i
    · simp [c] at ha
    · by_cases c' : k = i
      · simp [c'] at hb
      · rw [if_neg c] at ha
        rw [if_neg c'] at hb
        exact h2 j k a ha hb

section
variable {C : Ctx} {τ : Type} {φ : τ → Slots} {x : Str} {p pos : Pos}
theorem passW (g : Good C) (σ : L2.St) : PassesAt (L2.CX C.T.P C.T.w) C.X σ (WE C.W σ) := by
  rw [← g.pr, ← g.w]
  exact passAt g.tk σ
theorem fnX {j : Nat} {f : Addr} {fd : FuncData} {ps : List Str} {sp : Sp} (g : Good C) (Fo : FnG C.T.P C.T.w C.T.K C.T.mg C.T.base (L2.CX C.T.P C.T.w) j f fd ps sp) : FnG C.X.prog C.X.w C.X.K C.X.mg C.X.base (L2.CX C.T.P C.T.w) j f fd ps sp := by
  rw [g.pr, g.w, g.K, g.mg, g.base]
  exact Fo
/-- what a call of a def leaves, for any way that its values came -/
theorem call_done {σ : L2.St} {F H : Hp} {Q : VK} {env : Slots} {k : Nat} {mm : List D → R D} {as : List D} {vs : List V} (st : St8 C env σ F H) (r : Rps C.T F vs as) (hl : as.length = k) (le : SlotsLe C.eh env) (ll : C.eh.length ≤ env.length)
    (h : Srv1 C (mm as) (fun d => ∀ v F' H', Same F F' → Rp C.T F' v (unfre d) → St8 C env σ F' H' → Q v H')) : SpD C.T k mm vs H Q (WE C.W σ) := by
  refine ⟨F, as, st.sub, r, hl, ?_⟩
  cases q : mm as with
  | ok d =>
    rw [q] at h
    intro v F' H' gr sub rv
    obtain ⟨F2, g2, _, s2, r2, _⟩ := rv.frz gr sub
    exact h v F2 H' g2.fz r2 (st.grow g2 s2)
  | err c d => rw [q] at h; exact fun cls dd F' H' gr sub eo => h σ cls dd F' H' eo ((st.grow gr sub).le le ll)
  | bad => rw [q] at h; exact h
theorem je_call {n j : Nat} {m : List D → List D → R D} {e : Expr} {es : List Expr} {na : τ → R (List D × τ)} (Ca : CalleeD C.T x n [] j m) (hj : j ≤ C.k) (ha : JA C φ (e :: es) na) (hle : LeAll C φ := by exact le0 rfl)
    (hh : C.hot = false := by rfl) (hg : Gl C.X x := by rfl) (hdb : (x == ("__debug__" : Str)) = false := by decide) (he : starEach (e :: es) C.X.env = (false, eval e C.X.env) :: starEach es C.X.env := by rfl) (hpl : (backTo pos (starEach es C.X.env)).any (·.1) = false := by rfl) :
    JE C φ (.Call (.Name x p) (e :: es) [] pos) (fun s => (na s).bind fun q => (m q.1 []).bind fun d => .ok (unfre d, q.2)) := fun g s σ F H Q st h => by
  obtain ⟨k, mm, pick, ⟨f, fd, ps, gg, Fo, hm, hk, hb⟩, hp, hlen⟩ := Ca
  refine ⟨_, pe_callPos (fnX g Fo) ((g.room hh).mono hj) hg (by rw [g.mg]; exact hm) (by rw [g.K]; exact hk) (by rw [g.K]; exact hb) (fun σ => passW g σ) pa_wp hdb he hpl, ?_⟩
  refine ha g s σ F H _ st (h.bind.mono fun ds s1 h1 vs F1 H1 e1 r1 st1 => ?_)
  have h2 := h1.bind1
  have l1 : m ds [] ≠ .bad := fun z => by rw [z] at h2; exact h2
  obtain ⟨as, ra, la, ea⟩ := hp F1 vs [] ds [] r1 .nil (hlen _ _ l1).1 rfl
  refine ⟨by rw [r1.length]; exact (hlen _ _ l1).1, rfl, call_done st1 ra la (hle s1).1 (hle s1).2 ?_⟩
  rw [ea]
  cases q : m ds [] with
  | ok d => rw [q] at h2; exact fun v F' H' ee rv st' => h2 v F' H' (e1.trans ee) rv st'
  | err c d => rw [q] at h2; exact h2
  | bad => exact absurd q l1
theorem je_call0 {j : Nat} {m : List D → List D → R D} (Ca : CalleeD C.T x 0 [] j m) (hj : j ≤ C.k) (hle : LeAll C φ := by exact le0 rfl)
    (hh : C.hot = false := by rfl) (hg : Gl C.X x := by rfl) (hdb : (x == ("__debug__" : Str)) = false := by decide) : JE C φ (.Call (.Name x p) [] [] pos) (fun s => (m [] []).bind fun d => .ok (unfre d, s)) := fun g s σ F H Q st h => by
  obtain ⟨k, mm, pick, ⟨f, fd, ps, gg, Fo, hm, hk, hb⟩, hp, hlen⟩ := Ca
  refine ⟨_, pe_callNone (fnX g Fo) ((g.room hh).mono hj) hg (by rw [g.mg]; exact hm) (by rw [g.K]; exact hk) (by rw [g.K]; exact hb) (fun σ => passW g σ) hdb, ?_⟩
  have h2 := h.bind1
  obtain ⟨as, ra, la, ea⟩ := hp F [] [] [] [] .nil .nil rfl rfl
  refine ⟨rfl, rfl, call_done st ra la (hle s).1 (hle s).2 ?_⟩
  rw [ea]
  exact h2
theorem je_callKw {n j : Nat} {ks : List Str} {m : List D → List D → R D} {e : Expr} {es : List Expr} {kws : List Keyword} {na nk : τ → R (List D × τ)} (Ca : CalleeD C.T x n ks j m) (hj : j ≤ C.k) (ha : JA C φ (e :: es) na) (hkw : JKw C φ kws nk) (hle : LeAll C φ := by exact le0 rfl)
    (hh : C.hot = false := by rfl) (hg : Gl C.X x := by rfl) (hall : (backToKw pos (keywordEach kws C.X.env)).all (·.1.isSome) = true := by rfl) (hks : (backToKw pos (keywordEach kws C.X.env)).filterMap (·.1) = ks := by rfl)
    (hdb : (x == ("__debug__" : Str)) = false := by decide) (he : starEach (e :: es) C.X.env = (false, eval e C.X.env) :: starEach es C.X.env := by rfl)
    (hpl : ((backTo pos (starEach (e :: es) C.X.env)).any (·.1) || (backToKw pos (keywordEach kws C.X.env)).any (·.1.isNone)) = false := by rfl) :
    JE C φ (.Call (.Name x p) (e :: es) kws pos) (fun s => (na s).bind fun q => (nk q.2).bind fun q2 => (m q.1 q2.1).bind fun d => .ok (unfre d, q2.2)) := fun g s σ F H Q st h => by
  obtain ⟨k, mm, pick, ⟨f, fd, ps, gg, Fo, hm, hk, hb⟩, hp, hlen⟩ := Ca
  refine ⟨_, pe_callKw (fnX g Fo) ((g.room hh).mono hj) hg (by rw [g.mg]; exact hm) (by rw [g.K]; exact hk) (by rw [g.K]; exact hb) (fun σ => passW g σ) pa_wp pk_wp hall hks hdb he hpl, ?_⟩
  refine ha g s σ F H _ st (h.bind.mono fun ds s1 h1 vs F1 H1 e1 r1 st1 => ?_)
  refine hkw g s1 σ F1 H1 _ st1 (h1.bind.mono fun es' s2 h2' zs F2 H2 e2 r2 st2 => ?_)
  have h2 := h2'.bind1
  have l1 : m ds es' ≠ .bad := fun z => by rw [z] at h2; exact h2
  obtain ⟨as, ra, la, ea⟩ := hp F2 vs zs ds es' (r1.mono e2) r2 (hlen _ _ l1).1 (hlen _ _ l1).2
  refine ⟨by rw [r1.length]; exact (hlen _ _ l1).1, by rw [r2.length]; exact (hlen _ _ l1).2, call_done st2 ra la (hle s2).1 (hle s2).2 ?_⟩
  rw [ea]
  cases q : m ds es' with
  | ok d => rw [q] at h2; exact fun v F' H' ee rv st' => h2 v F' H' ((e1.trans e2).trans ee) rv st'
  | err c d => rw [q] at h2; exact h2
  | bad => exact absurd q l1
theorem je_callKw0 {j : Nat} {ks : List Str} {m : List D → List D → R D} {kws : List Keyword} {nk : τ → R (List D × τ)} (Ca : CalleeD C.T x 0 ks j m) (hj : j ≤ C.k) (hkw : JKw C φ kws nk) (hle : LeAll C φ := by exact le0 rfl)
    (hh : C.hot = false := by rfl) (hg : Gl C.X x := by rfl) (hall : (backToKw pos (keywordEach kws C.X.env)).all (·.1.isSome) = true := by rfl) (hks : (backToKw pos (keywordEach kws C.X.env)).filterMap (·.1) = ks := by rfl)
    (hdb : (x == ("__debug__" : Str)) = false := by decide) (hpl : ((backTo pos (starEach [] C.X.env)).any (·.1) || (backToKw pos (keywordEach kws C.X.env)).any (·.1.isNone)) = false := by rfl) :
    JE C φ (.Call (.Name x p) [] kws pos) (fun s => (nk s).bind fun q2 => (m [] q2.1).bind fun d => .ok (unfre d, q2.2)) := fun g s σ F H Q st h => by
  obtain ⟨k, mm, pick, ⟨f, fd, ps, gg, Fo, hm, hk, hb⟩, hp, hlen⟩ := Ca
  refine ⟨_, pe_callKw0 (fnX g Fo) ((g.room hh).mono hj) hg (by rw [g.mg]; exact hm) (by rw [g.K]; exact hk) (by rw [g.K]; exact hb) (fun σ => passW g σ) pk_wp hall hks hdb hpl, ?_⟩
  refine hkw g s σ F H _ st (h.bind.mono fun es' s2 h2' zs F2 H2 e2 r2 st2 => ?_)
  have h2 := h2'.bind1
  have l1 : m [] es' ≠ .bad := fun z => by rw [z] at h2; exact h2
  obtain ⟨as, ra, la, ea⟩ := hp F2 [] zs [] es' .nil r2 rfl (hlen _ _ l1).2
  refine ⟨rfl, by rw [r2.length]; exact (hlen _ _ l1).2, call_done st2 ra la (hle s2).1 (hle s2).2 ?_⟩
  rw [ea]
  cases q : m [] es' with
  | ok d => rw [q] at h2; exact fun v F' H' ee rv st' => h2 v F' H' (e2.trans ee) rv st'
  | err c d => rw [q] at h2; exact h2
  | bad => exact absurd q l1
/-- f(deal, es) -/
theorem SlotsOk.dealAt {T : Txt} {Fr : Addr → Prop} {F H : Hp} {e : Slots} {σ : L2.St} {i : Nat} {l1 l2 : Addr} {dl : Deal} (h : SlotsOk T Fr F H e σ) (hi : e[i]?.join = some (.deal l1 l2 dl.1 dl.2)) : σ[i]? = some (some (.ref l1)) ∧ DealAt F H l1 l2 dl := by
  obtain ⟨A, h1, _⟩ := h
  have q := h1 i
  rw [hi] at q
  obtain ⟨_, ev, q1, q2, q3, q4, _, _, q7⟩ := q
  refine ⟨?_, q1, q2, q3, q4, q7⟩
  cases z : σ[i]? with
  | none => rw [z] at ev; cases ev
  | some o => rw [z] at ev; rw [show o = some (V.ref l1) from ev]
theorem je_callL {φ : Deal → Slots} (i : Nat) {l1 l2 : Addr} {n j : Nat} {m : List D → List D → Deal → R (D × Deal)} {dn : Str} {dp : Pos} {es : List Expr} {na : Deal → R (List D × Deal)} (Ca : CalleeL C.T x n [] j m) (hj : j ≤ C.k) (ha : JA C φ es na)
    (hd : ∀ dl, (φ dl)[i]?.join = some (.deal l1 l2 dl.1 dl.2) := by intro _; rfl) (hput : ∀ dl dl' : Deal, (φ dl).set i (some (.deal l1 l2 dl'.1 dl'.2)) = φ dl' := by intro _ _; rfl)
    (hN : C.X.N[i]? = some dn := by rfl) (hs : Vis C.X.env.scope dn := by first | exact Or.inl rfl | exact Or.inr (Or.inl rfl) | exact Or.inr (Or.inr rfl))
    (hdb1 : (dn == ("__debug__" : Str)) = false := by decide) (hcd : (dn == ("__classdict__" : Str)) = false := by decide) (hle : LeAll C (fun s => (φ s).set i none) := by exact le0 rfl)
    (hh : C.hot = false := by rfl) (hg : Gl C.X x := by rfl) (hdb : (x == ("__debug__" : Str)) = false := by decide) (he : starEach (.Name dn dp :: es) C.X.env = (false, eval (.Name dn dp) C.X.env) :: starEach es C.X.env := by rfl)
    (hpl : (backTo pos (starEach es C.X.env)).any (·.1) = false := by rfl) :
    JE C φ (.Call (.Name x p) (.Name dn dp :: es) [] pos) (fun dl => (na dl).bind fun q => (m q.1 [] q.2).bind fun r => .ok (unfre r.1, r.2)) := fun g dl σ F H Q st h => by
  obtain ⟨k, mm, pick, ⟨f, fd, ps, gg, Fo, hm, hk, hb⟩, hp, hlen⟩ := Ca
  refine ⟨_, pe_callPos (fnX g Fo) ((g.room hh).mono hj) hg (by rw [g.mg]; exact hm) (by rw [g.K]; exact hk) (by rw [g.K]; exact hb) (fun σ => passW g σ) (pa_cons (pe_var hN hs hdb1 hcd) pa_wp he) hdb he hpl, ?_⟩
  refine ⟨_, (st.env.dealAt (hd dl)).1, ?_⟩
  refine ha g dl σ F H _ st (h.bind.mono fun ds dl1 h1 vs F1 H1 e1 r1 st1 => ?_)
  have h2 := (show Srv C ((m ds [] dl1).bind fun r => .ok (unfre r.1, r.2)) _ from h1).bind
  have l1' : m ds [] dl1 ≠ .bad := fun z => by rw [z] at h2; exact h2
  obtain ⟨ws, as, ew, ra, la, ea⟩ := hp F1 l1 vs [] ds [] r1 .nil (hlen _ _ _ l1').1 rfl
  refine ⟨by rw [List.length_cons, r1.length, (hlen _ _ _ l1').1], rfl, F1, l1, l2, dl1, ws, as, ew, st1.sub, (st1.env.dealAt (hd dl1)).2, ra, la, ?_⟩
  rw [ea]
  cases q : m ds [] dl1 with
  | ok r =>
    obtain ⟨d, dl2⟩ := r
    rw [q] at h2
    intro v F' H' stp sub rv da
    obtain ⟨F2, g2, s3, s2, r2, n2⟩ := rv.frz stp sub
    have da1 := (st1.env.dealAt (hd dl1)).2
    have same : ∀ {a : Addr} {o : HO}, H1 a = some o → F2 a = F' a := fun {a o} e => by
      by_cases c : F2 a = F' a
      · exact c
      · have := n2 a c
        rw [e] at this
        cases this
    exact (show ∀ v F' H', Same F F' → Rp C.T F' v (unfre d) → St8 C (φ dl2) σ F' H' → Q v H' from h2) v F2 H' (e1.trans g2.fz) r2 (by
      have z := st1.deal (hd dl1) g2 s2 ⟨da.h1, da.h2, by rw [same da1.h1]; exact da.f1, by rw [same da1.h2]; exact da.f2, da.ne⟩
      rw [hput] at z
      exact z)
  | err c d =>
    rw [q] at h2
    exact fun cls dd F' H' stp sub eo => h2 σ cls dd F' H' eo ((st1.noDeal (hd dl1) stp sub).le (hle dl1).1 (hle dl1).2)
  | bad => exact absurd q l1'
end
end Pv
set_option Elab.async false
set_option linter.all false
set_option maxRecDepth 100000
/-! Pv5: raise, fields, instances that are made. -/
namespace Pv
open PySem PySem.Spec PyProof.Rows L2

section
variable {C : Ctx} {τ α β : Type} {φ : τ → Slots} {ψ : α → τ → Slots} {χ : β → τ → Slots} {ρ : τ → Slots} {rest : List Stmt} {pos pos2 p : Pos}
/-- raise c(e) -/
theorem jb_raise {c : Str} {e : Expr} {me : τ → R (D × τ)} (hC : ErrC C.T c) (he : JE C φ e me) (hk : 0 ≤ C.k := by exact Nat.zero_le _) (hle : LeAll C φ := by exact le0 rfl) (hh : C.hot = false := by rfl) (hg : Gl C.X c := by rfl) (hdb : (c == ("__debug__" : Str)) = false := by decide)
    (hst : starEach (e :: []) C.X.env = (false, eval e C.X.env) :: starEach [] C.X.env := by rfl) (hpl : (backTo pos (starEach [] C.X.env)).any (·.1) = false := by rfl) :
    JB C φ (.Raise (some (.Call (.Name c p) [e] [] pos)) none pos2 :: rest) ψ χ ρ (fun s => (me s).bind fun q => .err c q.1) := fun g s σ F H Dn st h => by
  obtain ⟨Ca, fI, qual, e1, sup⟩ := hC.ex
  have sup' : PySem.SupX.SupTxt C.X.prog C.X.K C.X.mg c qual Ca fI := by
    rw [g.pr, g.K, g.mg]
    exact sup
  refine ⟨_, pss_cons (ps_raise (g.calm hh) g.tk (pmk_sup sup' (g.room hh).r (pa_cons pe_wp pa_nil hst) hg hdb hst hpl)) pss_never, ?_⟩
  refine he g s σ F H _ st (h.bind.mono fun d s1 h1 v F1 H1 ee r1 st1 => ?_)
  refine ⟨v, rfl, fun a ha => ?_⟩
  have gr := grow_new (o := .xd [(("at" : Str), v)]) st1.sub ha
  exact (show Werr C c d from h1) σ (.ref Ca) (some a) _ _ ⟨hC, Ca, a, v, e1, rfl, rfl, upd_same, r1.mono gr.fz⟩ ((st1.new ha).le (hle s1).1 (hle s1).2)

/-! ### fields -/
structure ClsC (T : Txt) (c f : Str) : Prop where
  ex : ∃ Ca, T.cls c = some Ca ∧ Cls T.K Ca ∧ NoAttr T.K Ca f
def attrD (c f : Str) : D → R D
  | .obj c' fs => if c' = c then (match fs.lookup f with | some d => .ok d | none => .bad) else .bad
  | _ => .bad
theorem attrD_obj (c f c' : Str) (fs : List (Str × D)) : attrD c f (.obj c' fs) = if c' = c then (match fs.lookup f with | some d => .ok d | none => .bad) else .bad := rfl
theorem look_rel {T : Txt} {F : Hp} {f : Str} {d : D} : ∀ {fv : List (Str × V)} {fs : List (Str × D)}, fv.map (·.1) = fs.map (·.1) → Rps T F (fv.map (·.2)) (fs.map (·.2)) → fs.lookup f = some d → ∃ v, fv.lookup f = some v ∧ Rp T F v d
  | [], [], _, _, h => by simp at h
  | [], _ :: _, h, _, _ => by simp at h
  | _ :: _, [], h, _, _ => by simp at h
  | (k, v) :: fv, (k', d') :: fs, hn, r, h => by
    have h1 : k = k' := by simpa using (List.cons.inj hn).1
    subst h1
    cases r with
    | cons rv rr =>
      by_cases c : (f == k) = true
      · rw [List.lookup_cons, c] at h ⊢
        cases h
        exact ⟨v, rfl, rv⟩
      · have c' : (f == k) = false := by simpa using c
        rw [List.lookup_cons, c'] at h ⊢
        exact look_rel (List.cons.inj hn).2 rr h
theorem je_attr (c : Str) {f : Str} {e : Expr} {me : τ → R (D × τ)} (hC : ClsC C.T c f) (he : JE C φ e me) (hb : attributeBase e f C.X.env (eval e C.X.env) = eval e C.X.env := by rfl) :
    JE C φ (.Attribute e f pos) (fun s => (me s).bind fun q => (attrD c f q.1).bind fun d => .ok (d, q.2)) := fun g s σ F H Q st h => by
  obtain ⟨Ca, e1, hcl, hno⟩ := hC.ex
  refine ⟨_, pe_fld pe_wp hb, ?_⟩
  refine he g s σ F H _ st (h.bind.mono fun d s1 h1 v F1 H1 ee r1 st1 => ?_)
  have h2 := h1.bind1
  cases r1 with
  | @obj a C' dx c' fv fs hc hF hn hr =>
    by_cases ec : c' = c
    · subst ec
      rw [e1] at hc
      cases hc
      cases q : fs.lookup f with
      | none =>
        rw [show attrD c' f (.obj c' fs) = .bad by rw [attrD_obj, if_pos rfl, q]] at h2
        exact h2.elim
      | some d =>
        rw [show attrD c' f (.obj c' fs) = .ok d by rw [attrD_obj, if_pos rfl, q]] at h2
        obtain ⟨v, hv, rv⟩ := look_rel hn hr q
        exact ⟨a, _, dx, fv, v, rfl, st1.sub _ _ hF, by rw [g.K]; exact hcl, by rw [g.K]; exact hno, hv, h2 v F1 H1 ee rv st1⟩
    · rw [show attrD c f (.obj c' fs) = .bad by rw [attrD_obj, if_neg ec]] at h2
      exact h2.elim
  | _ => exact h2.elim
/-- self.f = e, self an instance that is being made -/
def putD (f : Str) (d : D) : List (Str × D) → List (Str × D)
  | [] => [(f, d)]
  | (k, x) :: r => if k = f then (k, d) :: r else (k, x) :: putD f d r
theorem putF_names {f : Str} {v : V} {d : D} : ∀ {fv : List (Str × V)} {fs : List (Str × D)}, fv.map (·.1) = fs.map (·.1) → (putF f v fv).map (·.1) = (putD f d fs).map (·.1)
  | [], [], _ => rfl
  | [], _ :: _, h => by simp at h
  | _ :: _, [], h => by simp at h
  | (k, x) :: fv, (k', y) :: fs, h => by
    have h1 : k = k' := by simpa using (List.cons.inj h).1
    subst h1
    have h2 := (List.cons.inj h).2
    unfold putF putD
    by_cases c : k = f
    · rw [if_pos c, if_pos c]
      simp only [List.map_cons]
      exact congrArg _ h2
    · rw [if_neg c, if_neg c]
      simp only [List.map_cons]
      exact congrArg _ (putF_names h2)
theorem putF_vals {T : Txt} {F : Hp} {f : Str} {v : V} {d : D} (r : Rp T F v d) : ∀ {fv : List (Str × V)} {fs : List (Str × D)}, fv.map (·.1) = fs.map (·.1) → Rps T F (fv.map (·.2)) (fs.map (·.2)) → Rps T F ((putF f v fv).map (·.2)) ((putD f d fs).map (·.2))
  | [], [], _, _ => .cons r .nil
  | [], _ :: _, h, _ => by simp at h
  | _ :: _, [], h, _ => by simp at h
  | (k, x) :: fv, (k', y) :: fs, h, rr => by
    have h1 : k = k' := by simpa using (List.cons.inj h).1
    subst h1
    have h2 := (List.cons.inj h).2
    cases rr with
    | cons r0 r1 =>
      unfold putF putD
      by_cases c : k = f
      · rw [if_pos c, if_pos c]
        exact .cons r r1
      · rw [if_neg c, if_neg c]
        exact .cons r0 (putF_vals r h2 r1)
theorem jb_fld (i : Nat) {pp dx : Addr} {c f x : Str} {p1 pos' : Pos} {e : Expr} {fs : τ → List (Str × D)} {me : τ → R (D × τ)} {k : D → τ → R (Fl α β × τ)} (hC : ClsC C.T c f) (he : JE C φ e me) (hi : ∀ s, (φ s)[i]?.join = some (.ins pp dx c (fs s)))
    (hz : ∀ s, (fs s).length < 1000) (hk : ∀ d, JB C (fun s => (φ s).set i (some (.ins pp dx c (putD f d (fs s))))) rest ψ χ ρ (k d))
    (hN : C.X.N[i]? = some x := by rfl) (hs : Vis C.X.env.scope x := by first | exact Or.inl rfl | exact Or.inr (Or.inl rfl) | exact Or.inr (Or.inr rfl)) (hd : (x == ("__debug__" : Str)) = false := by decide) (hcd : (x == ("__classdict__" : Str)) = false := by decide)
    (hsw : swapsWith e (some (.Attribute (.Name x p1) f pos')) pos.line C.X.env = pure false := by rfl) :
    JB C φ (.Assign [.Attribute (.Name x p1) f pos'] e pos :: rest) ψ χ ρ (fun s => (me s).bind fun q => k q.1 q.2) := fun g s σ F H Dn st h => by
  obtain ⟨Ca, e1, hcl, hno⟩ := hC.ex
  refine ⟨_, pss_cons (ps_fld (pe_var hN hs hd hcd) pe_wp hsw) ps_wp, ?_⟩
  refine he g s σ F H _ st (h.bind.mono fun d s1 h1 v F1 H1 ee r1 st1 => ?_)
  obtain ⟨A, ha, _⟩ := id st1.env
  have q := ha i
  rw [hi s1] at q
  obtain ⟨Cb, fv, eA, ev, ec, hH, hn, hr, hF, hFr⟩ := q
  rw [e1] at ec
  cases ec
  have ev' : σ[i]? = some (some (.ref pp)) := by
    cases z : σ[i]? with
    | none => rw [z] at ev; cases ev
    | some o => rw [z] at ev; rw [show o = some (V.ref pp) from ev]
  have hlen : fv.length < 1000 := by
    have := congrArg List.length hn
    rw [List.length_map, List.length_map] at this
    rw [this]
    exact hz s1
  refine ⟨_, ev', pp, Ca, dx, fv, rfl, hH, by rw [g.K]; exact hcl, by rw [g.K]; exact hno, hlen, ?_⟩
  have st2 : St8 C ((φ s1).set i (some (.ins pp dx c (putD f d (fs s1))))) σ F1 (upd H1 pp (.ins Ca dx (putF f v fv))) := by
    refine ⟨⟨st1.step.fz, st1.step.new, fun a o ha hm => ?_, fun a ha => ?_⟩, fun a o ha => ?_, ?_, by rw [List.length_set]; exact st1.len⟩
    · have ne : a ≠ pp := fun z => by
        rcases hFr with z' | z'
        · rw [z, z'] at ha; cases ha
        · exact hm (by rw [z]; exact z')
      rw [upd_ne ne]
      exact st1.step.keep a o ha hm
    · by_cases c : a = pp
      · rw [c, upd_same] at ha; cases ha
      · rw [upd_ne c] at ha
        exact st1.step.dom a ha
    · have ne : a ≠ pp := fun z => by rw [z, hF] at ha; cases ha
      rw [upd_ne ne]
      exact st1.sub a o ha
    · refine st1.env.upd1 (hi s1) ev (fun as z => ?_) (fun _ => ?_)
      · obtain ⟨_, _, z1, _⟩ := z
        exact z1
      · exact ⟨Ca, putF f v fv, rfl, rfl, e1, upd_same, putF_names hn, putF_vals r1 hn hr, hF, hFr⟩
  exact hk d g s1 σ F1 _ Dn st2 (h1.mono fun fl s2 => FlPost.mono ee)
end

/-! ### an instance is made: __init__'s promise, the call -/
def IPost (T : Txt) (p Ca dx : Addr) (F H : Hp) (Q : VK) (E : XK) : R (List (Str × D)) → Prop
  | .ok fs => ∀ fv F' H', Step (fun a => a = p) F H F' H' → Same F' H' → F' p = none → H' p = some (.ins Ca dx fv) → fv.map (·.1) = fs.map (·.1) → Rps T F' (fv.map (·.2)) (fs.map (·.2)) → Q .non H'
  | .err c d => ∀ cls dd F' H', Step (fun a => a = p) F H F' H' → Same F' H' → ErrOk T c d cls dd F' H' → E cls dd H'
  | .bad => False
def SpI (T : Txt) (c : Str) (n : Nat) (m : List D → R (List (Str × D))) : Sp := fun vs H Q E => ∃ F p Ca dx vs' ds, vs = .ref p :: vs' ∧ T.cls c = some Ca ∧ Same F H ∧ F p = none ∧ H p = some (.ins Ca dx []) ∧ Rps T F vs' ds ∧ ds.length = n ∧ IPost T p Ca dx F H Q E (m ds)
def finishI {α β : Type} (r : R (Fl α β × Unit)) (fs : α → List (Str × D)) : R (List (Str × D)) := r.bind fun p => match p.1 with
  | .nx a => .ok (fs a)
  | _ => .bad
theorem fn_okI {T : Txt} {x qual c : Str} {st : Stmt} {f : Addr} {fd : FuncData} {N ps : List Str} {k : Nat} {α : Type} {fs : α → List (Str × D)} {m : List D → R (Fl α Unit × Unit)} (Fn : Fun T.K x qual st f fd) (S : FnScope N ps (defScope st)) (h0 : 0 < ps.length)
    (hbody : ∀ (cdv : Value) (A : Around) (outer : List Env) (s : Shared) (H : Hp) (E : XK) (F : Hp) (p dx : Addr) (ds : List D), ds.length + 1 = ps.length →
      JB (bodyCtx T N qual st f cdv A outer s H E k F (fun a => a = p)) (fun _ : Unit => some (.ins p dx c []) :: startD N.tail ds) (defBody st) (fun a _ => [some (.ins p dx c (fs a))]) (fun _ _ => []) (fun _ => []) (fun _ => m ds)) :
    FnG T.P T.w T.K T.mg T.base (L2.CX T.P T.w) (k + 1) f fd ps (SpI T c (ps.length - 1) fun ds => finishI (m ds) fs) := by
  refine fn_okG Fn S (fun vs H Q E ⟨F, p, Ca, dx, vs', ds, e, _, _, _, _, r, hl, _⟩ => by subst e; show vs'.length + 1 = ps.length; have := r.length; omega) (fun cdv A outer s H vs Q E hr ⟨F, p, Ca, dx, vs', ds, e, hc, sub, hF, hH, r, hl, hp⟩ => ?_)
  subst e
  have hp : IPost T p Ca dx F H Q E (finishI (m ds) fs) := hp
  have hN := scope_le S
  obtain ⟨n0, N', eN⟩ : ∃ n0 N', N = n0 :: N' := by
    cases N with
    | nil => exact absurd (Nat.lt_of_lt_of_le h0 hN) (Nat.lt_irrefl 0)
    | cons a b => exact ⟨a, b, rfl⟩
  subst eN
  have hN' : ds.length ≤ N'.length := by rw [List.length_cons] at hN; omega
  have es : L2.start (n0 :: N') (V.ref p :: vs') = some (.ref p) :: L2.start N' vs' := by
    unfold L2.start
    simp
  have st0 : St8 (bodyCtx T (n0 :: N') qual st f cdv A outer s H E k F (fun a => a = p)) (some (.ins p dx c []) :: startD (n0 :: N').tail ds) (L2.start (n0 :: N') (V.ref p :: vs')) F H := by
    refine ⟨Step.refl _ _ _, sub, ?_, ?_⟩
    · rw [es]
      refine ⟨fun i => if i = 0 then [p] else [], fun i => ?_, fun i j a ha hb => ?_⟩
      · cases i with
        | zero => exact ⟨Ca, [], rfl, rfl, hc, hH, rfl, .nil, hF, .inr rfl⟩
        | succ i =>
          have q := startD_get (N := N') (ds := ds) (i := i)
          show SlotOk T _ F H ((startD N' ds)[i]?.join) ((L2.start N' vs')[i]?.join) []
          rw [q]
          cases z : ds[i]? with
          | none => rfl
          | some d =>
            obtain ⟨v, e1, e2⟩ := r.get z
            rw [start_get (List.getElem?_eq_some_iff.mp e1).1, e1]
            exact ⟨rfl, v, rfl, e2⟩
      · by_cases c : i = 0
        · by_cases c' : j = 0
          · rw [c, c']
          · simp [c'] at hb
        · simp [c] at ha
    · rw [es, List.length_cons, List.length_cons, List.tail_cons, startD_length hN', start_length (by rw [r.length]; exact hN')]
      exact Nat.le_refl _
  refine ⟨_, ps_wp, hbody cdv A outer s H E F p dx ds (by omega) (good_body S hr) () _ F H _ st0 ?_⟩
  cases q : m ds with
  | ok r =>
    obtain ⟨fl, u⟩ := r
    rw [q] at hp
    cases fl with
    | nx a =>
      intro σ F' H' _ st'
      obtain ⟨A', h1, _⟩ := id st'.env
      obtain ⟨Cb, fv, eA, ev, ec, hH', hn, hr', hF', hFr⟩ := h1 0
      rw [hc] at ec
      cases ec
      exact hp fv F' H' st'.step st'.sub hF' hH' hn hr'
    | rt d => exact hp.elim
    | bk b => exact hp.elim
  | err c' d =>
    rw [q] at hp
    exact fun σ cls dd F' H' eo st' => hp cls dd F' H' st'.step st'.sub eo
  | bad =>
    rw [q] at hp
    exact hp.elim
end Pv
set_option Elab.async false
set_option linter.all false
set_option maxRecDepth 100000
/-! Pv6: a class is called; try; what a clause catches. -/
namespace Pv
open PySem PySem.Spec PyProof.Rows L2
theorem run_makeG {X : Cx} {CX : CXT} {k n : Nat} {f Ca : Addr} {fd : FuncData} {ps ks : List Str} {sp : Sp} {E : XK} {pick : List V → List V → List V} {g : List Value → List Value → List Value} {pins : List (Addr × Obj)} {σ : L2.St} {H : Hp} {s : Shared} {Q : VK} {us ws : List Value} {vs zs : List V}
    (M : Mk X.K Ca f) (Fo : FnG X.prog X.w X.K X.mg X.base CX k f fd ps sp) (hr : RoomG (k + 1) X.A) (hb : KBn X.K fd ps (n + 1) ks g pick) (hx : PassesAt CX X σ E) (I : Inv X pins σ H s) (r : Vals vs us) (rz : Vals zs ws) (l1 : vs.length = n) (l2 : zs.length = ks.length)
    (h : ∀ x dx, H x = none → H dx = none → dx ≠ x → sp (pick (.ref x :: vs) zs) (upd (upd H dx (.own x)) x (.ins Ca dx [])) (fun v H2 => v = .non ∧ Q (.ref x) H2) E) :
    wpAny (model X.prog X.w) X.A (call (.ref Ca) us (ks.zip ws)) (EP X pins σ Q) X.xe s := by
  have hq := h (s.heap.objs.size + 1) s.heap.objs.size (I.hok.fresh (Nat.le_succ _)) (I.hok.fresh (Nat.le_refl _)) (Nat.ne_of_lt (Nat.lt_succ_self _))
  have I2 := Inv.made (C := Ca) I
  have rr : Vals (V.ref (s.heap.objs.size + 1) :: vs) (Value.ref (s.heap.objs.size + 1) :: us) := .cons rfl r
  have l3 : (Value.ref (s.heap.objs.size + 1) :: us).length = n + 1 := by rw [List.length_cons, ← r.length, l1]
  have l4 : ws.length = ks.length := by rw [← rz.length]; exact l2
  refine wpAny_call (make_map (f := f) I.kIn M.makes M.init (beq_iff_eq.mp M.fn) (codeAny_mono (Fo.run _ X.stack _ _ ⟨Value.ref (s.heap.objs.size + 1) :: us, ks.zip ws⟩ (g (Value.ref (s.heap.objs.size + 1) :: us) ws) (pick (.ref (s.heap.objs.size + 1) :: vs) zs) _ E (hr.make Ca us (ks.zip ws))
    (I2.env0.make Ca us (ks.zip ws)) (hb.to _ _ ws I2.kIn l3 l4) (hb.rel rr rz) hq) fun o s' hq' => ?_))
  cases o with
  | error e => exact hx pins _ _ e s' I2 hq'
  | ok fl =>
    cases fl with
    | ret u =>
      obtain ⟨v, H', I3, rv, ev, q3⟩ := I2.after hq'
      subst ev
      exact ⟨rv, ⟨V.ref (s.heap.objs.size + 1), H', I3, rfl, q3⟩⟩
    | next => exact False.elim hq'
    | brk => exact False.elim hq'
    | cont => exact False.elim hq'
def tMakeG (Ca : Addr) (sp : Sp) (n : Nat) (ks : List Str) (pick : List V → List V → List V) (E : L2.St → XK) (t tk : TA) : TE := fun σ H Q => t σ H fun vs H1 => tk σ H1 fun zs H2 => vs.length = n ∧ zs.length = ks.length ∧
  ∀ x dx, H2 x = none → H2 dx = none → dx ≠ x → sp (pick (.ref x :: vs) zs) (upd (upd H2 dx (.own x)) x (.ins Ca dx [])) (fun v H3 => v = .non ∧ Q (.ref x) H3) (E σ)
section
variable {X : Cx} {CX : CXT} {k n : Nat} {f Ca : Addr} {fd : FuncData} {ps ks : List Str} {sp : Sp} {E : L2.St → XK} {pick : List V → List V → List V} {g : List Value → List Value → List Value} {x : Str} {p pos : Pos} {e : Expr} {es : List Expr} {kws : List Keyword} {t tk : TA}
theorem pe_makePos (M : Mk X.K Ca f) (Fo : FnG X.prog X.w X.K X.mg X.base CX k f fd ps sp) (hr : RoomG (k + 1) X.A) (hg : Gl X x) (hm : X.mg x = some (.ref Ca)) (hb : KBn X.K fd ps (n + 1) [] g pick) (hx : ∀ σ, PassesAt CX X σ (E σ)) (ha : PA X (e :: es) t)
    (hdb : (x == ("__debug__" : Str)) = false) (he : starEach (e :: es) X.env = (false, eval e X.env) :: starEach es X.env) (hpl : (backTo pos (starEach es X.env)).any (·.1) = false) :
    PE X (.Call (.Name x p) (e :: es) [] pos) (tMakeG Ca sp n [] pick E t tNil) := by
  refine ⟨fun pins s σ H Q I h => ?_⟩
  refine wpAny_Call_Name_kw (ld_glob I hg hm ?_ hdb)
  refine PySem.W.callWith_K (h₀ := X.base) I.ok.mod.kin M.kp (thn (ha.run pos pins s σ H _ I h) fun us s1 ⟨vs, H1, I1, r, l1, l2, q⟩ => ⟨I1.kIn, ?_⟩) he hpl
  exact run_makeG (ws := []) M Fo hr hb (hx σ) I1 r .nil l1 l2 q
theorem pe_makeKw0 (M : Mk X.K Ca f) (Fo : FnG X.prog X.w X.K X.mg X.base CX k f fd ps sp) (hr : RoomG (k + 1) X.A) (hg : Gl X x) (hm : X.mg x = some (.ref Ca)) (hb : KBn X.K fd ps (0 + 1) ks g pick) (hx : ∀ σ, PassesAt CX X σ (E σ)) (hkw : PK X kws tk)
    (hall : (backToKw pos (keywordEach kws X.env)).all (·.1.isSome) = true) (hks : (backToKw pos (keywordEach kws X.env)).filterMap (·.1) = ks) (hdb : (x == ("__debug__" : Str)) = false)
    (hpl : ((backTo pos (starEach [] X.env)).any (·.1) || (backToKw pos (keywordEach kws X.env)).any (·.1.isNone)) = false) :
    PE X (.Call (.Name x p) [] kws pos) (tMakeG Ca sp 0 ks pick E tNil tk) := by
  refine ⟨fun pins s σ H Q I h => ?_⟩
  refine wpAny_Call_Name_kw (ld_glob I hg hm ?_ hdb)
  refine PySem.W.callWith_KW0 (h₀ := X.base) I.ok.mod.kin M.kp hall ?_ hpl
  refine thn (hkw.run pos pins s σ H _ I h) fun ws s2 ⟨zs, H2, I2, rz, l1, l2, q2⟩ => ⟨I2.kIn, ?_⟩
  rw [hks]
  exact run_makeG (us := []) M Fo hr hb (hx σ) I2 .nil rz l1 l2 q2
end
def CalleeI (T : Txt) (c : Str) (n : Nat) (ks : List Str) (j : Nat) (m : List D → List D → R (List (Str × D))) : Prop := ∃ k mm pick Ca f fd ps g, T.cls c = some Ca ∧ T.mg c = some (.ref Ca) ∧ Mk T.K Ca f ∧ FnG T.P T.w T.K T.mg T.base (L2.CX T.P T.w) j f fd ps (SpI T c k mm) ∧ KBn T.K fd ps (n + 1) ks g pick ∧
  (∀ (F : Hp) (p : Addr) (vs zs : List V) (ds es : List D), Rps T F vs ds → Rps T F zs es → ds.length = n → es.length = ks.length → ∃ ws as, pick (.ref p :: vs) zs = .ref p :: ws ∧ Rps T F ws as ∧ as.length = k ∧ mm as = m ds es) ∧ ∀ ds es, m ds es ≠ .bad → ds.length = n ∧ es.length = ks.length
section
variable {C : Ctx} {τ : Type} {φ : τ → Slots} {c : Str} {p pos : Pos}
theorem make_done {σ : L2.St} {F H : Hp} {Q : VK} {env : Slots} {k : Nat} {Ca : Addr} {mm : List D → R (List (Str × D))} {as : List D} {ws : List V} (hc : C.T.cls c = some Ca) (st : St8 C env σ F H) (r : Rps C.T F ws as) (hl : as.length = k) (le : SlotsLe C.eh env) (ll : C.eh.length ≤ env.length)
    (h : Srv1 C (mm as) (fun fs => ∀ v F' H', Same F F' → Rp C.T F' v (.obj c fs) → St8 C env σ F' H' → Q v H')) {x dx : Addr} (hx : H x = none) (hdx : H dx = none) (hne : dx ≠ x) :
    SpI C.T c k mm (.ref x :: ws) (upd (upd H dx (.own x)) x (.ins Ca dx [])) (fun v H2 => v = .non ∧ Q (.ref x) H2) (WE C.W σ) := by
  have s0 : Same H (upd (upd H dx (.own x)) x (.ins Ca dx [])) := fun b o e => by
    rw [upd_ne (ne_of_none e hx), upd_ne (ne_of_none e hdx)]
    exact e
  have fx : F x = none := by
    cases q : F x with
    | none => rfl
    | some o => have z := st.sub _ _ q; rw [hx] at z; cases z
  refine ⟨F, x, Ca, dx, ws, as, rfl, hc, fun b o e => s0 b o (st.sub b o e), fx, upd_same, r, hl, ?_⟩
  have hnone : ∀ {b : Addr}, upd (upd H dx (.own x)) x (.ins Ca dx []) b = none → H b = none := fun {b} e => by
    by_cases c1 : b = x
    · rw [c1]; exact hx
    · by_cases c2 : b = dx
      · rw [c2]; exact hdx
      · rw [upd_ne c1, upd_ne c2] at e
        exact e
  have nwB : ∀ {b : Addr} {o : HO}, Nw (upd (upd H dx (.own x)) x (.ins Ca dx [])) b o → Nw H b o := fun {b o} z => by
    rcases z with z | ⟨z, xs, ht⟩
    · exact .inl (hnone z)
    · subst ht
      by_cases c1 : b = x
      · subst c1; rw [upd_same] at z; cases z
      · rw [upd_ne c1] at z
        by_cases c2 : b = dx
        · subst c2; rw [upd_same] at z; cases z
        · rw [upd_ne c2] at z; exact .inr ⟨z, xs, rfl⟩
  have back : ∀ {F' H' : Hp}, Step (fun a => a = x) F (upd (upd H dx (.own x)) x (.ins Ca dx [])) F' H' → Grow F H F' H' := fun {F' H'} b =>
    ⟨b.fz, fun a o e => (b.new a o e).imp (fun z => z) fun z => .inl (z.elim nwB fun z => .inl (by rw [z]; exact hx)), fun a o e _ => b.keep a o (s0 a o e) (fun z => by rw [z, hx] at e; cases e), fun a e => hnone (b.dom a e)⟩
  cases q : mm as with
  | ok fs =>
    rw [q] at h
    intro fv F' H' b sub hF hH hn hr
    have gr := back b
    have s1 : Same F' (upd F' x (.ins Ca dx fv)) := fun a o e => by rw [upd_ne (ne_of_none e hF)]; exact e
    have gr2 : Grow F H (upd F' x (.ins Ca dx fv)) H' := ⟨gr.fz.trans s1, fun a o e => by
      by_cases c1 : a = x
      · exact .inr (.inl (.inl (by rw [c1]; exact hx)))
      · rw [upd_ne c1] at e
        exact gr.new a o e, gr.keep, gr.dom⟩
    have sub2 : Same (upd F' x (.ins Ca dx fv)) H' := fun a o e => by
      by_cases c1 : a = x
      · subst c1
        rw [upd_same] at e
        cases e
        exact hH
      · rw [upd_ne c1] at e
        exact sub a o e
    exact ⟨rfl, h (.ref x) _ H' gr2.fz (.obj hc upd_same hn (hr.mono s1)) (st.grow gr2 sub2)⟩
  | err c' d =>
    rw [q] at h
    exact fun cls dd F' H' b sub eo => h σ cls dd F' H' eo ((st.grow (back b) sub).le le ll)
  | bad => rw [q] at h; exact h
theorem je_make {n j : Nat} {m : List D → List D → R (List (Str × D))} {e : Expr} {es : List Expr} {na : τ → R (List D × τ)} (Ca : CalleeI C.T c n [] j m) (hj : j + 1 ≤ C.k) (ha : JA C φ (e :: es) na) (hle : LeAll C φ := by exact le0 rfl)
    (hh : C.hot = false := by rfl) (hg : Gl C.X c := by rfl) (hdb : (c == ("__debug__" : Str)) = false := by decide) (he : starEach (e :: es) C.X.env = (false, eval e C.X.env) :: starEach es C.X.env := by rfl) (hpl : (backTo pos (starEach es C.X.env)).any (·.1) = false := by rfl) :
    JE C φ (.Call (.Name c p) (e :: es) [] pos) (fun s => (na s).bind fun q => (m q.1 []).bind fun fs => .ok (.obj c fs, q.2)) := fun g s σ F H Q st h => by
  obtain ⟨k, mm, pick, Cc, f, fd, ps, gg, hc, hm, M, Fo, hb, hp, hlen⟩ := Ca
  refine ⟨_, pe_makePos (by rw [g.K]; exact M) (fnX g Fo) ((g.room hh).mono hj) hg (by rw [g.mg]; exact hm) (by rw [g.K]; exact hb) (fun σ => passW g σ) pa_wp hdb he hpl, ?_⟩
  refine ha g s σ F H _ st (h.bind.mono fun ds s1 h1 vs F1 H1 e1 r1 st1 => ?_)
  have h2 := h1.bind1
  have l1 : m ds [] ≠ .bad := fun z => by rw [z] at h2; exact h2
  refine ⟨by rw [r1.length]; exact (hlen _ _ l1).1, rfl, fun x dx hx hdx hne => ?_⟩
  obtain ⟨ws, as, ew, ra, la, ea⟩ := hp F1 x vs [] ds [] r1 .nil (hlen _ _ l1).1 rfl
  rw [ew]
  refine make_done hc st1 ra la (hle s1).1 (hle s1).2 ?_ hx hdx hne
  rw [ea]
  cases q : m ds [] with
  | ok fs => rw [q] at h2; exact fun v F' H' ee rv st' => h2 v F' H' (e1.trans ee) rv st'
  | err c' d => rw [q] at h2; exact h2
  | bad => exact absurd q l1
theorem je_makeKw0 {j : Nat} {ks : List Str} {m : List D → List D → R (List (Str × D))} {kws : List Keyword} {nk : τ → R (List D × τ)} (Ca : CalleeI C.T c 0 ks j m) (hj : j + 1 ≤ C.k) (hkw : JKw C φ kws nk) (hle : LeAll C φ := by exact le0 rfl)
    (hh : C.hot = false := by rfl) (hg : Gl C.X c := by rfl) (hall : (backToKw pos (keywordEach kws C.X.env)).all (·.1.isSome) = true := by rfl) (hks : (backToKw pos (keywordEach kws C.X.env)).filterMap (·.1) = ks := by rfl)
    (hdb : (c == ("__debug__" : Str)) = false := by decide) (hpl : ((backTo pos (starEach [] C.X.env)).any (·.1) || (backToKw pos (keywordEach kws C.X.env)).any (·.1.isNone)) = false := by rfl) :
    JE C φ (.Call (.Name c p) [] kws pos) (fun s => (nk s).bind fun q => (m [] q.1).bind fun fs => .ok (.obj c fs, q.2)) := fun g s σ F H Q st h => by
  obtain ⟨k, mm, pick, Cc, f, fd, ps, gg, hc, hm, M, Fo, hb, hp, hlen⟩ := Ca
  refine ⟨_, pe_makeKw0 (by rw [g.K]; exact M) (fnX g Fo) ((g.room hh).mono hj) hg (by rw [g.mg]; exact hm) (by rw [g.K]; exact hb) (fun σ => passW g σ) pk_wp hall hks hdb hpl, ?_⟩
  refine hkw g s σ F H _ st (h.bind.mono fun es s1 h1 zs F1 H1 e1 r1 st1 => ?_)
  have h2 := h1.bind1
  have l1 : m [] es ≠ .bad := fun z => by rw [z] at h2; exact h2
  refine ⟨rfl, by rw [r1.length]; exact (hlen _ _ l1).2, fun x dx hx hdx hne => ?_⟩
  obtain ⟨ws, as, ew, ra, la, ea⟩ := hp F1 x [] zs [] es .nil r1 rfl (hlen _ _ l1).2
  rw [ew]
  refine make_done hc st1 ra la (hle s1).1 (hle s1).2 ?_ hx hdx hne
  rw [ea]
  cases q : m [] es with
  | ok fs => rw [q] at h2; exact fun v F' H' ee rv st' => h2 v F' H' (e1.trans ee) rv st'
  | err c' d => rw [q] at h2; exact h2
  | bad => exact absurd q l1
end

/-! ### try -/
def excSub (c k : Str) : Bool := c == k || k == ("SlipsError" : Str)
/-- what a clause names: an own class of error -/
structure ExcN (T : Txt) (k : Str) : Prop where
  ex : ∃ Ca, T.mg k = some (.ref Ca) ∧ ∀ c Cc, T.cls c = some Cc → ErrC T c → PySem.W.exmOne T.K (.ref Cc) (.ref Ca) = some (excSub c k)
/-- a clause: the class, the slot of its name, what its suite does with the kept argument -/
structure Hd (α β : Type) where
  k : Str
  f : D → R (Fl α β × Unit)
def noErr {α : Type} : R α → R α
  | .ok a => .ok a
  | _ => .bad
def handle {α β : Type} : List (Hd α β) → Str → D → R (Fl α β × Unit)
  | [], c, d => .err c d
  | h :: r, c, d => if excSub c h.k = true then noErr (h.f d) else handle r c d
def tryR {α β τ : Type} (b : R (Fl α β × Unit)) (hs : List (Hd α β)) (s : τ) : R (Fl α β × τ) :=
  (match b with | .err c d => handle hs c d | r => r).bind fun p => .ok (p.1, s)
abbrev trCtx (C : Ctx) (pn : List (Addr × Obj)) (xe : Value → Shared → Prop) (W : WX) (ε : Slots) (F H : Hp) : Ctx := { C with X := C.X.tr pn xe, W := W, eh := ε, M := C.Fr, F0 := F, H0 := H, loose := false }
abbrev suiteCtx (C : Ctx) (a : Addr) (oe : Obj) (pn : List (Addr × Obj)) : Ctx := { C with X := C.X.suite a ((a, oe) :: pn), W := fun _ _ _ _ => False, eh := [], hot := true, loose := false }
theorem Good.suite {C : Ctx} (g : Good C) (a : Addr) (oe : Obj) (pn : List (Addr × Obj)) : Good (suiteCtx C a oe pn) :=
  ⟨g.K, g.mg, g.pr, g.w, g.base, fun z => (by cases z), g.nd, fun z => (by cases z), PassesOwn.never, fun _ _ ⟨_, _, _, _, _, _, _, _, _, _, _, _, _, _, _, _, z⟩ => z.elim⟩
theorem Good.tr {C : Ctx} (g : Good C) {pn : List (Addr × Obj)} {xe : Value → Shared → Prop} {W : WX} {ε : Slots} {F H : Hp} (tk : Takes (C.X.tr pn xe) W) (ow : PassesOwn (model C.X.prog C.X.w) C.X.A C.X.env xe) : Good (trCtx C pn xe W ε F H) :=
  ⟨g.K, g.mg, g.pr, g.w, g.base, g.calm, g.nd, g.room, ow, tk⟩
theorem St8.restart {C : Ctx} {e : Slots} {σ : L2.St} {F H : Hp} (st : St8 C e σ F H) {pn : List (Addr × Obj)} {xe : Value → Shared → Prop} {W : WX} {ε : Slots} : St8 (trCtx C pn xe W ε F H) e σ F H := by
  obtain ⟨A, h1, h2⟩ := st.env
  refine ⟨Step.refl _ _ _, st.sub, ⟨A, fun i => ?_, h2⟩, st.len⟩
  have z := h1 i
  cases q : e[i]?.join with
  | none => rw [q] at z; exact z
  | some sv =>
    rw [q] at z
    cases sv with
    | val d => exact z
    | exc _ _ _ _ => exact z
    | tree d =>
      obtain ⟨x, z1, z2, z3, z4⟩ := z
      exact ⟨x, z1, z2, z3, fun a ha => .inr (z4 a ha)⟩
    | own ds =>
      obtain ⟨l, xs, z1, z2, z3, z4, z5, z6⟩ := z
      exact ⟨l, xs, z1, z2, z3, z4, z5, .inr z6⟩
    | deal l1 l2 cs b =>
      obtain ⟨z1, z2, z3, z4, z5, z6, z7, z8, z9⟩ := z
      exact ⟨z1, z2, z3, z4, z5, z6, .inr z7, .inr z8, z9⟩
    | owk ds =>
      obtain ⟨l, xs, z1, z2, z3, zn, z4, z5, z6⟩ := z
      exact ⟨l, xs, z1, z2, z3, zn, z4, z5, .inr z6⟩
    | owt ds =>
      obtain ⟨l, xs, z1, z2, z3, zn, z4, z5, z6⟩ := z
      exact ⟨l, xs, z1, z2, z3, zn, z4, z5, .inr z6⟩
    | ins p dx c fs =>
      obtain ⟨Ca, fv, z1, z2, z3, z4, z5, z6, z7, z8⟩ := z
      exact ⟨Ca, fv, z1, z2, z3, z4, z5, z6, z7, .inr z8⟩
theorem St8.back {C : Ctx} {e0 e : Slots} {σ0 σ : L2.St} {F H F' H' : Hp} (st0 : St8 C e0 σ0 F H) {pn : List (Addr × Obj)} {xe : Value → Shared → Prop} {W : WX} {ε : Slots} (st : St8 (trCtx C pn xe W ε F H) e σ F' H') : St8 C e σ F' H' := by
  have fr : ∀ {a : Addr}, (trCtx C pn xe W ε F H).Fr a → C.Fr a := fun {a} z => by
    rcases z with z | z
    · exact .inl (st0.step.dom a z)
    · exact z
  obtain ⟨A, h1, h2⟩ := st.env
  refine ⟨⟨st0.step.fz.trans st.step.fz, fun a o h => ?_, fun a o h m => ?_, fun a h => st0.step.dom a (st.step.dom a h)⟩, st.sub, ⟨A, fun i => ?_, h2⟩, st.len⟩
  · rcases st.step.new a o h with h | h | h
    · exact st0.step.new a o h
    · exact .inr (st0.step.nw h)
    · exact .inr (h.imp .inl id)
  · exact st.step.keep a o (st0.step.keep a o h m) fun z => by
      rcases z with z | z
      · rw [z] at h; cases h
      · exact m z
  · have z := h1 i
    cases q : e[i]?.join with
    | none => rw [q] at z; exact z
    | some sv =>
      rw [q] at z
      cases sv with
      | val d => exact z
      | exc _ _ _ _ => exact z
      | tree d =>
        obtain ⟨x, z1, z2, z3, z4⟩ := z
        exact ⟨x, z1, z2, z3, fun a ha => fr (z4 a ha)⟩
      | own ds =>
        obtain ⟨l, xs, z1, z2, z3, z4, z5, z6⟩ := z
        exact ⟨l, xs, z1, z2, z3, z4, z5, fr z6⟩
      | deal l1 l2 cs b =>
        obtain ⟨z1, z2, z3, z4, z5, z6, z7, z8, z9⟩ := z
        exact ⟨z1, z2, z3, z4, z5, z6, fr z7, fr z8, z9⟩
      | owk ds =>
        obtain ⟨l, xs, z1, z2, z3, zn, z4, z5, z6⟩ := z
        exact ⟨l, xs, z1, z2, z3, zn, z4, z5, fr z6⟩
      | owt ds =>
        obtain ⟨l, xs, z1, z2, z3, zn, z4, z5, z6⟩ := z
        exact ⟨l, xs, z1, z2, z3, zn, z4, z5, fr z6⟩
      | ins p dx c fs =>
        obtain ⟨Ca, fv, z1, z2, z3, z4, z5, z6, z7, z8⟩ := z
        exact ⟨Ca, fv, z1, z2, z3, z4, z5, z6, z7, fr z8⟩
def FlPost0 (C : Ctx) {τ α β : Type} (F : Hp) (ψ : α → τ → Slots) (χ : β → τ → Slots) (ρ : τ → Slots) (Dn : Ends) : Fl α β → τ → Prop
  | .nx a, s => ∀ σ F' H', Same F F' → St8 C (ψ a s) σ F' H' → Dn.nx σ H'
  | .bk b, s => ∀ σ F' H', Same F F' → St8 C (χ b s) σ F' H' → Dn.bk σ H'
  | .rt d, s => ∀ v σ F' H', Same F F' → RtV C.T C.H0 F' H' v d → St8 C (ρ s) σ F' H' → Dn.rt v H'
/-- the clauses, ε what stands in the slots where they begin -/
def JH (C : Ctx) {α β : Type} (ε : Slots) (ψ : α → Slots) (χ : β → Slots) (ρ : Slots) (hds : List ExceptHandler) (l : List (Hd α β)) : Prop := Good C → ∃ cl : List Cl, ClsOk C.X hds cl ∧
  ∀ (Dn : Ends) (Fb : Hp) (c : Str) (d : D), Srv C (handle l c d) (FlPost0 C Fb (fun a (_ : Unit) => ψ a) (fun b _ => χ b) (fun _ => ρ) Dn) →
    ∀ (σ : L2.St) (cls : Value) (dd : Option Addr) (F H : Hp), Same Fb F → ErrOk C.T c d cls dd F H → St8 C ε σ F H → wCls C.X.K C.W Dn cl cls dd σ H
section
variable {C : Ctx} {α β : Type} {ε : Slots} {ψ : α → Slots} {χ : β → Slots} {ρ : Slots}
theorem jh_nil (h : SlotsLe C.eh ε) (hl : C.eh.length ≤ ε.length) : JH C ε ψ χ ρ [] [] := fun g => ⟨[], .nil, fun Dn Fb c d hs σ cls dd F H _ eo st => hs σ cls dd F H eo (st.le h hl)⟩
theorem St8.ofSuite {C : Ctx} {a : Addr} {oe : Obj} {pn : List (Addr × Obj)} {e : Slots} {σ : L2.St} {F H : Hp} (st : St8 (suiteCtx C a oe pn) e σ F H) : St8 C e σ F H := ⟨st.step, st.sub, st.env, st.len⟩
theorem jh_as (i : Nat) {k n : Str} {np p : Pos} {b : Stmt} {suite : List Stmt} {hds : List ExceptHandler} {l : List (Hd α β)} {f : D → Unit → R (Fl α β × Unit)} (hk : ExcN C.T k)
    (hsu : ∀ c d a dd oe pn, ErrC C.T c → (∀ Ca, C.T.cls c = some Ca → Zc (.ref Ca) (some dd) oe) → (∃ vs, oe.data = .fields vs) → JB (suiteCtx C a oe pn) (fun _ : Unit => ε.set i (some (.exc a dd c d))) (b :: suite) (fun a _ => ψ a) (fun b _ => χ b) (fun _ => ρ) (f d))
    (hψ : ∀ a, (ψ a)[i]?.join = none) (hχ : ∀ b, (χ b)[i]?.join = none) (r : JH C ε ψ χ ρ hds l) (hi : C.X.N[i]? = some n := by rfl) (hln : C.X.env.kindOf n = some .local := by rfl) (hg : Gl C.X k := by rfl) (hdb : (k == ("__debug__" : Str)) = false := by decide) :
    JH C ε ψ χ ρ (.ExceptHandler (some (.Name k np)) (some n) (b :: suite) p :: hds) (⟨k, fun d => f d ()⟩ :: l) := fun g => by
  obtain ⟨Ck, hm, hx⟩ := hk.ex
  obtain ⟨cl, h1, h2⟩ := r g
  refine ⟨⟨.ref Ck, some i, fun a cls d => fun Dn σ H => ∀ oe pn, Zc cls d oe → (∃ vs, oe.data = .fields vs) → wpS (C.X.suite a ((a, oe) :: pn)) (b :: suite) Dn σ H⟩ :: cl,
    .named ⟨hg, hdb, .inl (by rw [g.mg]; exact hm)⟩ hi hln (fun a oe cls d pn hz hf => ⟨fun pins s σ H Dn I h => ps_wp.run pins s σ H Dn I (h oe pn hz hf)⟩) h1, fun Dn Fb c d hs σ cls dd F H sm eo st => ?_⟩
  obtain ⟨he, Ca, ad, v, e1, e2, e3, e4, e5⟩ := id eo
  refine ⟨excSub c k, by rw [e2, g.K]; exact hx c Ca e1 he, fun yes a ha oe pn hz hf => ?_, fun no => h2 Dn Fb c d (by
    have z := hs
    unfold handle at z
    rw [if_neg (by rw [no]; decide)] at z
    exact z) σ cls dd F H sm eo st⟩
  have hs' : Srv C (noErr (f d ())) (FlPost0 C Fb (fun a (_ : Unit) => ψ a) (fun b _ => χ b) (fun _ => ρ) Dn) := by
    have z := hs
    unfold handle at z
    rw [if_pos yes] at z
    exact z
  have st' : St8 (suiteCtx C a oe pn) (ε.set i (some (.exc a ad c d))) (σ.set i (some (.ref a))) F H := by
    refine ⟨st.step, st.sub, ?_, by rw [List.length_set, List.length_set]; exact st.len⟩
    obtain ⟨A, q1, q2⟩ := st.env
    refine ⟨fun j => if j = i then [] else A j, fun j => ?_, fun j k a ha hb => ?_⟩
    · by_cases c' : j = i
      · subst c'
        rw [if_pos rfl]
        by_cases hlt : j < ε.length
        · rw [join_set_self hlt, join_set_self (Nat.lt_of_lt_of_le hlt st.len)]
          exact ⟨rfl, rfl, v, e4, e5⟩
        · rw [List.getElem?_eq_none (by simpa using hlt)]
          rfl
      · rw [join_set_ne (Ne.symm c'), join_set_ne (Ne.symm c'), if_neg c']
        exact q1 j
    · by_cases c' : j = i
      · simp [c'] at ha
      · by_cases c'' : k = i
        · simp [c''] at hb
        · rw [if_neg c'] at ha
          rw [if_neg c''] at hb
          exact q2 j k a ha hb
  have gone : ∀ {e : Slots} {σ' : L2.St} {F' H' : Hp}, e[i]?.join = none → St8 (suiteCtx C a oe pn) e σ' F' H' → St8 C e (σ'.set i none) F' H' := fun {e σ' F' H'} hn z => by
    refine ⟨z.step, z.sub, (z.env.setAny (i := i) (v := none)).le fun j sv hj => ?_, by rw [List.length_set]; exact z.len⟩
    by_cases c' : i = j
    · subst c'
      rw [hn] at hj
      cases hj
    · rw [join_set_ne c']
      exact hj
  refine hsu c d a ad oe pn he (fun Cb hb => ?_) hf (g.suite a oe pn) () _ F H _ st' ?_
  · rw [e1] at hb
    cases hb
    rw [e2, e3] at hz
    exact hz
  · cases q : f d () with
    | ok r =>
      obtain ⟨fl, ⟨⟩⟩ := r
      rw [q] at hs'
      cases fl with
      | nx x => exact fun σ' F' H' ee z => (show FlPost0 C Fb (fun a (_ : Unit) => ψ a) (fun b _ => χ b) (fun _ => ρ) Dn (.nx x) () from hs') _ F' H' (sm.trans (show Same F F' from ee)) (gone (hψ x) z)
      | bk x => exact fun σ' F' H' ee z => (show FlPost0 C Fb (fun a (_ : Unit) => ψ a) (fun b _ => χ b) (fun _ => ρ) Dn (.bk x) () from hs') _ F' H' (sm.trans (show Same F F' from ee)) (gone (hχ x) z)
      | rt x => exact fun w σ' F' H' ee rw' z => (show FlPost0 C Fb (fun a (_ : Unit) => ψ a) (fun b _ => χ b) (fun _ => ρ) Dn (.rt x) () from hs') w σ' F' H' (sm.trans (show Same F F' from ee)) rw' z.ofSuite
    | err c' d' => rw [q] at hs'; exact hs'.elim
    | bad => rw [q] at hs'; exact hs'.elim
theorem jh_bare {k : Str} {np p : Pos} {b : Stmt} {suite : List Stmt} {hds : List ExceptHandler} {l : List (Hd α β)} {f : Unit → R (Fl α β × Unit)} (hk : ExcN C.T k)
    (hsu : ∀ a oe pn, JB (suiteCtx C a oe pn) (fun _ : Unit => ε) (b :: suite) (fun a _ => ψ a) (fun b _ => χ b) (fun _ => ρ) f) (r : JH C ε ψ χ ρ hds l) (hg : Gl C.X k := by rfl) (hdb : (k == ("__debug__" : Str)) = false := by decide) :
    JH C ε ψ χ ρ (.ExceptHandler (some (.Name k np)) none (b :: suite) p :: hds) (⟨k, fun _ => f ()⟩ :: l) := fun g => by
  obtain ⟨Ck, hm, hx⟩ := hk.ex
  obtain ⟨cl, h1, h2⟩ := r g
  refine ⟨⟨.ref Ck, none, fun a cls d => fun Dn σ H => ∀ oe pn, wpS (C.X.suite a ((a, oe) :: pn)) (b :: suite) Dn σ H⟩ :: cl,
    .bare ⟨hg, hdb, .inl (by rw [g.mg]; exact hm)⟩ (fun a oe cls d pn hz hf => ⟨fun pins s σ H Dn I h => ps_wp.run pins s σ H Dn I (h oe pn)⟩) h1, fun Dn Fb c d hs σ cls dd F H sm eo st => ?_⟩
  obtain ⟨he, Ca, ad, v, e1, e2, e3, e4, e5⟩ := id eo
  refine ⟨excSub c k, by rw [e2, g.K]; exact hx c Ca e1 he, fun yes a ha oe pn => ?_, fun no => h2 Dn Fb c d (by
    have z := hs
    unfold handle at z
    rw [if_neg (by rw [no]; decide)] at z
    exact z) σ cls dd F H sm eo st⟩
  have hs' : Srv C (noErr (f ())) (FlPost0 C Fb (fun a (_ : Unit) => ψ a) (fun b _ => χ b) (fun _ => ρ) Dn) := by
    have z := hs
    unfold handle at z
    rw [if_pos yes] at z
    exact z
  refine hsu a oe pn (g.suite a oe pn) () σ F H Dn ⟨st.step, st.sub, st.env, st.len⟩ ?_
  cases q : f () with
  | ok r =>
    obtain ⟨fl, ⟨⟩⟩ := r
    rw [q] at hs'
    cases fl with
    | nx x => exact fun σ' F' H' ee z => (show FlPost0 C Fb (fun a (_ : Unit) => ψ a) (fun b _ => χ b) (fun _ => ρ) Dn (.nx x) () from hs') _ F' H' (sm.trans (show Same F F' from ee)) z.ofSuite
    | bk x => exact fun σ' F' H' ee z => (show FlPost0 C Fb (fun a (_ : Unit) => ψ a) (fun b _ => χ b) (fun _ => ρ) Dn (.bk x) () from hs') _ F' H' (sm.trans (show Same F F' from ee)) z.ofSuite
    | rt x => exact fun w σ' F' H' ee rw' z => (show FlPost0 C Fb (fun a (_ : Unit) => ψ a) (fun b _ => χ b) (fun _ => ρ) Dn (.rt x) () from hs') w σ' F' H' (sm.trans (show Same F F' from ee)) rw' z.ofSuite
  | err c' d' => rw [q] at hs'; exact hs'.elim
  | bad => rw [q] at hs'; exact hs'.elim
/-- err.at within a clause -/
theorem je_at (i : Nat) {τ : Type} {φ : τ → Slots} {a dd : Addr} {oe : Obj} {pn : List (Addr × Obj)} {c n : Str} {d : D} {p1 pos : Pos} (he : ErrC C.T c) (hz : ∀ Ca, C.T.cls c = some Ca → Zc (.ref Ca) (some dd) oe) (hf : ∃ vs, oe.data = .fields vs)
    (hi : ∀ s, (φ s)[i]?.join = some (.exc a dd c d) := by intro _; rfl) (hN : C.X.N[i]? = some n := by rfl) (hs : Vis C.X.env.scope n := by first | exact Or.inl rfl | exact Or.inr (Or.inl rfl) | exact Or.inr (Or.inr rfl)) (hd : (n == ("__debug__" : Str)) = false := by decide) (hcd : (n == ("__classdict__" : Str)) = false := by decide)
    (hb : attributeBase (.Name n p1) "at" C.X.env (eval (.Name n p1) C.X.env) = eval (.Name n p1) C.X.env := by rfl) : JE (suiteCtx C a oe pn) φ (.Attribute (.Name n p1) "at" pos) (fun s => .ok (d, s)) := fun g s σ F H Q st h => by
  obtain ⟨Ca, fI, qual, e1, sup⟩ := he.ex
  have sup' : PySem.SupX.SupTxt C.X.prog C.X.K C.X.mg c qual Ca fI := by
    have k1 : C.X.prog = C.T.P := g.pr
    have k2 : C.X.K = C.T.K := g.K
    have k3 : C.X.mg = C.T.mg := g.mg
    rw [k1, k2, k3]
    exact sup
  obtain ⟨A, q1, _⟩ := id st.env
  have q := q1 i
  rw [hi s] at q
  obtain ⟨_, ev, y, hF, ry⟩ := q
  have ev' : σ[i]? = some (some (.ref a)) := by
    cases z : σ[i]? with
    | none => rw [z] at ev; cases ev
    | some o => rw [z] at ev; rw [show o = some (V.ref a) from ev]
  exact ⟨_, pe_at sup' (hz Ca e1) hf (pe_var hN hs hd hcd) hb, _, ev', rfl, rfl, dd, y, rfl, st.sub _ _ hF, h y F H (Same.refl F) ry st⟩
end
theorem jb_try {C : Ctx} {τ α α' β : Type} {φ : τ → Slots} {ψ : α → τ → Slots} {χ : β → τ → Slots} {ρ : τ → Slots} {rest body : List Stmt} {pos : Pos} {hd0 : ExceptHandler} {hds : List ExceptHandler} (ε : τ → Slots) (ψ1 : α' → τ → Slots) {mb : τ → Unit → R (Fl α' β × Unit)} {hs : τ → List (Hd α' β)} {k : α' → τ → R (Fl α β × τ)}
    (hb : ∀ s W pn xe F H, JB (trCtx C pn xe W (ε s) F H) (fun _ : Unit => φ s) body (fun a _ => ψ1 a s) (fun b _ => χ b s) (fun _ => ρ s) (mb s))
    (hh : ∀ s, JH C (ε s) (fun a => ψ1 a s) (fun b => χ b s) (ρ s) (hd0 :: hds) (hs s)) (hk : ∀ a, JB C (ψ1 a) rest ψ χ ρ (k a))
    (hst : C.X.stack = C.X.env :: C.X.outer := by rfl) (hf : C.X.env.frame = some C.X.env.locals := by rfl) :
    JB C φ (.Try body (hd0 :: hds) [] [] pos :: rest) ψ χ ρ (fun s => flb (tryR (mb s ()) (hs s) s) k) := fun g s σ F H Dn st h => by
  obtain ⟨cl, h1, h2⟩ := hh s g
  refine ⟨_, pss_cons (ps_try (tb := fun W => fun Dn σ H => ∀ pn xe, Takes (C.X.tr pn xe) W → PassesOwn (model C.X.prog C.X.w) C.X.A C.X.env xe → wpS (C.X.tr pn xe) body Dn σ H) hst hf g.nd g.tk
    (fun W pn xe tk ow => ⟨fun pins s σ H Dn I h => ps_wp.run pins s σ H Dn I (h pn xe tk ow)⟩) h1) ps_wp, fun pn xe tk ow => ?_⟩
  have hF := h.flb
  have nxt : ∀ a, Srv C (k a s) (FlPost C F ψ χ ρ Dn) → ∀ σ' F' H', Same F F' → St8 C (ψ1 a s) σ' F' H' → wpS C.X rest Dn σ' H' := fun a z σ' F' H' ee st' => hk a g s σ' F' H' Dn st' (z.mono fun _ _ y => FlPost.mono ee y)
  have post : ∀ fl : Fl α' β, FlK C k (FlPost C F ψ χ ρ Dn) fl s → FlPost0 C F (fun a (_ : Unit) => ψ1 a s) (fun b _ => χ b s) (fun _ => ρ s) { Dn with nx := wpS C.X rest Dn } fl () := fun fl z => by
    cases fl with
    | nx a => exact fun σ' F' H' ee st' => nxt a z σ' F' H' ee st'
    | bk b => exact fun σ' F' H' ee st' => (show FlPost C F ψ χ ρ Dn (.bk b) s from z) σ' F' H' (st.fx.trans ee) st'
    | rt d => exact fun v σ' F' H' ee rv st' => (show FlPost C F ψ χ ρ Dn (.rt d) s from z) v σ' F' H' (st.fx.trans ee) rv st'
  refine hb s _ pn xe F H (g.tr tk ow) () σ F H _ st.restart ?_
  cases q : mb s () with
  | ok r =>
    obtain ⟨fl, ⟨⟩⟩ := r
    rw [q] at hF
    have z := post fl hF
    cases fl with
    | nx a => exact fun σ' F' H' ee st' => z σ' F' H' (show Same F F' from ee) (st.back st')
    | bk b => exact fun σ' F' H' ee st' => z σ' F' H' (show Same F F' from ee) (st.back st')
    | rt d => exact fun v σ' F' H' ee rv st' => z v σ' F' H' (show Same F F' from ee) (rv.weak st.step.dom) (st.back st')
  | err c d =>
    rw [q] at hF
    have hh' : Srv C (handle (hs s) c d) (FlPost0 C F (fun a (_ : Unit) => ψ1 a s) (fun b _ => χ b s) (fun _ => ρ s) { Dn with nx := wpS C.X rest Dn }) := by
      have z : Srv C ((handle (hs s) c d).bind fun p => .ok (p.1, s)) (FlK C k (FlPost C F ψ χ ρ Dn)) := hF
      exact z.bind.mono fun fl _ y => post fl y
    exact fun σ' cls dd F' H' eo st' => h2 _ F c d hh' σ' cls dd F' H' st'.step.fz eo (st.back st')
  | bad => rw [q] at hF; exact hF.elim
end Pv
set_option Elab.async false
set_option linter.all false
set_option maxRecDepth 100000
/-! Pv7: operations and built-in functions on plain data. -/
namespace Pv
open PySem PySem.Spec PyProof.Rows L2

theorem opd_mk {C : Ctx} {op : Value → Value → Sem Value} {g : D → D → R D} (h : Good C → ∀ (F H : Hp) (Q : VK) (vx vy : V) (dx dy : D), Same F H → Rp C.T F vx dx → Rp C.T F vy dy →
    Srv1 C (g dx dy) (fun d => ∀ v F' H', Grow F H F' H' → Same F' H' → Rp C.T F' v d → Q v H') → ∃ r, OpR C.X op r ∧ r vx vy H Q) : OpD C op g := fun gd =>
  ⟨fun x y H Q => ∃ r, OpR C.X op r ∧ r x y H Q, fun pins s σ H x y v u Q I rx ry ⟨r, hr, q⟩ => hr pins s σ H x y v u Q I rx ry q, fun F H Q vx vy dx dy => h gd F H Q vx vy dx dy⟩
/-- what lies already -/
theorem now {C : Ctx} {d : D} {K : D → Prop} (h : Srv1 C (.ok d) K) : K d := h
theorem giveOld {C : Ctx} {F H : Hp} {Q : VK} {v : V} {d : D} (sub : Same F H) (h : ∀ v F' H', Grow F H F' H' → Same F' H' → Rp C.T F' v d → Q v H') (r : Rp C.T F v d) : Q v H := h v F H (Step.refl _ _ _) sub r
theorem giveNew {C : Ctx} {F H : Hp} {Q : VK} {p : Addr} {o : HO} {d : D} (sub : Same F H) (h : ∀ v F' H', Grow F H F' H' → Same F' H' → Rp C.T F' v d → Q v H') (hp : H p = none) (r : Same F (upd F p o) → (upd F p o) p = some o → Rp C.T (upd F p o) (.ref p) d) : Q (.ref p) (upd H p o) :=
  h _ _ _ (grow_new sub hp) (sub_new sub) (r (grow_new sub hp).fz upd_same)

/-- a value where a test stands -/
def chk {α : Type} (b : Bool) (a : α) : R α := if b = true then .ok a else .bad
theorem Srv1.chk {C : Ctx} {α : Type} {b : Bool} {a : α} {K : α → Prop} (h : Srv1 C (Pv.chk b a) K) : b = true ∧ K a := by
  unfold Pv.chk at h
  by_cases c : b = true
  · rw [if_pos c] at h
    exact ⟨c, h⟩
  · rw [if_neg c] at h
    exact h.elim
@[simp] theorem chk_true {α : Type} (a : α) : chk true a = .ok a := rfl
theorem chk_ok {α : Type} {b : Bool} {a : α} (h : b = true) : chk b a = .ok a := by rw [h]; rfl
theorem and2 {a b : Bool} (h : (a && b) = true) : a = true ∧ b = true := (Bool.and_eq_true _ _).mp h
/-! ### numbers -/
def smallI (i : Int) : Bool := decide (-(2 ^ 64) < i) && decide (i < 2 ^ 64)
def opAdd : D → D → R D
  | .int i, .int j => .ok (.int (i + j))
  | .str i, .str j => chk (decide (i.length + j.length ≤ 1000000)) (.str (i ++ j))
  | .lst xs, .lst ys => chk (decide (xs.length + ys.length ≤ 1000000)) (.lst (xs ++ ys))
  | .tup xs, .tup ys => chk (decide (xs.length + ys.length ≤ 1000000)) (.tup (xs ++ ys))
  | _, _ => .bad
def opSub : D → D → R D
  | .int i, .int j => .ok (.int (i - j))
  | _, _ => .bad
def opMul : D → D → R D
  | .int i, .int j => chk (smallI i || smallI j) (.int (i * j))
  | .lst xs, .int k => chk (decide (k < 1000000) && decide (0 ≤ k) && decide (xs.length * k.toNat ≤ 1000000)) (.lst (List.replicate k.toNat xs).flatten)
  | _, _ => .bad
def opDiv : D → D → R D
  | .int i, .int j => chk (decide (0 < j) && decide (j < 1073741824)) (.int (i / j))
  | _, _ => .bad
def opMod : D → D → R D
  | .int i, .int j => chk (decide (0 < j)) (.int (i % j))
  | _, _ => .bad
def opPow : D → D → R D
  | .int i, .int j => chk (decide (0 ≤ j) && decide (j ≤ 1000) && decide (i.natAbs < 2 ^ 64)) (.int (i ^ j.toNat))
  | _, _ => .bad
theorem rep_rps {T : Txt} {F : Hp} {xs : List V} {ds : List D} (r : Rps T F xs ds) : ∀ k : Nat, Rps T F (List.replicate k xs).flatten (List.replicate k ds).flatten
  | 0 => .nil
  | k + 1 => by
    rw [List.replicate_succ, List.replicate_succ, List.flatten_cons, List.flatten_cons]
    exact r.append (rep_rps r k)
section
variable {C : Ctx}
theorem od_add : OpD C (binaryOp .Add) opAdd := opd_mk fun g F H Q vx vy dx dy sub rx ry h => by
  cases rx with
  | int i =>
    cases ry with
    | int j => exact ⟨_, op_add, i, j, rfl, rfl, giveOld sub h (.int _)⟩
    | _ => exact h.elim
  | str i =>
    cases ry with
    | str j =>
      obtain ⟨c, h⟩ := (show Srv1 C (chk _ _) _ from h).chk
      exact ⟨_, op_add_str, i, j, rfl, rfl, sz_small (of_decide_eq_true c), giveOld sub h (.str _)⟩
    | _ => exact h.elim
  | @lst a xs ds ha ra =>
    cases ry with
    | @lst b ys es hb rb =>
      obtain ⟨c, h⟩ := (show Srv1 C (chk _ _) _ from h).chk
      exact ⟨_, op_cat, a, b, xs, ys, rfl, rfl, sub _ _ ha, sub _ _ hb, sz_small (by rw [ra.length, rb.length]; exact of_decide_eq_true c), fun p hp => giveNew sub h hp fun s e => .lst e ((ra.append rb).mono s)⟩
    | _ => exact h.elim
  | @tup a xs ds ha ra =>
    cases ry with
    | @tup b ys es hb rb =>
      obtain ⟨c, h⟩ := (show Srv1 C (chk _ _) _ from h).chk
      refine ⟨_, op_catA, a, b, xs, ys, rfl, rfl, .inl (.inl (sub _ _ ha)), .inl (.inl (sub _ _ hb)), sz_small (by rw [ra.length, rb.length]; exact of_decide_eq_true c), fun e => ?_, fun _ e => ?_, fun _ _ p hp => giveNew sub h hp fun s e => .tup e ((ra.append rb).mono s)⟩
      · subst e
        cases ra
        exact giveOld sub h (.tup hb rb)
      · subst e
        cases rb
        refine giveOld sub h ?_
        rw [List.append_nil]
        exact .tup ha ra
    | _ => exact h.elim
  | _ => exact h.elim
theorem od_sub : OpD C (binaryOp .Sub) opSub := opd_mk fun g F H Q vx vy dx dy sub rx ry h => by
  cases rx with
  | int i =>
    cases ry with
    | int j => exact ⟨_, op_sub, i, j, rfl, rfl, giveOld sub h (.int _)⟩
    | _ => exact h.elim
  | _ => exact h.elim
theorem smallI_of {i : Int} (h : smallI i = true) : -(2 ^ 64) < i ∧ i < 2 ^ 64 := ⟨of_decide_eq_true (and2 h).1, of_decide_eq_true (and2 h).2⟩
theorem od_mul : OpD C (binaryOp .Mult) opMul := opd_mk fun g F H Q vx vy dx dy sub rx ry h => by
  cases rx with
  | int i =>
    cases ry with
    | int j =>
      obtain ⟨c, h⟩ := (show Srv1 C (chk _ _) _ from h).chk
      exact ⟨_, op_mul, i, j, rfl, rfl, ((Bool.or_eq_true _ _).mp c).imp smallI_of smallI_of, giveOld sub h (.int _)⟩
    | _ => exact h.elim
  | @lst a xs ds ha ra =>
    cases ry with
    | int k =>
      obtain ⟨c, h⟩ := (show Srv1 C (chk _ _) _ from h).chk
      have c1 := of_decide_eq_true (and2 (and2 c).1).1
      have c2 := of_decide_eq_true (and2 (and2 c).1).2
      have c3 := of_decide_eq_true (and2 c).2
      exact ⟨_, op_rep, a, k, xs, rfl, rfl, sub _ _ ha, by omega, by omega, sz_small (by rw [ra.length]; exact c3), fun p hp => giveNew sub h hp fun s e => .lst e ((rep_rps ra _).mono s)⟩
    | _ => exact h.elim
  | _ => exact h.elim
theorem od_div : OpD C (binaryOp .FloorDiv) opDiv := opd_mk fun g F H Q vx vy dx dy sub rx ry h => by
  cases rx with
  | int i =>
    cases ry with
    | int j =>
      obtain ⟨c, h⟩ := (show Srv1 C (chk _ _) _ from h).chk
      exact ⟨_, op_fdiv, i, j, rfl, rfl, ⟨of_decide_eq_true (and2 c).1, of_decide_eq_true (and2 c).2⟩, giveOld sub h (.int _)⟩
    | _ => exact h.elim
  | _ => exact h.elim
theorem od_mod : OpD C (binaryOp .Mod) opMod := opd_mk fun g F H Q vx vy dx dy sub rx ry h => by
  cases rx with
  | int i =>
    cases ry with
    | int j =>
      obtain ⟨c, h⟩ := (show Srv1 C (chk _ _) _ from h).chk
      exact ⟨_, op_mod, i, j, rfl, rfl, of_decide_eq_true c, giveOld sub h (.int _)⟩
    | _ => exact h.elim
  | _ => exact h.elim
theorem od_pow : OpD C (binaryOp .Pow) opPow := opd_mk fun g F H Q vx vy dx dy sub rx ry h => by
  cases rx with
  | int i =>
    cases ry with
    | int j =>
      obtain ⟨c, h⟩ := (show Srv1 C (chk _ _) _ from h).chk
      exact ⟨_, op_pow, i, j, rfl, rfl, ⟨of_decide_eq_true (and2 (and2 c).1).1, Int.le_trans (of_decide_eq_true (and2 (and2 c).1).2) (by decide), of_decide_eq_true (and2 c).2⟩, giveOld sub h (.int _)⟩
    | _ => exact h.elim
  | _ => exact h.elim
/-! ### comparisons -/
def opLt : D → D → R D
  | .int i, .int j => .ok (.bl (decide (i < j)))
  | _, _ => .bad
def opLe : D → D → R D
  | .int i, .int j => .ok (.bl (decide (i ≤ j)))
  | _, _ => .bad
def opGt : D → D → R D
  | .int i, .int j => .ok (.bl (decide (j < i)))
  | _, _ => .bad
def opGe : D → D → R D
  | .int i, .int j => .ok (.bl (decide (j ≤ i)))
  | _, _ => .bad
theorem od_lt : OpD C (compareOp .Lt) opLt := opd_mk fun g F H Q vx vy dx dy sub rx ry h => by
  cases rx with
  | int i =>
    cases ry with
    | int j => exact ⟨_, op_lt, i, j, rfl, rfl, giveOld sub h (.bl _)⟩
    | _ => exact h.elim
  | _ => exact h.elim
theorem od_le : OpD C (compareOp .LtE) opLe := opd_mk fun g F H Q vx vy dx dy sub rx ry h => by
  cases rx with
  | int i =>
    cases ry with
    | int j => exact ⟨_, op_le, i, j, rfl, rfl, giveOld sub h (.bl _)⟩
    | _ => exact h.elim
  | _ => exact h.elim
theorem od_gt : OpD C (compareOp .Gt) opGt := opd_mk fun g F H Q vx vy dx dy sub rx ry h => by
  cases rx with
  | int i =>
    cases ry with
    | int j => exact ⟨_, op_gt, i, j, rfl, rfl, giveOld sub h (.bl _)⟩
    | _ => exact h.elim
  | _ => exact h.elim
theorem od_ge : OpD C (compareOp .GtE) opGe := opd_mk fun g F H Q vx vy dx dy sub rx ry h => by
  cases rx with
  | int i =>
    cases ry with
    | int j => exact ⟨_, op_ge, i, j, rfl, rfl, giveOld sub h (.bl _)⟩
    | _ => exact h.elim
  | _ => exact h.elim
def isNon : D → Bool
  | .non => true
  | _ => false
def opIs : D → D → R D
  | d, .non => .ok (.bl (isNon d))
  | _, _ => .bad
def opIsNot : D → D → R D
  | d, .non => .ok (.bl (!isNon d))
  | _, _ => .bad
theorem isNon_rp {T : Txt} {F : Hp} {v : V} {d : D} (r : Rp T F v d) : decide (v = V.non) = isNon d := by
  cases r <;> rfl
theorem od_is : OpD C (compareOp .Is) opIs := opd_mk fun g F H Q vx vy dx dy sub rx ry h => by
  cases ry with
  | non => exact ⟨_, op_isN, rfl, by rw [isNon_rp rx]; exact giveOld sub (by cases dx <;> exact h) (.bl _)⟩
  | _ => cases dx <;> exact h.elim
theorem od_isnot : OpD C (compareOp .IsNot) opIsNot := opd_mk fun g F H Q vx vy dx dy sub rx ry h => by
  cases ry with
  | non => exact ⟨_, op_notN, rfl, by rw [isNon_rp rx]; exact giveOld sub (by cases dx <;> exact h) (.bl _)⟩
  | _ => cases dx <;> exact h.elim

/-! ### == and != -/
end
mutual
def toP : D → Option PyData
  | .non => some .none
  | .bl b => some (.bool b)
  | .int i => some (.int i)
  | .str s => some (.str s)
  | .tup xs => (toPs xs).map .tuple
  | .tpN xs => (toPs xs).map .tuple
  | .lst xs => (toPs xs).map .list
  | .dct _ => none
  | .dcT _ => none
  | .obj _ _ => none
  | .cache => none
  | .scr _ => none
  | .etp => none
  | .fre _ => none
def toPs : List D → Option (List PyData)
  | [] => some []
  | x :: xs => match toP x, toPs xs with
    | some p, some ps => some (p :: ps)
    | _, _ => none
end
theorem toP_tup {ds : List D} {p : PyData} (e : toP (.tup ds) = some p) : ∃ ps, toPs ds = some ps ∧ p = .tuple ps := by
  rw [toP] at e
  obtain ⟨ps, h1, h2⟩ := Option.map_eq_some_iff.mp e
  exact ⟨ps, h1, h2.symm⟩
theorem toP_tpN {ds : List D} {p : PyData} (e : toP (.tpN ds) = some p) : ∃ ps, toPs ds = some ps ∧ p = .tuple ps := by
  rw [toP] at e
  obtain ⟨ps, h1, h2⟩ := Option.map_eq_some_iff.mp e
  exact ⟨ps, h1, h2.symm⟩
theorem toP_lst {ds : List D} {p : PyData} (e : toP (.lst ds) = some p) : ∃ ps, toPs ds = some ps ∧ p = .list ps := by
  rw [toP] at e
  obtain ⟨ps, h1, h2⟩ := Option.map_eq_some_iff.mp e
  exact ⟨ps, h1, h2.symm⟩
theorem toPs_cons {d : D} {ds : List D} {ps : List PyData} (e : toPs (d :: ds) = some ps) : ∃ p r, toP d = some p ∧ toPs ds = some r ∧ ps = p :: r := by
  rw [toPs] at e
  cases q : toP d with
  | none => rw [q] at e; cases e
  | some p =>
    cases q' : toPs ds with
    | none => rw [q, q'] at e; cases e
    | some r => rw [q, q'] at e; cases e; exact ⟨p, r, rfl, rfl, rfl⟩
theorem dp_all {T : Txt} {F H : Hp} (sub : Same F H) {vs : List V} {ds : List D} : Rps T F vs ds → (∀ v d p, d ∈ ds → Rp T F v d → toP d = some p → Dp T.K H v p) → ∀ ps, toPs ds = some ps → DpAll T.K H vs ps := by
  induction ds generalizing vs with
  | nil =>
    intro r _ ps e
    cases r
    rw [toPs] at e
    cases e
    exact .nil
  | cons d ds ih =>
    intro r h ps e
    cases r with
    | cons rv rr =>
      obtain ⟨p, q, e1, e2, e3⟩ := toPs_cons e
      subst e3
      exact .cons (h _ d p (List.Mem.head _) rv e1) (ih rr (fun v d p hd => h v d p (List.Mem.tail _ hd)) q e2)
theorem Rp.dp {T : Txt} {F H : Hp} (sub : Same F H) : ∀ (d : D) {v : V} {p : PyData}, Rp T F v d → toP d = some p → Dp T.K H v p
  | .non, _, _, r, e => by cases r; rw [toP] at e; cases e; exact .non
  | .bl b, _, _, r, e => by cases r; rw [toP] at e; cases e; exact .bl b
  | .int b, _, _, r, e => by cases r; rw [toP] at e; cases e; exact .int b
  | .str b, _, _, r, e => by cases r; rw [toP] at e; cases e; exact .str b
  | .tup ds, _, _, r, e => by
    obtain ⟨ps, e1, e2⟩ := toP_tup e
    subst e2
    cases r with
    | tup h rr => exact .tup (.inl (.inl (sub _ _ h))) (dp_all sub rr (fun v d p hd rv ep => Rp.dp sub d rv ep) ps e1)
  | .tpN ds, _, _, r, e => by
    obtain ⟨ps, e1, e2⟩ := toP_tpN e
    subst e2
    cases r with
    | tpN h _ _ rr => exact .tup (.inl (.inr ⟨_, sub _ _ h⟩)) (dp_all sub rr (fun v d p hd rv ep => Rp.dp sub d rv ep) ps e1)
  | .lst ds, _, _, r, e => by
    obtain ⟨ps, e1, e2⟩ := toP_lst e
    subst e2
    cases r with
    | lst h rr => exact .lst (.inl (.inl (sub _ _ h))) (dp_all sub rr (fun v d p hd rv ep => Rp.dp sub d rv ep) ps e1)
  | .dct _, _, _, _, e => by rw [toP] at e; cases e
  | .dcT _, _, _, _, e => by rw [toP] at e; cases e
  | .obj _ _, _, _, _, e => by rw [toP] at e; cases e
  | .cache, _, _, _, e => by rw [toP] at e; cases e
  | .scr _, _, _, _, e => by rw [toP] at e; cases e
  | .etp, _, _, _, e => by rw [toP] at e; cases e
  | .fre _, _, _, _, e => by rw [toP] at e; cases e
termination_by d => sizeOf d
decreasing_by
  all_goals simp_wf
  all_goals (have := List.sizeOf_lt_of_mem hd; omega)
def opEq (a b : D) : R D := match a, b with
  | .str x, .str y => .ok (.bl (decide (x = y)))
  | a, b => match toP a, toP b with
  | some p, some q => chk (SeqAt.shaped p && SeqAt.shaped q) (.bl (PyData.eqv p q))
  | _, _ => .bad
def opNe (a b : D) : R D := match a, b with
  | .str x, .str y => .ok (.bl (!decide (x = y)))
  | a, b => match toP a, toP b with
  | some p, some q => chk (SeqAt.shaped p && SeqAt.shaped q) (.bl (!PyData.eqv p q))
  | _, _ => .bad
def flatD : D → Bool
  | .non => true
  | .bl _ => true
  | .int _ => true
  | .str _ => true
  | _ => false
def eqF : D → D → Bool
  | .non, .non => true
  | .bl a, .bl b => a == b
  | .bl a, .int b => (if a then 1 else 0) == b
  | .int a, .bl b => a == (if b then 1 else 0)
  | .int a, .int b => a == b
  | .str a, .str b => a == b
  | _, _ => false
def opIn (a b : D) : R D := (asItems b).bind fun ds => chk (flatD a && ds.all flatD) (.bl (ds.any fun y => eqF y a))
def opNotIn (a b : D) : R D := (asItems b).bind fun ds => chk (flatD a && ds.all flatD) (.bl (!ds.any fun y => eqF y a))
theorem flat_rp {T : Txt} {F : Hp} {v : V} {d : D} (r : Rp T F v d) (h : flatD d = true) : flatV v = true := by
  cases r <;> first | rfl | cases h
theorem flats_rp {T : Txt} {F : Hp} : ∀ {vs : List V} {ds : List D}, Rps T F vs ds → ds.all flatD = true → vs.all flatV = true
  | _, _, .nil, _ => rfl
  | _, _, .cons h r, e => by
    rw [List.all_cons, Bool.and_eq_true] at e
    rw [List.all_cons, flat_rp h e.1, flats_rp r e.2]
    rfl
theorem eqF_rp {T : Txt} {F : Hp} {v w : V} {d e : D} (r : Rp T F v d) (s : Rp T F w e) (h : flatD d = true) (k : flatD e = true) : eqV v w = eqF d e := by
  cases r <;> cases s <;> first | rfl | cases h | cases k
theorem inF_rp {T : Txt} {F : Hp} {w : V} {e : D} (s : Rp T F w e) (k : flatD e = true) : ∀ {vs : List V} {ds : List D}, Rps T F vs ds → ds.all flatD = true → inV w vs = ds.any fun y => eqF y e
  | _, _, .nil, _ => rfl
  | _, _, .cons (vs := vs) h r, q => by
    rw [List.all_cons, Bool.and_eq_true] at q
    rw [List.any_cons, ← eqF_rp h s q.1 k, ← inF_rp s k r q.2]
    rfl
section
variable {C : Ctx}
theorem Good.u64 {C : Ctx} (g : Good C) (hh : C.hot = false) : C.X.A.units + 64 < cLine := (g.room hh).r.units
theorem od_eq (hh : C.hot = false := by rfl) : OpD C (compareOp .Eq) opEq := opd_mk fun g F H Q vx vy dx dy sub rx ry h => by
  unfold opEq at h
  split at h
  · rename_i x y
    cases rx; cases ry
    exact ⟨_, op_eq, rfl, by rw [show decide (V.str x = V.str y) = decide (x = y) by simp]; exact giveOld sub h (.bl _)⟩
  · rename_i x1 x2 _
    skip
    cases q : toP dx with
    | none => rw [q] at h; exact h.elim
    | some p =>
      cases q' : toP dy with
      | none => rw [q, q'] at h; exact h.elim
      | some p' =>
        rw [q, q'] at h
        obtain ⟨c, h⟩ := (show Srv1 C (chk _ _) _ from h).chk
        exact ⟨_, op_eqD (g.u64 hh), p, p', by rw [g.K]; exact Rp.dp sub _ rx q, by rw [g.K]; exact Rp.dp sub _ ry q', (and2 c).1, (and2 c).2, giveOld sub h (.bl _)⟩
theorem od_ne (hh : C.hot = false := by rfl) : OpD C (compareOp .NotEq) opNe := opd_mk fun g F H Q vx vy dx dy sub rx ry h => by
  unfold opNe at h
  split at h
  · rename_i x y
    cases rx; cases ry
    exact ⟨_, op_ne, rfl, by rw [show decide (V.str x = V.str y) = decide (x = y) by simp]; exact giveOld sub h (.bl _)⟩
  · rename_i x1 x2 _
    skip
    cases q : toP dx with
    | none => rw [q] at h; exact h.elim
    | some p =>
      cases q' : toP dy with
      | none => rw [q, q'] at h; exact h.elim
      | some p' =>
        rw [q, q'] at h
        obtain ⟨c, h⟩ := (show Srv1 C (chk _ _) _ from h).chk
        exact ⟨_, op_neD (g.u64 hh), p, p', by rw [g.K]; exact Rp.dp sub _ rx q, by rw [g.K]; exact Rp.dp sub _ ry q', (and2 c).1, (and2 c).2, giveOld sub h (.bl _)⟩
theorem seq_items {T : Txt} {F H : Hp} {v : V} {d : D} {ds : List D} (sub : Same F H) (r : Rp T F v d) (e : asItems d = .ok ds) : ∃ p xs, v = .ref p ∧ (SqL T.K H p xs ∨ SqT T.K H p xs) ∧ Rps T F xs ds := by
  cases r with
  | tup h rr => cases e; exact ⟨_, _, rfl, .inr (.inl (.inl (sub _ _ h))), rr⟩
  | lst h rr => cases e; exact ⟨_, _, rfl, .inl (.inl (.inl (sub _ _ h))), rr⟩
  | tpN h _ _ rr => cases e; exact ⟨_, _, rfl, .inr (.inl (.inr ⟨_, sub _ _ h⟩)), rr⟩
  | scr h => cases e; exact ⟨_, _, rfl, .inl (sql_same sub h.sql), Rps.ints _⟩
  | etp h => cases e; exact ⟨_, _, rfl, .inr h.sqt, .nil⟩
  | _ => cases e
theorem Srv1.bind {α β : Type} {r : R α} {f : α → R β} {K : β → Prop} (h : Srv1 C (r.bind f) K) : Srv1 C r (fun a => Srv1 C (f a) K) := by
  cases r with
  | ok p => exact h
  | err c d => exact h
  | bad => exact h
theorem asItems_ne {d : D} {c : Str} {e : D} : asItems d ≠ .err c e := by cases d <;> exact fun z => nomatch z
theorem od_in : OpD C (compareOp .In) opIn := opd_mk fun g F H Q vx vy dx dy sub rx ry h => by
  have h := Srv1.bind h
  cases q : asItems dy with
  | bad => rw [q] at h; exact h.elim
  | err c e => exact absurd q asItems_ne
  | ok ds =>
    rw [q] at h
    obtain ⟨c, h⟩ := (show Srv1 C (chk _ _) _ from h).chk
    obtain ⟨p, xs, rfl, hs, rr⟩ := seq_items sub ry q
    exact ⟨_, op_in_seq, p, xs, rfl, by rw [g.K]; exact hs, flat_rp rx (and2 c).1, flats_rp rr (and2 c).2, by rw [inF_rp rx (and2 c).1 rr (and2 c).2]; exact giveOld sub h (.bl _)⟩
theorem od_notIn : OpD C (compareOp .NotIn) opNotIn := opd_mk fun g F H Q vx vy dx dy sub rx ry h => by
  have h := Srv1.bind h
  cases q : asItems dy with
  | bad => rw [q] at h; exact h.elim
  | err c e => exact absurd q asItems_ne
  | ok ds =>
    rw [q] at h
    obtain ⟨c, h⟩ := (show Srv1 C (chk _ _) _ from h).chk
    obtain ⟨p, xs, rfl, hs, rr⟩ := seq_items sub ry q
    exact ⟨_, op_notIn_seq, p, xs, rfl, by rw [g.K]; exact hs, flat_rp rx (and2 c).1, flats_rp rr (and2 c).2, by rw [inF_rp rx (and2 c).1 rr (and2 c).2]; exact giveOld sub h (.bl _)⟩
end
end Pv
set_option Elab.async false
set_option linter.all false
set_option maxRecDepth 100000
/-! Pv8: items, slices, built-in functions, isinstance, repr. -/
namespace Pv
open PySem PySem.Spec PyProof.Rows L2

/-! ### items -/
theorem atI_rps {T : Txt} {F : Hp} {xs : List V} {ds : List D} {i : Int} {d : D} (r : Rps T F xs ds) (h : atI ds i = some d) : ∃ v, atI xs i = some v ∧ Rp T F v d := by
  unfold atI at h ⊢
  rw [r.length]
  cases q : ixN ds.length i with
  | none => rw [q] at h; cases h
  | some j =>
    rw [q] at h
    exact r.get h
def opt {α : Type} : Option α → R α
  | some a => .ok a
  | none => .bad
theorem Srv1.opt {C : Ctx} {α : Type} {o : Option α} {K : α → Prop} (h : Srv1 C (Pv.opt o) K) : ∃ a, o = some a ∧ K a := by
  cases o with
  | none => exact h.elim
  | some a => exact ⟨a, rfl, h⟩
/-! ### keys that are tuples -/
def keyQ : D → Option Key
  | .int i => some (.inl i)
  | .str x => some (.inr x)
  | _ => none
def keysQ : List D → Option (List Key)
  | [] => some []
  | d :: ds => match keyQ d, keysQ ds with
    | some k, some ks => some (k :: ks)
    | _, _ => none
def keyT : D → Option (List Key)
  | .tup ds => keysQ ds
  | _ => none
def dKey : Key → D
  | .inl i => .int i
  | .inr x => .str x
def valG {κ : Type} [DecidableEq κ] (kvs : List (κ × D)) (k : κ) : Option D := (kvs.find? fun kv => decide (kv.1 = k)).map (·.2)
def putG {κ : Type} [DecidableEq κ] (kvs : List (κ × D)) (k : κ) (v : D) : List (κ × D) :=
  if (kvs.any fun kv => decide (kv.1 = k)) = true then kvs.map (fun kv => if kv.1 = k then (kv.1, v) else kv) else kvs ++ [(k, v)]
theorem keysQ_rp {T : Txt} {F : Hp} : ∀ {vs : List V} {ds : List D} {ks : List Key}, Rps T F vs ds → keysQ ds = some ks → vs = ks.map kV
  | _, [], _, .nil, e => by cases e; rfl
  | _, d :: ds, ks, .cons h r, e => by
    unfold keysQ at e
    cases q : keyQ d with
    | none => rw [q] at e; cases e
    | some k =>
      cases q' : keysQ ds with
      | none => rw [q, q'] at e; cases e
      | some ks' =>
        rw [q, q'] at e
        cases e
        rw [List.map_cons, ← keysQ_rp r q']
        congr 1
        cases h <;> cases q <;> rfl
theorem keyT_rp {T : Txt} {F : Hp} {v : V} {d : D} {ks : List Key} (r : Rp T F v d) (e : keyT d = some ks) : ∃ b, v = .ref b ∧ F b = some (.tup (ks.map kV)) := by
  cases r with
  | @tup a xs ds h rr => exact ⟨a, rfl, by rw [← keysQ_rp rr e]; exact h⟩
  | _ => cases e
theorem valG_rel {κ : Type} [DecidableEq κ] {T : Txt} {F : Hp} {k : κ} : ∀ {kv : List (κ × V)} {kd : List (κ × D)}, kv.map (·.1) = kd.map (·.1) → Rps T F (kv.map (·.2)) (kd.map (·.2)) → (valV kv k = none ∧ valG kd k = none) ∨ ∃ v d, valV kv k = some v ∧ valG kd k = some d ∧ Rp T F v d
  | [], [], _, _ => .inl ⟨rfl, rfl⟩
  | [], _ :: _, h, _ => by simp at h
  | _ :: _, [], h, _ => by simp at h
  | (a, x) :: kv, (b, y) :: kd, h, r => by
    have e : a = b := by simpa using (List.cons.inj h).1
    subst e
    cases r with
    | cons r1 r2 =>
      by_cases c : a = k
      · exact .inr ⟨x, y, by simp [valV, c], by simp [valG, c], r1⟩
      · have := valG_rel (k := k) (List.cons.inj h).2 r2
        simpa [valV, valG, c] using this
theorem putG_rel {κ : Type} [DecidableEq κ] {T : Txt} {F : Hp} {k : κ} {v : V} {d : D} (rv : Rp T F v d) {kv : List (κ × V)} {kd : List (κ × D)} (h : kv.map (·.1) = kd.map (·.1)) (r : Rps T F (kv.map (·.2)) (kd.map (·.2))) :
    (putK kv k v).map (·.1) = (putG kd k d).map (·.1) ∧ Rps T F ((putK kv k v).map (·.2)) ((putG kd k d).map (·.2)) := by
  have anyEq : ∀ {kv : List (κ × V)} {kd : List (κ × D)}, kv.map (·.1) = kd.map (·.1) → (kv.any fun q => decide (q.1 = k)) = kd.any fun q => decide (q.1 = k) := fun {kv kd} h => by
    have e1 : (kv.any fun q => decide (q.1 = k)) = (kv.map (·.1)).any fun a => decide (a = k) := by rw [List.any_map]; rfl
    have e2 : (kd.any fun q => decide (q.1 = k)) = (kd.map (·.1)).any fun a => decide (a = k) := by rw [List.any_map]; rfl
    rw [e1, e2, h]
  unfold putK putG
  rw [anyEq h]
  by_cases c : (kd.any fun q => decide (q.1 = k)) = true
  · rw [if_pos c, if_pos c]
    clear c
    induction kv generalizing kd with
    | nil =>
      cases kd with
      | nil => exact ⟨rfl, .nil⟩
      | cons _ _ => simp at h
    | cons a kv ih =>
      cases kd with
      | nil => simp at h
      | cons b kd =>
        have e : a.1 = b.1 := by simpa using (List.cons.inj h).1
        cases r with
        | cons r1 r2 =>
          obtain ⟨i1, i2⟩ := ih (List.cons.inj h).2 r2
          simp only [List.map_cons]
          by_cases c : b.1 = k
          · rw [if_pos c, if_pos (e.trans c)]
            exact ⟨by rw [i1]; simp [e], .cons rv i2⟩
          · rw [if_neg c, if_neg (by rw [e]; exact c)]
            exact ⟨by rw [i1, e], .cons r1 i2⟩
  · rw [if_neg c, if_neg c]
    exact ⟨by simp [h], by rw [List.map_append, List.map_append]; exact r.append (Rps.one rv)⟩
def opIx : D → D → R D
  | .dcT kvs, k => (opt (keyT k)).bind fun ks => opt (valG kvs ks)
  | .lst xs, .int i => opt (atI xs i)
  | .tup xs, .int i => opt (atI xs i)
  | .tpN xs, .int i => opt (atI xs i)
  | .scr ns, .int i => opt ((atI ns i).map .int)
  | .str z, .int i => (chk (decide (z.length ≤ 1000000)) ()).bind fun _ => opt ((atI z.cps.toList i).map fun c => D.str ⟨#[c]⟩)
  | _, _ => .bad
theorem atI_map {α β : Type} (f : α → β) (xs : List α) (i : Int) : atI (xs.map f) i = (atI xs i).map f := by
  unfold atI
  rw [List.length_map]
  cases ixN xs.length i with
  | none => rfl
  | some j => exact List.getElem?_map
section
variable {C : Ctx} {τ : Type} {φ : τ → Slots}
theorem ix_ok (g : Good C) {F H : Hp} {Q : VK} {vx vy : V} {dx dy : D} (sub : Same F H) (hn : ∀ kvs, dx ≠ .dcT kvs) (rx : Rp C.T F vx dx) (ry : Rp C.T F vy dy) (h : Srv1 C (opIx dx dy) (fun d => ∀ v F' H', Grow F H F' H' → Same F' H' → Rp C.T F' v d → Q v H')) : rIx C.X.K vx vy H Q := by
  rw [g.K]
  cases ry with
  | int i =>
    cases rx with
    | lst hl rl =>
      obtain ⟨d, e, k⟩ := Srv1.opt (show Srv1 C (opt _) _ from h)
      obtain ⟨v, e', r⟩ := atI_rps rl e
      exact .inl ⟨_, _, i, v, rfl, rfl, .inl (.inl (sub _ _ hl)), e', giveOld sub k r⟩
    | tup hl rl =>
      obtain ⟨d, e, k⟩ := Srv1.opt (show Srv1 C (opt _) _ from h)
      obtain ⟨v, e', r⟩ := atI_rps rl e
      exact .inr (.inl ⟨_, _, i, v, rfl, rfl, .inl (.inl (sub _ _ hl)), e', giveOld sub k r⟩)
    | tpN hl _ _ rl =>
      obtain ⟨d, e, k⟩ := Srv1.opt (show Srv1 C (opt _) _ from h)
      obtain ⟨v, e', r⟩ := atI_rps rl e
      exact .inr (.inl ⟨_, _, i, v, rfl, rfl, .inl (.inr ⟨_, sub _ _ hl⟩), e', giveOld sub k r⟩)
    | scr hl =>
      obtain ⟨d, e, k⟩ := Srv1.opt (show Srv1 C (opt _) _ from h)
      rw [← atI_map] at e
      obtain ⟨v, e', r⟩ := atI_rps (Rps.ints _) e
      exact .inl ⟨_, _, i, v, rfl, rfl, sql_same sub hl.sql, e', giveOld sub k r⟩
    | str z =>
      obtain ⟨c, k⟩ := (Srv1.bind (show Srv1 C (R.bind _ _) _ from h)).chk
      obtain ⟨d, e, k⟩ := Srv1.opt k
      obtain ⟨ch, e', rfl⟩ := Option.map_eq_some_iff.mp e
      exact .inr (.inr ⟨z, i, ch, rfl, rfl, sz_small (of_decide_eq_true c), e', giveOld sub k (.str _)⟩)
    | dcT _ _ _ => exact absurd rfl (hn _)
    | _ => exact h.elim
  | _ => cases rx <;> first | exact absurd rfl (hn _) | exact h.elim
theorem je_ix {a b : Expr} {pos : Pos} {ma mb : τ → R (D × τ)} (ha : JE C φ a ma) (hb : JE C φ b mb) (hs : PlainIx b := by intro _ _; rfl) (hh : C.hot = false := by rfl) :
    JE C φ (.Subscript a b pos) (fun s => (ma s).bind fun p => (mb p.2).bind fun q => (opIx p.1 q.1).bind fun d => .ok (d, q.2)) := fun gd s σ F H Q st h => by
  by_cases hd : ∃ kvs s1, ma s = .ok (.dcT kvs, s1)
  · obtain ⟨kvs, s1, e⟩ := hd
    have h0 := h.bind
    rw [e] at h0
    have hu := gd.u64 hh
    refine ⟨_, pe_dget (by omega) pe_wp pe_wp hs, ha gd s σ F H _ st ?_⟩
    rw [e]
    intro vx F1 H1 e1 r1 st1
    refine hb gd s1 σ F1 H1 _ st1 ((show Srv C ((mb s1).bind _) _ from h0).bind.mono fun dy s2 h2 vy F2 H2 e2 r2 st2 => ?_)
    obtain ⟨ks, ek, h3⟩ := (show Srv C (((opt (keyT dy)).bind fun ks => opt (valG kvs ks)).bind fun d => .ok (d, s2)) _ from h2).bind1.bind.opt
    obtain ⟨d, ed, h4⟩ := h3.opt
    obtain ⟨b, rfl, hb1⟩ := keyT_rp r2 ek
    cases r1 with
    | @dcT l kv _ hl hn rr =>
      rcases valG_rel (k := ks) hn rr with ⟨_, z⟩ | ⟨v, d', z1, z2, z3⟩
      · rw [ed] at z; cases z
      · rw [ed] at z2
        cases z2
        exact ⟨_, v, rfl, by rw [← z1]; exact .t (st2.sub _ _ (e2 _ _ hl)) (st2.sub _ _ hb1), (show ∀ v F' H', Same F F' → Rp C.T F' v d → St8 C (φ s2) σ F' H' → Q v H' from h4) v F2 H2 (e1.trans e2) (z3.mono e2) st2⟩
  have h := h.bind
  cases e : ma s with
  | bad =>
    rw [e] at h
    exact h.elim
  | err c d =>
    refine ⟨_, pe_ix ix_seq pe_wp pe_wp hs, ha gd s σ F H _ st ?_⟩
    rw [e] at h ⊢
    exact h
  | ok p =>
    obtain ⟨dx, s1⟩ := p
    refine ⟨_, pe_ix ix_seq pe_wp pe_wp hs, ha gd s σ F H _ st ?_⟩
    rw [e] at h ⊢
    intro vx F1 H1 e1 r1 st1
    refine hb gd s1 σ F1 H1 _ st1 ((show Srv C ((mb s1).bind _) _ from h).bind.mono fun dy s2 h2 vy F2 H2 e2 r2 st2 => ?_)
    refine ix_ok gd st2.sub (fun kvs z => hd ⟨kvs, s1, by rw [e, z]⟩) (r1.mono e2) r2 ?_
    have h3 := (show Srv C ((opIx dx dy).bind fun d => .ok (d, s2)) _ from h2).bind1
    cases q : opIx dx dy with
    | ok d => rw [q] at h3; exact fun v F' H' gr sub rv => (show ∀ v F' H', Same F F' → Rp C.T F' v d → St8 C (φ s2) σ F' H' → Q v H' from h3) v F' H' ((e1.trans e2).trans gr.fz) rv (st2.grow gr sub)
    | err c d => rw [q] at h3; exact h3
    | bad => rw [q] at h3; exact h3

/-! ### slices -/
def JO (C : Ctx) {τ : Type} (φ : τ → Slots) (e : Option Expr) (m : τ → R (Option Int × τ)) : Prop := Good C → ∀ (s : τ) (σ : L2.St) (F H : Hp) (Q : Option Int → Hp → Prop), St8 C (φ s) σ F H →
  Srv C (m s) (fun o s' => ∀ F' H', Same F F' → St8 C (φ s') σ F' H' → Q o H') → ∃ t, PO C.X e t ∧ t σ H Q
def wpO (X : Cx) (e : Option Expr) : TO := fun σ H Q => ∃ t, PO X e t ∧ t σ H Q
theorem po_wp {X : Cx} {e : Option Expr} : PO X e (wpO X e) := ⟨fun pins s σ H Q I ⟨t, h, q⟩ => h.run pins s σ H Q I q⟩
theorem jo_none : JO C φ none (fun s => .ok (none, s)) := fun g s σ F H Q st h => ⟨_, po_none, h F H (Same.refl F) st⟩
def asInt : D → R Int
  | .int i => .ok i
  | _ => .bad
theorem jo_some {e : Expr} {m : τ → R (D × τ)} (he : JE C φ e m) : JO C φ (some e) (fun s => (m s).bind fun p => (asInt p.1).bind fun i => .ok (some i, p.2)) := fun g s σ F H Q st h => by
  refine ⟨_, po_some pe_wp, ?_⟩
  refine he g s σ F H _ st (h.bind.mono fun d s1 h1 v F1 H1 e1 r1 st1 => ?_)
  have h2 := h1.bind1
  cases r1 with
  | int i => exact ⟨i, rfl, h2 F1 H1 e1 st1⟩
  | _ => exact h2.elim
def cutL {α : Type} (xs : List α) (lo hi : Option Int) : List α := (xs.drop (HT.sIx xs.length 0 lo)).take (HT.sIx xs.length xs.length hi - HT.sIx xs.length 0 lo)
def opCut : D → Option Int → Option Int → R D
  | .lst xs, lo, hi => .ok (.lst (cutL xs lo hi))
  | .tup xs, lo, hi => .ok (.tup (cutL xs lo hi))
  | .scr ns, lo, hi => .ok (.lst ((cutL ns lo hi).map .int))
  | .str z, lo, hi => chk (decide (z.length ≤ 1000000)) (.str (cutS z lo hi))
  | _, _, _ => .bad
theorem cutL_rps {T : Txt} {F : Hp} {xs : List V} {ds : List D} (r : Rps T F xs ds) (lo hi : Option Int) : Rps T F (cutV xs lo hi) (cutL ds lo hi) := by
  unfold cutV cutL
  rw [r.length]
  exact (r.drop _).take _
theorem cutL_map {α β : Type} (f : α → β) (xs : List α) (lo hi : Option Int) : cutL (xs.map f) lo hi = (cutL xs lo hi).map f := by
  unfold cutL
  rw [List.length_map, List.map_take, List.map_drop]
theorem cutL_whole {α : Type} {xs : List α} {lo hi : Option Int} (h : HT.sIx xs.length 0 lo = 0 ∧ HT.sIx xs.length xs.length hi = xs.length) : cutL xs lo hi = xs := by
  unfold cutL
  rw [h.1, h.2, List.drop_zero, Nat.sub_zero, List.take_length]
def wpSl (X : Cx) : V → Option Int → Option Int → Hp → VK → Prop := fun x lo hi H Q => ∃ r, SlR X r ∧ r x lo hi H Q
theorem sl_wp {X : Cx} : SlR X (wpSl X) := fun pins s σ H x v vl vu lo hi sl Q I rx hs pl pu ⟨r, hr, q⟩ => hr pins s σ H x v vl vu lo hi sl Q I rx hs pl pu q
theorem cut_ok (g : Good C) {F H : Hp} {Q : VK} {vx : V} {dx : D} {lo hi : Option Int} (sub : Same F H) (rx : Rp C.T F vx dx) (h : Srv1 C (opCut dx lo hi) (fun d => ∀ v F' H', Grow F H F' H' → Same F' H' → Rp C.T F' v d → Q v H')) : wpSl C.X vx lo hi H Q := by
  cases rx with
  | lst hl rl => exact ⟨_, sl_list, _, _, rfl, .inl (.inl (sub _ _ hl)), fun p hp => giveNew sub h hp fun s e => .lst e ((cutL_rps rl lo hi).mono s)⟩
  | @tup a xs ds hl rl =>
    refine ⟨_, sl_tupA, _, _, rfl, .inl (.inl (sub _ _ hl)), fun hw => ?_, fun _ p hp => giveNew sub h hp fun s e => .tup e ((cutL_rps rl lo hi).mono s)⟩
    have hw' : cutL ds lo hi = ds := cutL_whole (by rw [← rl.length]; exact hw)
    have h' : ∀ v F' H', Grow F H F' H' → Same F' H' → Rp C.T F' v (.tup (cutL ds lo hi)) → Q v H' := h
    rw [hw'] at h'
    exact giveOld sub h' (.tup hl rl)
  | @scr a ns hl =>
    refine ⟨_, sl_list, _, _, rfl, by rw [g.K]; exact sql_same sub hl.sql, fun p hp => giveNew sub h hp fun s e => .lst e ?_⟩
    rw [← cutL_map]
    exact (cutL_rps (Rps.ints _) lo hi).mono s
  | str z =>
    obtain ⟨c, h⟩ := (show Srv1 C (chk _ _) _ from h).chk
    exact ⟨_, sl_str, z, rfl, sz_small (of_decide_eq_true c), giveOld sub h (.str _)⟩
  | _ => exact h.elim
theorem je_cut {a : Expr} {lo hi : Option Expr} {pos p2 : Pos} {ma : τ → R (D × τ)} {ml mh : τ → R (Option Int × τ)} (ha : JE C φ a ma) (hl : JO C φ lo ml) (hh : JO C φ hi mh) :
    JE C φ (.Subscript a (.Slice lo hi none p2) pos) (fun s => (ma s).bind fun p => (ml p.2).bind fun q => (mh q.2).bind fun r => (opCut p.1 q.1 r.1).bind fun d => .ok (d, r.2)) := fun gd s σ F H Q st h => by
  refine ⟨_, pe_slice sl_wp pe_wp po_wp po_wp, ?_⟩
  refine ha gd s σ F H _ st (h.bind.mono fun dx s1 h1 vx F1 H1 e1 r1 st1 => ?_)
  refine hl gd s1 σ F1 H1 _ st1 (h1.bind.mono fun l s2 h2 F2 H2 e2 st2 => ?_)
  refine hh gd s2 σ F2 H2 _ st2 (h2.bind.mono fun u s3 h3 F3 H3 e3 st3 => ?_)
  refine cut_ok gd st3.sub (r1.mono (e2.trans e3)) ?_
  have h4 := h3.bind1
  cases q : opCut dx l u with
  | ok d => rw [q] at h4; exact fun v F' H' gr sub rv => h4 v F' H' (((e1.trans e2).trans e3).trans gr.fz) rv (st3.grow gr sub)
  | err c d => rw [q] at h4; exact h4
  | bad => rw [q] at h4; exact h4
/-- xs[::-1], xs a list -/
def opRev : D → R D
  | .lst xs => .ok (.lst xs.reverse)
  | _ => .bad
theorem je_rev {a : Expr} {k : Nat} {p1 p2 p3 pos : Pos} {ma : τ → R (D × τ)} (ha : JE C φ a ma) :
    JE C φ (.Subscript a (.Slice none none (some (.UnaryOp .USub (.Constant (.int 1) k p1) p2)) p3) pos) (fun s => (ma s).bind fun p => (opRev p.1).bind fun d => .ok (d, p.2)) := fun gd s σ F H Q st h => by
  refine ⟨_, pe_revL pe_wp, ?_⟩
  refine ha gd s σ F H _ st (h.bind.mono fun dx s1 h1 vx F1 H1 e1 r1 st1 => ?_)
  have h2 := h1.bind1
  cases r1 with
  | @lst a xs ds hl rl =>
    refine ⟨a, xs, rfl, .inl (.inl (st1.sub _ _ hl)), fun p hp => ?_⟩
    have h3 : ∀ v F' H', Same F F' → Rp C.T F' v (.lst ds.reverse) → St8 C (φ s1) σ F' H' → Q v H' := h2
    have gr := grow_new (o := .lst xs.reverse) st1.sub hp
    exact h3 _ _ _ (e1.trans gr.fz) (.lst upd_same (rl.reverse.mono gr.fz)) (st1.new hp)
  | _ => exact h2.elim

/-! ### built-in functions -/
def CallD (C : Ctx) (f : Value) (g : List D → R D) : Prop := Good C → ∃ r, CallR C.X f r ∧ ∀ (F H : Hp) (Q : VK) (vs : List V) (ds : List D), Same F H → Rps C.T F vs ds →
  Srv1 C (g ds) (fun d => ∀ v F' H', Grow F H F' H' → Same F' H' → Rp C.T F' v d → Q v H') → r vs H Q
theorem cald_mk {f : Value} {g : List D → R D} (h : Good C → ∀ (F H : Hp) (Q : VK) (vs : List V) (ds : List D), Same F H → Rps C.T F vs ds →
    Srv1 C (g ds) (fun d => ∀ v F' H', Grow F H F' H' → Same F' H' → Rp C.T F' v d → Q v H') → ∃ r, CallR C.X f r ∧ r vs H Q) : CallD C f g := fun gd =>
  ⟨fun xs H Q => ∃ r, CallR C.X f r ∧ r xs H Q, fun pins s σ H xs us Q I rx ⟨r, hr, q⟩ => hr pins s σ H xs us Q I rx q, fun F H Q vs ds => h gd F H Q vs ds⟩
theorem bcall {X : Cx} {e : Expr} {es : List Expr} {pos p : Pos} {x : Str} {f : Value} {r : List V → Hp → VK → Prop} {t : TA} (hf : (∃ id, f = .builtin id) ∨ ∃ T, f = .type T) (hc : CallR X f r) (hg : Gl X x) (hm : X.mg x = none) (hv : bootBuiltins x = some f) (ha : PA X (e :: es) t)
    (hn : x ≠ "__name__") (hdb : (x == ("__debug__" : Str)) = false) (he : starEach (e :: es) X.env = (false, eval e X.env) :: starEach es X.env) (hpl : (backTo pos (starEach es X.env)).any (·.1) = false) : PE X (.Call (.Name x p) (e :: es) [] pos) (tCB r t) := by
  rcases hf with ⟨id, rfl⟩ | ⟨T, rfl⟩
  · exact pe_callB hc hg hm hv ha hn hdb he hpl
  · exact pe_callTy hc hg hm hv ha hn hdb he hpl
theorem je_blt {x : Str} {f : Value} {g : List D → R D} {p pos : Pos} {e : Expr} {es : List Expr} {na : τ → R (List D × τ)} (hm : C.T.mg x = none) (hc : CallD C f g) (ha : JA C φ (e :: es) na)
    (hf : (∃ id, f = .builtin id) ∨ ∃ T, f = .type T := by first | exact .inl ⟨_, rfl⟩ | exact .inr ⟨_, rfl⟩) (hv : bootBuiltins x = some f := by decide +kernel) (hg : Gl C.X x := by rfl) (hn : x ≠ "__name__" := by decide) (hdb : (x == ("__debug__" : Str)) = false := by decide)
    (he : starEach (e :: es) C.X.env = (false, eval e C.X.env) :: starEach es C.X.env := by rfl) (hpl : (backTo pos (starEach es C.X.env)).any (·.1) = false := by rfl) :
    JE C φ (.Call (.Name x p) (e :: es) [] pos) (fun s => (na s).bind fun q => (g q.1).bind fun d => .ok (d, q.2)) := fun gd s σ F H Q st h => by
  obtain ⟨r, hr, hv'⟩ := hc gd
  refine ⟨_, bcall hf hr hg (by rw [gd.mg]; exact hm) hv pa_wp hn hdb he hpl, ?_⟩
  refine ha gd s σ F H _ st (h.bind.mono fun ds s1 h1 vs F1 H1 e1 r1 st1 => ?_)
  refine hv' F1 H1 Q vs ds st1.sub r1 ?_
  have h2 := h1.bind1
  cases q : g ds with
  | ok d => rw [q] at h2; exact fun v F' H' gr sub rv => h2 v F' H' (e1.trans gr.fz) rv (st1.grow gr sub)
  | err c d => rw [q] at h2; exact h2
  | bad => rw [q] at h2; exact h2
def d1 (f : D → R D) : List D → R D
  | [d] => f d
  | _ => .bad
def d2 (f : D → D → R D) : List D → R D
  | [d, e] => f d e
  | _ => .bad
theorem cald1 {f : Value} {g : D → R D} (h : Good C → ∀ (F H : Hp) (Q : VK) (v : V) (d : D), Same F H → Rp C.T F v d →
    Srv1 C (g d) (fun d => ∀ v F' H', Grow F H F' H' → Same F' H' → Rp C.T F' v d → Q v H') → ∃ r, CallR C.X f r ∧ r [v] H Q) : CallD C f (d1 g) := cald_mk fun gd F H Q vs ds sub r hs => by
  cases r with
  | nil => exact hs.elim
  | cons rv rr =>
    cases rr with
    | nil => exact h gd F H Q _ _ sub rv hs
    | cons _ _ => exact hs.elim
theorem cald2 {f : Value} {g : D → D → R D} (h : Good C → ∀ (F H : Hp) (Q : VK) (v w : V) (d e : D), Same F H → Rp C.T F v d → Rp C.T F w e →
    Srv1 C (g d e) (fun d => ∀ v F' H', Grow F H F' H' → Same F' H' → Rp C.T F' v d → Q v H') → ∃ r, CallR C.X f r ∧ r [v, w] H Q) : CallD C f (d2 g) := cald_mk fun gd F H Q vs ds sub r hs => by
  cases r with
  | nil => exact hs.elim
  | cons rv rr =>
    cases rr with
    | nil => exact hs.elim
    | cons rw rr =>
      cases rr with
      | nil => exact h gd F H Q _ _ _ _ sub rv rw hs
      | cons _ _ => exact hs.elim
/-- len -/
def bLen : D → R D
  | .lst xs => .ok (.int xs.length)
  | .tup xs => .ok (.int xs.length)
  | .tpN xs => .ok (.int xs.length)
  | .scr xs => .ok (.int xs.length)
  | .str z => chk (decide (z.length ≤ 1000000)) (.int z.length)
  | _ => .bad
theorem cd_len : CallD C (.builtin "len") (d1 bLen) := cald1 fun g F H Q v d sub r h => by
  cases r with
  | @lst a xs ds hl rl => exact ⟨_, call_len_seq, a, xs, rfl, .inl (.inl (.inl (sub _ _ hl))), by rw [rl.length]; exact giveOld sub h (.int _)⟩
  | @tup a xs ds hl rl => exact ⟨_, call_len_seq, a, xs, rfl, .inr (.inl (.inl (sub _ _ hl))), by rw [rl.length]; exact giveOld sub h (.int _)⟩
  | @tpN a o xs ds hl _ _ rl => exact ⟨_, call_len_seq, a, xs, rfl, .inr (.inl (.inr ⟨_, sub _ _ hl⟩)), by rw [rl.length]; exact giveOld sub h (.int _)⟩
  | @scr a ns hl => exact ⟨_, call_len_seq, a, _, rfl, .inl (by rw [g.K]; exact sql_same sub hl.sql), by rw [List.length_map]; exact giveOld sub h (.int _)⟩
  | str z =>
    obtain ⟨c, h⟩ := (show Srv1 C (chk _ _) _ from h).chk
    exact ⟨_, call_len_str, z, rfl, sz_small (of_decide_eq_true c), giveOld sub h (.int _)⟩
  | _ => exact h.elim
def bAbs : D → R D
  | .int i => .ok (.int (if i < 0 then -i else i))
  | _ => .bad
theorem cd_abs : CallD C (.builtin "abs") (d1 bAbs) := cald1 fun g F H Q v d sub r h => by
  cases r with
  | int i => exact ⟨_, call_abs, i, rfl, giveOld sub h (.int _)⟩
  | _ => exact h.elim
def bInt : D → R D
  | .int i => .ok (.int i)
  | .bl b => .ok (.int (if b = true then 1 else 0))
  | _ => .bad
theorem cd_int : CallD C (.type "int") (d1 bInt) := cald1 fun g F H Q v d sub r h => by
  cases r with
  | int i => exact ⟨_, call_int1, .inl ⟨i, rfl, giveOld sub h (.int _)⟩⟩
  | bl b => exact ⟨_, call_int1, .inr ⟨b, rfl, giveOld sub h (.int _)⟩⟩
  | _ => exact h.elim
def bMax2 : D → D → R D
  | .int i, .int j => .ok (.int (if j > i then j else i))
  | _, _ => .bad
def bMin2 : D → D → R D
  | .int i, .int j => .ok (.int (if j < i then j else i))
  | _, _ => .bad
theorem cd_max2 (hh : C.hot = false := by rfl) : CallD C (.builtin "max") (d2 bMax2) := cald2 fun g F H Q v w d e sub r r' h => by
  cases r with
  | int i =>
    cases r' with
    | int j => exact ⟨_, call_max2 (g.calm hh), i, j, rfl, giveOld sub h (.int _)⟩
    | _ => exact h.elim
  | _ => exact h.elim
theorem cd_min2 (hh : C.hot = false := by rfl) : CallD C (.builtin "min") (d2 bMin2) := cald2 fun g F H Q v w d e sub r r' h => by
  cases r with
  | int i =>
    cases r' with
    | int j => exact ⟨_, call_min2 (g.calm hh), i, j, rfl, giveOld sub h (.int _)⟩
    | _ => exact h.elim
  | _ => exact h.elim
/-- tuple(xs), list(xs) -/
def bTuple : D → R D
  | .lst xs => .ok (.tup xs)
  | .tup xs => .ok (.tup xs)
  | .tpN xs => .ok (.tpN xs)
  | .scr ns => .ok (.tup (ns.map .int))
  | .etp => .ok .etp
  | _ => .bad
def bList : D → R D
  | .lst xs => .ok (.lst xs)
  | .tup xs => .ok (.lst xs)
  | .tpN xs => .ok (.lst xs)
  | .scr ns => .ok (.lst (ns.map .int))
  | .dcT kvs => .ok (.lst (kvs.map fun kv => .tup (kv.1.map dKey)))
  | _ => .bad
theorem Rps.keys {T : Txt} {F : Hp} : ∀ ks : List Key, Rps T F (ks.map kV) (ks.map dKey)
  | [] => .nil
  | .inl i :: ks => .cons (.int i) (Rps.keys ks)
  | .inr x :: ks => .cons (.str x) (Rps.keys ks)
/-- keys that stand are known from now on -/
theorem adopt {T : Txt} {F H : Hp} {kv : List (List Key × V)} {kvs : List (List Key × D)} {bs : List Addr} (sub : Same F H) (hk : IsKeys H kv bs) (hn : kv.map (·.1) = kvs.map (·.1)) :
    ∃ F1, Grow F H F1 H ∧ Same F1 H ∧ Rps T F1 (bs.map V.ref) (kvs.map fun kv => D.tup (kv.1.map dKey)) := by
  classical
  have hb : ∀ b ∈ bs, ∃ xs, H b = some (.tup xs) := by
    clear hn
    unfold IsKeys at hk
    induction hk with
    | nil => intro b hb; cases hb
    | @cons p b ps bs h t ih =>
      intro c hc
      rcases List.mem_cons.mp hc with rfl | hc
      · exact ⟨_, h⟩
      · exact ih c hc
  let F1 : Hp := fun b => if b ∈ bs then H b else F b
  have s1 : Same F F1 := fun a o h => by
    show (if a ∈ bs then H a else F a) = some o
    split
    · exact sub a o h
    · exact h
  refine ⟨F1, ⟨s1, fun a o h => ?_, fun a o h _ => h, fun a h => h⟩, fun a o h => ?_, ?_⟩
  · by_cases c : a ∈ bs
    · have h' := (show F1 a = H a from if_pos c).symm.trans h
      obtain ⟨xs, e⟩ := hb a c
      rw [e] at h'
      cases h'
      exact .inr (.inl (.inr ⟨e, xs, rfl⟩))
    · exact .inl ((show F1 a = F a from if_neg c).symm.trans h)
  · by_cases c : a ∈ bs
    · exact (show F1 a = H a from if_pos c).symm.trans h
    · exact sub a o ((show F1 a = F a from if_neg c).symm.trans h)
  · have key : ∀ b ∈ bs, F1 b = H b := fun b hb => if_pos hb
    generalize F1 = G at key
    clear s1
    unfold IsKeys at hk
    induction hk generalizing kvs with
    | nil =>
      cases kvs with
      | nil => exact .nil
      | cons _ _ => simp at hn
    | @cons p b ps bs h t ih =>
      cases kvs with
      | nil => simp at hn
      | cons q kvs =>
        have e : p.1 = q.1 := by simpa using (List.cons.inj hn).1
        refine .cons (.tup ((key b (List.mem_cons_self ..)).trans h) (by rw [e]; exact Rps.keys _)) (ih (List.cons.inj hn).2 (fun c hc => hb c (List.mem_cons_of_mem _ hc)) fun c hc => key c (List.mem_cons_of_mem _ hc))
theorem cd_tuple : CallD C (.type "tuple") (d1 bTuple) := cald1 fun g F H Q v d sub r h => by
  cases r with
  | @lst a xs ds hl rl => exact ⟨_, call_tuple_of, a, xs, rfl, .inl ⟨.inl (.inl (sub _ _ hl)), fun p hp => giveNew sub h hp fun s e => .tup e (rl.mono s)⟩⟩
  | @tup a xs ds hl rl => exact ⟨_, call_tuple_of, a, xs, rfl, .inr ⟨.inl (.inl (sub _ _ hl)), giveOld sub h (.tup hl rl)⟩⟩
  | @tpN a o xs ds hl c n rl => exact ⟨_, call_tuple_of, a, xs, rfl, .inr ⟨.inl (.inr ⟨_, sub _ _ hl⟩), giveOld sub h (.tpN hl c n rl)⟩⟩
  | @scr a ns hl => exact ⟨_, call_tuple_of, a, _, rfl, .inl ⟨by rw [g.K]; exact sql_same sub hl.sql, fun p hp => giveNew sub h hp fun s e => .tup e (Rps.ints _)⟩⟩
  | @etp a hl => exact ⟨_, call_tuple_of, a, _, rfl, .inr ⟨by rw [g.K]; exact hl.sqt, giveOld sub h (.etp hl)⟩⟩
  | _ => exact h.elim
/-- tuple(xs), whose object is known -/
def bTupleN : D → R D
  | .lst xs => .ok (.tpN xs)
  | _ => .bad
theorem call_tupleN {X : Cx} : CallR X (.type "tuple") (fun xs H Q => ∃ p ys, xs = [.ref p] ∧ SqL X.K H p ys ∧ ∀ l o, H l = none → o.cls = .type "tuple" → o.dict = none → Q (.ref l) (upd H l (.frz o (.tup ys)))) := by
  intro pins s σ H xs us Q I r h
  obtain ⟨p, ys, rfl, hq, q⟩ := h
  obtain ⟨u, rfl, rx⟩ := r.one
  cases rx
  obtain ⟨its, r', pl, hz⟩ := I.list hq
  have hlen := r'.length
  refine call_tuple_list pl.isList (fun h2 kp => ?_) (by simp only [List.size_toArray] <;> omega)
  have J : Inv X pins σ H { s with heap := h2 } := I.kept (t' := s.toks) kp
  have J2 : Inv X pins σ (upd H h2.objs.size (.frz { cls := .type "tuple", data := .seq its.toArray } (.tup ys))) { s with heap := h2.push { cls := .type "tuple", data := .seq its.toArray } } :=
    J.laid (t' := s.toks) (fun b o e => Heap.get?_push_of_some _ e) (Nat.le_refl _) (show ObjOk X.prog X.w _ _ _ (.frz _ (.tup ys)) from ⟨Heap.get?_push_size _ rfl, hz, its, r', IsTup.new _ _⟩)
  exact ⟨.ref h2.objs.size, _, J2, rfl, q _ _ (J.hok.fresh (Nat.le_refl _)) rfl rfl⟩
theorem cd_tupleN : CallD C (.type "tuple") (d1 bTupleN) := cald1 fun g F H Q v d sub r h => by
  cases r with
  | @lst a xs ds hl rl => exact ⟨_, call_tupleN, a, xs, rfl, .inl (.inl (sub _ _ hl)), fun p o hp hc hd => giveNew sub h hp fun s e => .tpN e hc hd (rl.mono s)⟩
  | _ => exact h.elim
theorem cd_list (hh : C.hot = false := by rfl) : CallD C (.type "list") (d1 bList) := cald1 fun g F H Q v d sub r h => by
  cases r with
  | @dcT a kv kvs hl hn rl =>
    refine ⟨_, call_list_dT (g.calm hh), a, kv, rfl, .inl (sub _ _ hl), fun p bs hp hk => ?_⟩
    obtain ⟨F1, g1, s1, r1⟩ := adopt (T := C.T) sub hk hn
    have gr := grow_new (o := .lst (bs.map V.ref)) s1 hp
    exact (show ∀ v F' H', Grow F H F' H' → Same F' H' → Rp C.T F' v _ → Q v H' from h) _ _ _ (g1.trans gr) (sub_new s1) (.lst upd_same (r1.mono gr.fz))
  | @lst a xs ds hl rl => exact ⟨_, call_list_of, a, xs, rfl, .inl (.inl (.inl (sub _ _ hl))), fun p hp => giveNew sub h hp fun s e => .lst e (rl.mono s)⟩
  | @tup a xs ds hl rl => exact ⟨_, call_list_of, a, xs, rfl, .inr (.inl (.inl (sub _ _ hl))), fun p hp => giveNew sub h hp fun s e => .lst e (rl.mono s)⟩
  | @tpN a o xs ds hl c n rl => exact ⟨_, call_list_of, a, xs, rfl, .inr (.inl (.inr ⟨_, sub _ _ hl⟩)), fun p hp => giveNew sub h hp fun s e => .lst e (rl.mono s)⟩
  | @scr a ns hl => exact ⟨_, call_list_of, a, _, rfl, .inl (by rw [g.K]; exact sql_same sub hl.sql), fun p hp => giveNew sub h hp fun s e => .lst e (Rps.ints _)⟩
  | _ => exact h.elim
/-- all(xs), any(xs), sum(xs), xs a list -/
def asBools : List D → Option (List Bool)
  | [] => some []
  | .bl b :: r => (asBools r).map (b :: ·)
  | _ => none
def asInts : List D → Option (List Int)
  | [] => some []
  | .int b :: r => (asInts r).map (b :: ·)
  | _ => none
theorem bools_rps {T : Txt} {F : Hp} : ∀ {vs : List V} {ds : List D} {bs : List Bool}, Rps T F vs ds → asBools ds = some bs → vs = bs.map V.bl
  | _, [], _, .nil, e => by cases e; rfl
  | _, d :: ds, bs, .cons h r, e => by
    cases h with
    | bl b =>
      obtain ⟨q, e1, e2⟩ := Option.map_eq_some_iff.mp (show (asBools ds).map (b :: ·) = some bs from e)
      rw [← e2, List.map_cons, bools_rps r e1]
    | _ => cases e
theorem ints_rps {T : Txt} {F : Hp} : ∀ {vs : List V} {ds : List D} {bs : List Int}, Rps T F vs ds → asInts ds = some bs → vs = bs.map V.int
  | _, [], _, .nil, e => by cases e; rfl
  | _, d :: ds, bs, .cons h r, e => by
    cases h with
    | int b =>
      obtain ⟨q, e1, e2⟩ := Option.map_eq_some_iff.mp (show (asInts ds).map (b :: ·) = some bs from e)
      rw [← e2, List.map_cons, ints_rps r e1]
    | _ => cases e
def bAll : D → R D
  | .lst xs => (opt (asBools xs)).bind fun bs => .ok (.bl (bs.all id))
  | _ => .bad
def bAny : D → R D
  | .lst xs => (opt (asBools xs)).bind fun bs => .ok (.bl (bs.any id))
  | _ => .bad
def bSum : D → R D
  | .lst xs => (opt (asInts xs)).bind fun bs => .ok (.int bs.sum)
  | _ => .bad
theorem cd_all (hh : C.hot = false := by rfl) : CallD C (.builtin "all") (d1 bAll) := cald1 fun g F H Q v d sub r h => by
  cases r with
  | @lst a xs ds hl rl =>
    obtain ⟨bs, e, k⟩ := Srv1.opt (Srv1.bind h)
    exact ⟨_, cr_all (g.calm hh), a, bs, rfl, .inl (.inl (by rw [← bools_rps rl e]; exact sub _ _ hl)), giveOld sub k (.bl _)⟩
  | _ => exact h.elim
theorem cd_any (hh : C.hot = false := by rfl) : CallD C (.builtin "any") (d1 bAny) := cald1 fun g F H Q v d sub r h => by
  cases r with
  | @lst a xs ds hl rl =>
    obtain ⟨bs, e, k⟩ := Srv1.opt (Srv1.bind h)
    exact ⟨_, cr_any (g.calm hh), a, bs, rfl, .inl (.inl (by rw [← bools_rps rl e]; exact sub _ _ hl)), giveOld sub k (.bl _)⟩
  | _ => exact h.elim
theorem cd_sum (hh : C.hot = false := by rfl) : CallD C (.builtin "sum") (d1 bSum) := cald1 fun g F H Q v d sub r h => by
  cases r with
  | @lst a xs ds hl rl =>
    obtain ⟨bs, e, k⟩ := Srv1.opt (Srv1.bind h)
    exact ⟨_, cr_sum (g.calm hh), a, bs, rfl, .inl (.inl (by rw [← ints_rps rl e]; exact sub _ _ hl)), giveOld sub k (.int _)⟩
  | _ => exact h.elim
/-! ### repr -/
end
theorem shown_call {X : Cx} (hg : X.A.guards = some []) (hu : X.A.units + 64 < cLine) : CallR X (.builtin "repr") (fun xs H Q => ∃ v p, xs = [v] ∧ Dp X.K H v p ∧ p.showable = true ∧ p.hasDict = false ∧ p.depth ≤ 60 ∧ p.shown.length ≤ sizeLine ∧ Q (.str p.shown) H) := by
  intro pins s σ H xs us Q I r h
  obtain ⟨v, p, rfl, hd, hs, hn, hz, hl, q⟩ := h
  obtain ⟨u, rfl, ru⟩ := Vals.one r
  obtain ⟨as, rd⟩ := Dp.reads I p v u hd ru
  cases p with
  | none => cases hd; cases ru; exact PySem.P.repr_of_none ⟨.str _, H, I.tok _, ⟨_, rfl⟩, q⟩
  | bool b => cases hd; cases ru; exact PySem.P.repr_of_bool ⟨.str _, H, I.tok _, ⟨_, rfl⟩, q⟩
  | int i => cases hd; obtain ⟨t, rfl⟩ := ru; exact PySem.P.repr_of_int (of_decide_eq_true hs) ⟨.str _, H, I.tok _, ⟨_, rfl⟩, q⟩
  | str x => cases hd; obtain ⟨t, rfl⟩ := ru; exact PySem.P.repr_of_str ⟨.str _, H, I.tok _, ⟨_, rfl⟩, q⟩ hl
  | list ps =>
    cases hd
    cases ru
    exact repr_of_reads' rd hs (fun e => by rw [hn] at e; cases e) hg (by omega) (fun _ _ e => e) (fun h' u tk hk => ⟨.str _, H, I.kept hk, ⟨_, rfl⟩, q⟩) hl
  | tuple ps =>
    cases hd
    cases ru
    exact repr_of_reads' rd hs (fun e => by rw [hn] at e; cases e) hg (by omega) (fun _ _ e => e) (fun h' u tk hk => ⟨.str _, H, I.kept hk, ⟨_, rfl⟩, q⟩) hl
  | dict _ => cases hd
def reprOk (p : PyData) : Bool := p.showable && !p.hasDict && decide (p.depth ≤ 60) && decide (p.shown.length ≤ 1000000)
def bRepr (d : D) : R D := (opt (toP d)).bind fun p => chk (reprOk p) (.str p.shown)
theorem cd_repr {C : Ctx} (hh : C.hot = false := by rfl) : CallD C (.builtin "repr") (d1 bRepr) := cald1 fun g F H Q v d sub r h => by
  obtain ⟨p, e, k⟩ := Srv1.opt (Srv1.bind h)
  obtain ⟨c, k⟩ := Srv1.chk k
  have c1 := and2 c
  have c2 := and2 c1.1
  have c3 := and2 c2.1
  exact ⟨_, shown_call (g.room hh).g (g.u64 hh), v, p, rfl, by rw [g.K]; exact Rp.dp sub _ r e, c3.1, by simpa using c3.2, of_decide_eq_true c2.2, sz_small (of_decide_eq_true c1.2), giveOld sub k (.str _)⟩
end Pv
set_option Elab.async false
set_option linter.all false
set_option maxRecDepth 100000
/-! Pv9: lists and dicts of one's own. -/
namespace Pv
open PySem PySem.Spec PyProof.Rows L2

/-! ### an expression that makes a list that nobody has -/
def JEL (C : Ctx) {τ : Type} (φ : τ → Slots) (e : Expr) (m : τ → R (List D × τ)) : Prop := Good C → ∀ (s : τ) (σ : L2.St) (F H : Hp) (Q : VK), St8 C (φ s) σ F H →
  Srv C (m s) (fun ds s' => ∀ l xs F' H', Same F F' → H' l = none → Rps C.T F' xs ds → St8 C (φ s') σ F' H' → Q (.ref l) (upd H' l (.lst xs))) → wpE C.X e σ H Q
section
variable {C : Ctx} {τ α β : Type} {φ : τ → Slots} {ψ : α → τ → Slots} {χ : β → τ → Slots} {ρ : τ → Slots} {rest : List Stmt} {pos pos2 p : Pos}
theorem je_ofL {e : Expr} {m : τ → R (List D × τ)} (h : JEL C φ e m) : JE C φ e (fun s => (m s).bind fun q => .ok (.lst q.1, q.2)) := fun g s σ F H Q st hs =>
  h g s σ F H Q st (hs.bind.mono fun ds s1 h1 l xs F1 H1 e1 hn r st1 => by
    have gr := grow_new (o := .lst xs) st1.sub hn
    exact (show ∀ v F' H', Same F F' → Rp C.T F' v (.lst ds) → St8 C (φ s1) σ F' H' → Q v H' from h1) _ _ _ (e1.trans gr.fz) (.lst upd_same (r.mono gr.fz)) (st1.new hn))
theorem jel_lst {es : List Expr} {n : τ → R (List D × τ)} (h : JA C φ es n) : JEL C φ (.List es pos) (fun s => (n s).bind fun q => (chk (decide (q.1.length ≤ 1000000)) q.1).bind fun ds => .ok (ds, q.2)) := fun gd s σ F H Q st hs => by
  refine ⟨_, pe_lst pa_wp, ?_⟩
  refine h gd s σ F H _ st (hs.bind.mono fun ds s1 h1 vs F1 H1 e1 r1 st1 => ?_)
  obtain ⟨c, h2⟩ := h1.bind1.chk
  exact ⟨sz_small (by rw [r1.length]; exact of_decide_eq_true c), fun p hp => h2 p vs F1 H1 e1 hp r1 st1⟩
theorem jel_list {e : Expr} {m : τ → R (D × τ)} (hm : C.T.mg "list" = none) (h : JE C φ e m) (hg : Gl C.X "list" := by rfl) (he : starEach (e :: []) C.X.env = (false, eval e C.X.env) :: starEach [] C.X.env := by rfl) (hpl : (backTo pos (starEach [] C.X.env)).any (·.1) = false := by rfl) :
    JEL C φ (.Call (.Name "list" p) [e] [] pos) (fun s => (m s).bind fun q => (asItems q.1).bind fun ds => .ok (ds, q.2)) := fun gd s σ F H Q st hs => by
  refine ⟨_, pe_callTy call_list_of hg (by rw [gd.mg]; exact hm) boot_list (pa_cons pe_wp pa_nil he) (by decide) (by decide) he hpl, ?_⟩
  refine h gd s σ F H _ st (hs.bind.mono fun d s1 h1 v F1 H1 e1 r1 st1 => ?_)
  have h2 := h1.bind1
  cases q : asItems d with
  | bad => rw [q] at h2; exact h2.elim
  | err c e => exact absurd q asItems_ne
  | ok ds =>
    rw [q] at h2
    obtain ⟨a, xs, rfl, hs, rr⟩ := seq_items st1.sub r1 q
    exact ⟨a, xs, rfl, by rw [gd.K]; exact hs, fun l hl => h2 l xs F1 H1 e1 hl rr st1⟩
def rgD (a b : Int) : List D := (List.range (b - a).toNat).map fun i => D.int (a + (i : Nat))
theorem rg_rps {T : Txt} {F : Hp} (a b : Int) : Rps T F (rgV a b) (rgD a b) := by
  unfold rgV rgD
  induction List.range (b - a).toNat with
  | nil => exact .nil
  | cons i r ih => exact .cons (.int _) ih
def rgOk (a b : Int) : Bool := decide (-1000000 ≤ a) && decide (a ≤ 1000000) && decide (-1000000 ≤ b) && decide (b ≤ 1000000)
theorem rgOk_of {a b : Int} (h : rgOk a b = true) : RgOk a b := by
  have h1 := and2 h
  have h2 := and2 h1.1
  have h3 := and2 h2.1
  have a1 := of_decide_eq_true h1.2
  have a2 := of_decide_eq_true h2.2
  have a3 := of_decide_eq_true h3.1
  have a4 := of_decide_eq_true h3.2
  exact ⟨by omega, by omega, by omega, by omega, by omega⟩
theorem jel_rg1 {e : Expr} {p2 pos3 : Pos} {m : τ → R (D × τ)} (hm : C.T.mg "list" = none) (hm2 : C.T.mg "range" = none) (h : JE C φ e m) (hh : C.hot = false := by rfl) (hg : Gl C.X "list" := by rfl) (hg2 : Gl C.X "range" := by rfl) (he : starEach [e] C.X.env = (false, eval e C.X.env) :: starEach [] C.X.env := by rfl)
    (he2 : starEach [.Call (.Name "range" p2) [e] [] pos3] C.X.env = (false, eval (.Call (.Name "range" p2) [e] [] pos3) C.X.env) :: starEach [] C.X.env := by rfl) :
    JEL C φ (.Call (.Name "list" p) [.Call (.Name "range" p2) [e] [] pos3] [] pos) (fun s => (m s).bind fun q => (asInt q.1).bind fun i => (chk (rgOk 0 i) (rgD 0 i)).bind fun ds => .ok (ds, q.2)) := fun gd s σ F H Q st hs => by
  refine ⟨_, pe_listRg (gd.calm hh) hg (by rw [gd.mg]; exact hm) (prg_1 hg2 (by rw [gd.mg]; exact hm2) pe_wp he) he2, ?_⟩
  refine h gd s σ F H _ st (hs.bind.mono fun d s1 h1 v F1 H1 e1 r1 st1 => ?_)
  have h2 := h1.bind1
  cases r1 with
  | int i =>
    obtain ⟨c, k⟩ := (show Srv C ((chk (rgOk 0 i) (rgD 0 i)).bind fun ds => .ok (ds, s1)) _ from h2).bind1.chk
    exact ⟨i, rfl, rgOk_of c, fun l hl => k l _ F1 H1 e1 hl (rg_rps _ _) st1⟩
  | _ => exact h2.elim

/-! ### slots of one's own -/
theorem SlotsOk.newOwn {T : Txt} {Fr : Addr → Prop} {F H : Hp} {e : Slots} {σ : L2.St} {i : Nat} {l : Addr} {o : HO} {sv : SV} (h : SlotsOk T Fr F H e σ) (sub : Same F H) (hl : H l = none) (hlen : e.length ≤ σ.length)
    (ok : SlotOk T Fr F (upd H l o) (some sv) (some (.ref l)) [l]) : SlotsOk T Fr F (upd H l o) (e.set i (some sv)) (σ.set i (some (.ref l))) := by
  refine SlotsOk.setOwner (h.grow (grow_own hl)) ok (fun A hA j hm => ?_) hlen
  -- the slots were fine before l was laid, by the same owners or others: start from the old ones
  obtain ⟨⟨o', e1, nt⟩, e2, e3⟩ := (hA.slot j).own_some l hm
  have z := hA.slot j
  obtain ⟨B, hB⟩ := h
  -- what slot j owns is told by its value alone
  have same : ∀ {sv : Option SV} {v : Option V} {as bs : List Addr} {G : Hp}, SlotOk T Fr F G sv v as → SlotOk T Fr F H sv v bs → (∀ a o, H a = some o → G a = some o) → as = bs := fun {sv v as bs G} ha hb hk => by
    cases sv with
    | none => rw [show as = [] from ha, show bs = [] from hb]
    | some s =>
      cases s with
      | val d => rw [ha.1, hb.1]
      | exc _ _ _ _ => rw [ha.1, hb.1]
      | tree d =>
        obtain ⟨x, e, o, _⟩ := ha
        obtain ⟨x', e', o', _⟩ := hb
        rw [e] at e'; cases e'
        exact o.uniq hk o'
      | own ds =>
        obtain ⟨l, _, rfl, e, _⟩ := ha
        obtain ⟨l', _, rfl, e', _⟩ := hb
        rw [e] at e'; cases e'; rfl
      | owk ds =>
        obtain ⟨l, _, rfl, e, _⟩ := ha
        obtain ⟨l', _, rfl, e', _⟩ := hb
        rw [e] at e'; cases e'; rfl
      | owt ds =>
        obtain ⟨l, _, rfl, e, _⟩ := ha
        obtain ⟨l', _, rfl, e', _⟩ := hb
        rw [e] at e'; cases e'; rfl
      | ins p dx c fs =>
        obtain ⟨_, _, rfl, _⟩ := ha
        obtain ⟨_, _, rfl, _⟩ := hb
        rfl
      | deal l1 l2 cs b => rw [ha.1, hb.1]
  have q := same z (hB.slot j) fun a o' e => by rw [upd_ne (ne_of_none e hl)]; exact e
  rw [q] at hm
  exact hB.notNew hl j hm
theorem St8.newOwn {env : Slots} {σ : L2.St} {F H : Hp} {i : Nat} {l : Addr} {xs : List V} {ds : List D} (st : St8 C env σ F H) (hl : H l = none) (r : Rps C.T F xs ds) : St8 C (env.set i (some (.own ds))) (σ.set i (some (.ref l))) F (upd H l (.lst xs)) := by
  have fl : F l = none := by
    cases q : F l with
    | none => rfl
    | some o => rw [st.sub _ _ q] at hl; cases hl
  refine ⟨st.step.trans ((grow_own hl).weak fun _ z => z.elim), fun a o e => by rw [upd_ne (ne_of_none (st.sub a o e) hl)]; exact st.sub a o e, st.env.newOwn st.sub hl st.len ⟨l, xs, rfl, rfl, upd_same, r, fl, .inl (st.step.dom l hl)⟩, by rw [List.length_set, List.length_set]; exact st.len⟩
theorem SlotsOk.ownAt {T : Txt} {Fr : Addr → Prop} {F H : Hp} {e : Slots} {σ : L2.St} {i : Nat} {ds : List D} (h : SlotsOk T Fr F H e σ) (hi : e[i]?.join = some (.own ds)) : ∃ l xs, σ[i]? = some (some (.ref l)) ∧ H l = some (.lst xs) ∧ Rps T F xs ds ∧ F l = none ∧ Fr l := by
  obtain ⟨A, h1, _⟩ := h
  have q := h1 i
  rw [hi] at q
  obtain ⟨l, xs, _, ev, h1, h2, h3, h4⟩ := q
  refine ⟨l, xs, ?_, h1, h2, h3, h4⟩
  cases z : σ[i]? with
  | none => rw [z] at ev; cases ev
  | some o => rw [z] at ev; rw [show o = some (V.ref l) from ev]
/-- a list of one's own changes -/
theorem St8.chOwn {env : Slots} {σ : L2.St} {F H : Hp} {i : Nat} {l : Addr} {xs ys : List V} {ds es : List D} (st : St8 C env σ F H) (hi : env[i]?.join = some (.own ds)) (hv : σ[i]? = some (some (.ref l))) (hl : H l = some (.lst xs)) (r : Rps C.T F ys es) :
    St8 C (env.set i (some (.own es))) σ F (upd H l (.lst ys)) := by
  obtain ⟨l', xs', e1, e2, _, e4, e5⟩ := st.env.ownAt hi
  rw [hv] at e1
  cases e1
  have hv' : σ[i]?.join = some (.ref l) := by rw [hv]; rfl
  refine ⟨⟨st.step.fz, st.step.new, fun a o ha hm => ?_, fun a ha => ?_⟩, fun a o ha => ?_, st.env.upd1 hi hv' (fun as z => ?_) (fun _ => ⟨l, ys, rfl, rfl, upd_same, r, e4, e5⟩), by rw [List.length_set]; exact st.len⟩
  · have ne : a ≠ l := fun z => by
      rcases e5 with z' | z'
      · rw [z, z'] at ha; cases ha
      · exact hm (by rw [z]; exact z')
    rw [upd_ne ne]
    exact st.step.keep a o ha hm
  · by_cases c : a = l
    · rw [c, upd_same] at ha; cases ha
    · rw [upd_ne c] at ha
      exact st.step.dom a ha
  · have ne : a ≠ l := fun z => by rw [z, e4] at ha; cases ha
    rw [upd_ne ne]
    exact st.sub a o ha
  · obtain ⟨l2, _, rfl, z2, _⟩ := z
    cases z2
    rfl
/-- x = [..] -/
theorem jb_setL (i : Nat) {x : Str} {e : Expr} {pos' : Pos} {me : τ → R (List D × τ)} {k : List D → τ → R (Fl α β × τ)} (he : JEL C φ e me) (hk : ∀ ds, JB C (fun s => (φ s).set i (some (.own ds))) rest ψ χ ρ (k ds))
    (hi : C.X.N[i]? = some x := by rfl) (hx : Loc C.X.env.scope x := by first | exact Or.inl rfl | exact Or.inr rfl) (hs : swapsWith e (some (.Name x pos')) pos.line C.X.env = pure false := by rfl)
    (hf : C.X.fn x = true ∨ C.X.env.scope.names.lookup x = some .local := by first | exact .inl rfl | exact .inr rfl) :
    JB C φ (.Assign [.Name x pos'] e pos :: rest) ψ χ ρ (fun s => (me s).bind fun p => k p.1 p.2) := fun g s σ F H Dn st h => by
  refine ⟨_, pss_cons (ps_set g.nd hi hx pe_wp hs hf) ps_wp, ?_⟩
  refine he g s σ F H _ st (h.bind.mono fun ds s1 h1 l xs F1 H1 e1 hl r1 st1 => ?_)
  exact hk ds g s1 _ F1 _ Dn (st1.newOwn hl r1) (h1.mono fun f s2 => FlPost.mono e1)
/-- nobody changes it any more -/
theorem jb_freeze (i : Nat) {f : τ → List D} {k : τ → R (Fl α β × τ)} (hk : JB C (fun s => (φ s).set i (some (.val (.lst (f s))))) rest ψ χ ρ k) (hi : ∀ s, (φ s)[i]?.join = some (.own (f s)) := by intro _; rfl) : JB C φ rest ψ χ ρ k := fun g s σ F H Dn st h => by
  obtain ⟨l, xs, e1, e2, e3, e4, e5, e6, e7, e8⟩ := st.env.freeze st.sub (hi s)
  refine hk g s σ _ H Dn ⟨⟨st.step.fz.trans e6, fun a o ha => ?_, st.step.keep, st.step.dom⟩, e7, e8, by rw [List.length_set]; exact st.len⟩ (h.mono fun f s2 => FlPost.mono e6)
  by_cases c : a = l
  · exact .inr ((show C.Fr a by rw [c]; exact e4).imp .inl id)
  · rw [upd_ne c] at ha
    exact st.step.new a o ha

/-! ### what a list of one's own suffers -/
theorem jb_append (i : Nat) {f : τ → List D} {x : Str} {e : Expr} {p1 ap cp : Pos} {me : τ → R (D × τ)} {k : List D → τ → R (Fl α β × τ)} (he : JE C φ e me) (hk : ∀ ds, JB C (fun s => (φ s).set i (some (.own ds))) rest ψ χ ρ (k ds))
    (hi : ∀ s, (φ s)[i]?.join = some (.own (f s)) := by intro _; rfl) (hN : C.X.N[i]? = some x := by rfl) (hv : Vis C.X.env.scope x := by first | exact Or.inl rfl | exact Or.inr (Or.inl rfl) | exact Or.inr (Or.inr rfl)) (hd : (x == ("__debug__" : Str)) = false := by decide) (hcd : (x == ("__classdict__" : Str)) = false := by decide)
    (hs : swapsWith (.Call (.Attribute (.Name x p1) "append" ap) [e] [] cp) none pos.line C.X.env = pure false := by rfl) (hbase : attributeBase (.Name x p1) "append" C.X.env (eval (.Name x p1) C.X.env) = eval (.Name x p1) C.X.env := by rfl)
    (hfew : ((backTo cp (starEach (e :: []) C.X.env)).all (fun x => !x.1) && (backToKw cp (keywordEach [] C.X.env)).all (fun x => x.1.isSome) && decide ((e :: []).length + ([] : List Keyword).length + (if ([] : List Keyword).isEmpty then 0 else 1) < 30)) = true := by rfl)
    (hline : (ap.endLine == cp.line) = true := by rfl) (hst : starEach (e :: []) C.X.env = (false, eval e C.X.env) :: starEach [] C.X.env := by rfl) (hpl : (backTo cp (starEach [] C.X.env)).any (·.1) = false := by rfl) :
    JB C φ (.Expr (.Call (.Attribute (.Name x p1) "append" ap) [e] [] cp) pos :: rest) ψ χ ρ (fun s => (me s).bind fun p => (chk (decide ((f p.2).length < 1000000)) ()).bind fun _ => k (f p.2 ++ [p.1]) p.2) := fun g s σ F H Dn st h => by
  refine ⟨_, pss_cons (ps_expr (pe_bm PySem.F.plainAttrs_list PySem.F.slot_list_append PySem.F.type_list_append mt_append (pe_var hN hv hd hcd) (pa_cons pe_wp pa_nil hst) hbase hfew hline hst hpl) hs) ps_wp, ?_⟩
  obtain ⟨l, xs, e1, e2, _⟩ := st.env.ownAt (hi s)
  refine ⟨.ref l, e1, .inl ⟨rfl, xs, .inl (.inl e2)⟩, ?_⟩
  refine he g s σ F H _ st (h.bind.mono fun d s1 h1 v F1 H1 ee r1 st1 => ?_)
  obtain ⟨c, h2⟩ := h1.bind1.chk
  obtain ⟨l', ys, q1, q2, q3, _⟩ := st1.env.ownAt (hi s1)
  rw [e1] at q1
  cases q1
  refine ⟨l, ys, v, rfl, rfl, q2, Nat.lt_of_lt_of_le (by rw [q3.length]; exact of_decide_eq_true c) (sz_small (Nat.le_refl _)), ?_⟩
  exact hk _ g s1 _ F1 _ Dn (st1.chOwn (hi s1) e1 q2 (q3.append (Rps.one r1))) (h2.mono fun f s2 => FlPost.mono ee)
/-- x.pop(e), dropped -/
theorem jb_popAt (i : Nat) {f : τ → List D} {x : Str} {e : Expr} {p1 ap cp : Pos} {me : τ → R (D × τ)} {k : List D → τ → R (Fl α β × τ)} (he : JE C φ e me) (hk : ∀ ds, JB C (fun s => (φ s).set i (some (.own ds))) rest ψ χ ρ (k ds))
    (hi : ∀ s, (φ s)[i]?.join = some (.own (f s)) := by intro _; rfl) (hN : C.X.N[i]? = some x := by rfl) (hv : Vis C.X.env.scope x := by first | exact Or.inl rfl | exact Or.inr (Or.inl rfl) | exact Or.inr (Or.inr rfl)) (hd : (x == ("__debug__" : Str)) = false := by decide) (hcd : (x == ("__classdict__" : Str)) = false := by decide)
    (hs : swapsWith (.Call (.Attribute (.Name x p1) "pop" ap) [e] [] cp) none pos.line C.X.env = pure false := by rfl) (hbase : attributeBase (.Name x p1) "pop" C.X.env (eval (.Name x p1) C.X.env) = eval (.Name x p1) C.X.env := by rfl)
    (hfew : ((backTo cp (starEach (e :: []) C.X.env)).all (fun x => !x.1) && (backToKw cp (keywordEach [] C.X.env)).all (fun x => x.1.isSome) && decide ((e :: []).length + ([] : List Keyword).length + (if ([] : List Keyword).isEmpty then 0 else 1) < 30)) = true := by rfl)
    (hline : (ap.endLine == cp.line) = true := by rfl) (hst : starEach (e :: []) C.X.env = (false, eval e C.X.env) :: starEach [] C.X.env := by rfl) (hpl : (backTo cp (starEach [] C.X.env)).any (·.1) = false := by rfl) :
    JB C φ (.Expr (.Call (.Attribute (.Name x p1) "pop" ap) [e] [] cp) pos :: rest) ψ χ ρ (fun s => (me s).bind fun p => (asInt p.1).bind fun j => (chk (decide (-1000000 ≤ j) && decide (j ≤ 1000000)) ()).bind fun _ => (opt (ixN (f p.2).length j)).bind fun n => k ((f p.2).eraseIdx n) p.2) := fun g s σ F H Dn st h => by
  refine ⟨_, pss_cons (ps_expr (pe_bm PySem.F.plainAttrs_list PySem.F.slot_list_pop PySem.F.type_list_pop mt_popAt (pe_var hN hv hd hcd) (pa_cons pe_wp pa_nil hst) hbase hfew hline hst hpl) hs) ps_wp, ?_⟩
  obtain ⟨l, xs, e1, e2, _⟩ := st.env.ownAt (hi s)
  refine ⟨.ref l, e1, .inl ⟨rfl, xs, .inl (.inl e2)⟩, ?_⟩
  refine he g s σ F H _ st (h.bind.mono fun d s1 h1 v F1 H1 ee r1 st1 => ?_)
  have h2 := h1.bind1
  cases r1 with
  | int j =>
    obtain ⟨c, h3⟩ := (show Srv C ((chk (decide (-1000000 ≤ j) && decide (j ≤ 1000000)) ()).bind fun _ => _) _ from h2).bind1.chk
    obtain ⟨n, hn, h4⟩ := h3.bind1.opt
    have c1 := of_decide_eq_true (and2 c).1
    have c2 := of_decide_eq_true (and2 c).2
    obtain ⟨l', ys, q1, q2, q3, _⟩ := st1.env.ownAt (hi s1)
    rw [e1] at q1
    cases q1
    rw [← q3.length] at hn
    obtain ⟨z1, z2, _⟩ := ixN_seq hn
    refine ⟨l, ys, j, n, ys[n], rfl, rfl, q2, by omega, by omega, z1, by simp [z2], ?_⟩
    exact hk _ g s1 _ F1 _ Dn (st1.chOwn (hi s1) e1 q2 (q3.eraseIdx n)) (h4.mono fun f s2 => FlPost.mono ee)
  | _ => exact h2.elim
/-- x[a] = e -/
theorem jb_setItem (i : Nat) {f : τ → List D} {x : Str} {a e : Expr} {p1 p2 : Pos} {ma me : τ → R (D × τ)} {k : List D → τ → R (Fl α β × τ)} (he : JE C φ e me) (ha : JE C φ a ma) (hk : ∀ ds, JB C (fun s => (φ s).set i (some (.own ds))) rest ψ χ ρ (k ds))
    (hi : ∀ s, (φ s)[i]?.join = some (.own (f s)) := by intro _; rfl) (hN : C.X.N[i]? = some x := by rfl) (hv : Vis C.X.env.scope x := by first | exact Or.inl rfl | exact Or.inr (Or.inl rfl) | exact Or.inr (Or.inr rfl)) (hd : (x == ("__debug__" : Str)) = false := by decide) (hcd : (x == ("__classdict__" : Str)) = false := by decide)
    (hsub : ∀ v, assign (.Subscript (.Name x p1) a p2) C.X.env v = (do
      let ov ← holding [v] (eval (.Name x p1) C.X.env)
      let iv ← holding [v, ov] (eval a C.X.env)
      standAt p2
      holding [v, ov, iv] (setItem ov iv v)
      release [v, ov, iv] []) := by intro _; rfl)
    (hs : swapsWithSole [.Subscript (.Name x p1) a p2] e pos.line C.X.env = pure false := by rfl) (hw : swappedStores [.Subscript (.Name x p1) a p2] e C.X.env = pure none := by rfl)
    (h1 : (assignEach [.Subscript (.Name x p1) a p2] C.X.env).map (·.2) = [assign (.Subscript (.Name x p1) a p2) C.X.env] := by rfl) :
    JB C φ (.Assign [.Subscript (.Name x p1) a p2] e pos :: rest) ψ χ ρ (fun s => (me s).bind fun p => (ma p.2).bind fun q => (asInt q.1).bind fun j => (opt (ixN (f q.2).length j)).bind fun n => k ((f q.2).set n p.1) q.2) := fun g s σ F H Dn st h => by
  refine ⟨_, pss_cons (ps_asg pe_wp (pg_sub (pe_var hN hv hd hcd) pe_wp set_list hsub) hs hw h1) ps_wp, ?_⟩
  refine he g s σ F H _ st (h.bind.mono fun d s1 h1 v F1 H1 ee r1 st1 => ?_)
  obtain ⟨l, xs, e1, e2, _⟩ := st1.env.ownAt (hi s1)
  refine ⟨.ref l, e1, ?_⟩
  refine ha g s1 σ F1 H1 _ st1 (h1.bind.mono fun d2 s2 h2 v2 F2 H2 ee2 r2 st2 => ?_)
  have h3 := h2.bind1
  cases r2 with
  | int j =>
    obtain ⟨n, hn, h4⟩ := (show Srv C ((opt (ixN (f s2).length j)).bind fun _ => _) _ from h3).bind1.opt
    obtain ⟨l', ys, q1, q2, q3, _⟩ := st2.env.ownAt (hi s2)
    rw [e1] at q1
    cases q1
    refine ⟨l, ys, j, n, rfl, rfl, q2, by rw [q3.length]; exact hn, ?_⟩
    exact hk _ g s2 _ F2 _ Dn (st2.chOwn (hi s2) e1 q2 (Rps.set (r1.mono ee2) n q3)) (h4.mono fun f s2 => FlPost.mono (ee.trans ee2))
  | _ => exact h3.elim
/-! ### lists of one's own, read while nothing changes -/
def viewS : Option SV → Option SV
  | some (.own ds) => some (.val (.lst ds))
  | some (.val d) => some (.val d)
  | some (.deal _ _ cs b) => some (.val (.lst [.lst (cs.map .int), .int b]))
  | some (.tree d) => some (.val (unf d))
  | _ => none
def seenS : SV → Bool
  | .own _ => true
  | .deal _ _ _ _ => true
  | .tree _ => true
  | _ => false
def view (e : Slots) : Slots := e.map viewS
mutual
def noLst : D → Bool
  | .non => true
  | .bl _ => true
  | .int _ => true
  | .str _ => true
  | .tup xs => noLsts xs
  | .tpN xs => noLsts xs
  | .dct [] => true
  | .obj _ fs => noLstF fs
  | _ => false
def noLsts : List D → Bool
  | [] => true
  | x :: xs => noLst x && noLsts xs
def noLstF : List (Str × D) → Bool
  | [] => true
  | x :: xs => noLstP x && noLstF xs
def noLstP : Str × D → Bool
  | (_, d) => noLst d
end
theorem noLstF_all : ∀ {fs : List (Str × D)}, noLstF fs = true → ∀ d ∈ fs.map (·.2), noLst d = true
  | [], _, _, h => by simp at h
  | (x, d) :: fs, h, e, he => by
    rw [noLstF, noLstP] at h
    rcases List.mem_cons.mp he with z | z
    · rw [z]; exact (and2 h).1
    · exact noLstF_all (and2 h).2 e z
theorem sizeOf_fld {d : D} : ∀ {fs : List (Str × D)}, d ∈ fs.map (·.2) → sizeOf d < sizeOf fs
  | [], h => by simp at h
  | (x, e) :: fs, h => by
    rcases List.mem_cons.mp h with z | z
    · subst z; simp; omega
    · have := sizeOf_fld z
      simp; omega
theorem noLsts_all : ∀ {ds : List D}, noLsts ds = true → ∀ d ∈ ds, noLst d = true
  | d :: ds, h, e, he => by
    rw [noLsts] at h
    rcases List.mem_cons.mp he with z | z
    · rw [z]; exact (and2 h).1
    · exact noLsts_all (and2 h).2 e z
theorem rps_of {T : Txt} {F F' : Hp} : ∀ {vs : List V} {ds : List D}, Rps T F vs ds → (∀ v d, d ∈ ds → Rp T F v d → Rp T F' v d) → Rps T F' vs ds
  | _, [], .nil, _ => .nil
  | _, d :: ds, .cons h r, k => .cons (k _ _ (List.Mem.head _) h) (rps_of r fun v d hd => k v d (List.Mem.tail _ hd))
theorem rp_noLst {T : Txt} {F F' : Hp} (ht : ∀ a o, F a = some o → (∀ xs, o ≠ .lst xs) → F' a = some o) : ∀ (d : D) {v : V}, noLst d = true → Rp T F v d → Rp T F' v d
  | .non, _, _, .non => .non
  | .bl _, _, _, .bl _ => .bl _
  | .int _, _, _, .int _ => .int _
  | .str _, _, _, .str _ => .str _
  | .tup ds, _, n, .tup h r => .tup (ht _ _ h (fun _ => nofun)) (rps_of r fun v d hd rv => rp_noLst ht d (noLsts_all (by rw [noLst] at n; exact n) d hd) rv)
  | .tpN ds, _, n, .tpN h c e r => .tpN (ht _ _ h (fun _ => nofun)) c e (rps_of r fun v d hd rv => rp_noLst ht d (noLsts_all (by rw [noLst] at n; exact n) d hd) rv)
  | .dct [], _, _, .dct0 h => .dct0 (ht _ _ h (fun _ => nofun))
  | .obj c ds, _, n, .obj hc h hm r => .obj hc (ht _ _ h (fun _ => nofun)) hm (rps_of r fun v d hd rv => rp_noLst ht d (noLstF_all (by rw [noLst] at n; exact n) d hd) rv)
termination_by d => sizeOf d
decreasing_by
  all_goals simp_wf
  · have := List.sizeOf_lt_of_mem hd; omega
  · have := List.sizeOf_lt_of_mem hd; omega
  · have := sizeOf_fld hd; omega
abbrev lookCtx (C : Ctx) (F H : Hp) : Ctx := { C with M := fun _ => False, F0 := F, H0 := H, eh := [], loose := false }
theorem Good.look (g : Good C) {F H : Hp} : Good (lookCtx C F H) := ⟨g.K, g.mg, g.pr, g.w, g.base, g.calm, g.nd, g.room, g.own, g.tk⟩
theorem borrow_core {e : Slots} {σ : L2.St} {F H : Hp} (st : St8 C e σ F H) : ∃ F1, Same F F1 ∧ St8 (lookCtx C F1 H) (view e) σ F1 H ∧
    ∀ F' H', Same F1 F' → St8 (lookCtx C F1 H) (view e) σ F' H' → ∃ F2, Same F F2 ∧ St8 C e σ F2 H' ∧ ∀ v d, noLst d = true → Rp C.T F' v d → Rp C.T F2 v d := by
  classical
  obtain ⟨A, hA, hA2⟩ := id st.env
  let L : Addr → Prop := fun a => ∃ (i : Nat) (sv : SV), e[i]?.join = some sv ∧ seenS sv = true ∧ a ∈ A i
  have own : ∀ {a}, L a → F a = none ∧ ∃ xs, H a = some (.lst xs) := fun {a} ha => by
    obtain ⟨i, sv, hi, hs, hm⟩ := ha
    have q := hA i
    rw [hi] at q
    cases sv with
    | own ds =>
      obtain ⟨l, xs, e1, _, e2, _, e4, _⟩ := q
      rw [e1] at hm
      have z : a = l := by simpa using hm
      subst z
      exact ⟨e4, xs, e2⟩
    | deal l1 l2 cs b =>
      obtain ⟨e1, _, q1, q2, q3, q4, _⟩ := q
      rw [e1] at hm
      rcases List.mem_cons.mp hm with z | z
      · subst z; exact ⟨q3, _, q1⟩
      · have z : a = l2 := by simpa using z
        subst z; exact ⟨q4, _, q2⟩
    | tree d =>
      obtain ⟨x, _, o, _⟩ := q
      obtain ⟨z1, z2⟩ := o.mem a hm
      exact ⟨z2, z1⟩
    | _ => cases hs
  let F1 : Hp := fun a => if L a then H a else F a
  have sF : Same F F1 := fun a o h => by
    show (if L a then H a else F a) = some o
    rw [if_neg fun z => by rw [(own z).1] at h; cases h]
    exact h
  have sH : Same F1 H := fun a o h => by
    by_cases z : L a
    · rw [show F1 a = H a from if_pos z] at h
      exact h
    · rw [show F1 a = F a from if_neg z] at h
      exact st.sub a o h
  have s0 : St8 (lookCtx C F1 H) (view e) σ F1 H := by
    refine ⟨Step.refl _ _ _, sH, ⟨fun _ => [], fun i => ?_, fun i j a ha => by cases ha⟩, by rw [view, List.length_map]; exact st.len⟩
    have q := hA i
    have ev : (view e)[i]?.join = viewS e[i]?.join := by
      rw [view, List.getElem?_map]
      cases e[i]? <;> rfl
    rw [ev]
    cases z : e[i]?.join with
    | none => rfl
    | some sv =>
      rw [z] at q
      cases sv with
      | val d =>
        obtain ⟨_, x, q2, q3⟩ := q
        exact ⟨rfl, x, q2, q3.mono sF⟩
      | own ds =>
        obtain ⟨l, xs, e0, e1, e2, e3, _, _⟩ := q
        refine ⟨rfl, .ref l, e1, .lst ?_ (e3.mono sF)⟩
        show (if L l then H l else F l) = some (.lst xs)
        rw [if_pos ⟨i, _, z, rfl, by rw [e0]; exact List.Mem.head _⟩]
        exact e2
      | deal l1 l2 cs b =>
        obtain ⟨e0, q0, q1, q2, q3, q4, _⟩ := q
        have f1 : F1 l1 = some (.lst [.ref l2, .int b]) := by
          show (if L l1 then H l1 else F l1) = _
          rw [if_pos ⟨i, _, z, rfl, by rw [e0]; exact List.Mem.head _⟩]
          exact q1
        have f2 : F1 l2 = some (.lst (cs.map V.int)) := by
          show (if L l2 then H l2 else F l2) = _
          rw [if_pos ⟨i, _, z, rfl, by rw [e0]; exact List.Mem.tail _ (List.Mem.head _)⟩]
          exact q2
        exact ⟨rfl, .ref l1, q0, .lst f1 (.cons (.lst f2 (Rps.ints _)) (.cons (.int b) .nil))⟩
      | tree d =>
        obtain ⟨x, q0, o, _⟩ := q
        refine ⟨rfl, x, q0, o.rp sF fun a ha => ?_⟩
        show (if L a then H a else F a) = H a
        rw [if_pos ⟨i, _, z, rfl, ha⟩]
      | _ => rfl
  refine ⟨F1, sF, s0, fun F' H' ss s1 => ?_⟩
  let F2 : Hp := fun a => if L a then none else F' a
  have f2 : ∀ {a o}, F2 a = some o → ¬ L a ∧ F' a = some o := fun {a o} h => by
    by_cases z : L a
    · rw [show F2 a = none from if_pos z] at h
      cases h
    · rw [show F2 a = F' a from if_neg z] at h
      exact ⟨z, h⟩
  have hk : ∀ a o, H a = some o → H' a = some o := fun a o h => s1.step.keep a o h fun z => z
  have s2 : Same F F2 := fun a o h => by
    have nl : ¬ L a := fun z => by rw [(own z).1] at h; cases h
    show (if L a then none else F' a) = some o
    rw [if_neg nl]
    exact ss a o (sF a o h)
  refine ⟨F2, s2, ⟨⟨st.step.fz.trans s2, fun a o h => ?_, fun a o h m => hk a o (st.step.keep a o h m), fun a h => st.step.dom a (s1.step.dom a h)⟩, fun a o h => s1.sub a o (f2 h).2, ?_, st.len⟩, fun v d n r => rp_noLst (fun a o h hno => ?_) d n r⟩
  · obtain ⟨nl, h'⟩ := f2 h
    rcases s1.step.new a o h' with z | z | z
    · exact st.step.new a o ((show F1 a = F a from if_neg nl).symm.trans z)
    · exact .inr (st.step.nw z)
    · exact z.elim
  · obtain ⟨A, h1, h2⟩ := id st.env
    refine ⟨A, fun i => (h1 i).move s2 fun a ha => ?_, h2⟩
    obtain ⟨⟨o, e1, nt⟩, e2, _⟩ := (h1 i).own_some a ha
    refine ⟨by rw [hk a o e1, e1], ?_⟩
    by_cases z : L a
    · exact if_pos z
    · show (if L a then none else F' a) = none
      rw [if_neg z]
      cases q : F' a with
      | none => rfl
      | some u =>
        rcases s1.step.new a u q with y | y | y
        · have y' := (show F1 a = F a from if_neg z).symm.trans y
          rw [e2] at y'; cases y'
        · exact (nw_no e1 nt y).elim
        · exact y.elim
  · have nl : ¬ L a := fun z => by
      obtain ⟨_, ys, q⟩ := own z
      have := ss a _ (show F1 a = some (.lst ys) from (if_pos z).trans q)
      rw [h] at this
      cases this
      exact hno ys rfl
    show (if L a then none else F' a) = _
    rw [if_neg nl]
    exact h
theorem noErr_srv {α : Type} {r : R α} {K : α → Prop} (h : Srv1 C (noErr r) K) : ∃ a, r = .ok a ∧ K a := by
  cases r with
  | ok a => exact ⟨a, rfl, h⟩
  | err c d => exact h.elim
  | bad => exact h.elim
/-- e, in which lists of one's own are only read; what it gives holds no list -/
theorem je_borrow {e : Expr} {me : τ → Unit → R (D × Unit)} (h : ∀ s F0 H0, JE (lookCtx C F0 H0) (fun _ : Unit => view (φ s)) e (me s)) :
    JE C φ e (fun s => (noErr (me s ())).bind fun d => (chk (noLst d.1) d.1).bind fun d => .ok (d, s)) := fun g s σ F H Q st hs => by
  obtain ⟨⟨d, _⟩, e1, h2⟩ := noErr_srv hs.bind1
  obtain ⟨c, h3⟩ := h2.bind1.chk
  obtain ⟨F1, sF, s0, back⟩ := borrow_core st
  refine h s F1 H g.look () σ F1 H Q s0 ?_
  rw [e1]
  intro v F' H' ee r st1
  obtain ⟨F2, q1, q2, q3⟩ := back F' H' ee st1
  exact (show ∀ v F' H', Same F F' → Rp C.T F' v d → St8 C (φ s) σ F' H' → Q v H' from h3) v F2 H' q1 (q3 v d c r) q2
theorem jt_borrow {e : Expr} {me : τ → Unit → R (Bool × Unit)} (h : ∀ s F0 H0, JT (lookCtx C F0 H0) (fun _ : Unit => view (φ s)) e (me s)) :
    JT C φ e (fun s => (noErr (me s ())).bind fun d => .ok (d.1, s)) := fun g s σ F H Q st hs => by
  obtain ⟨⟨d, _⟩, e1, h3⟩ := noErr_srv hs.bind1
  obtain ⟨F1, sF, s0, back⟩ := borrow_core st
  refine h s F1 H g.look () σ F1 H Q s0 ?_
  rw [e1]
  intro F' H' ee st1
  obtain ⟨F2, q1, q2, _⟩ := back F' H' ee st1
  exact (show ∀ F' H', Same F F' → St8 C (φ s) σ F' H' → Q d H' from h3) F2 H' q1 q2
end
end Pv
set_option Elab.async false
set_option linter.all false
set_option maxRecDepth 100000
/-! PvA: pairs stored, isinstance, starred items, dicts of one's own. -/
namespace Pv
open PySem PySem.Spec PyProof.Rows L2
section
variable {C : Ctx} {τ α β : Type} {φ : τ → Slots} {ψ : α → τ → Slots} {χ : β → τ → Slots} {ρ : τ → Slots} {rest : List Stmt} {pos pos2 p : Pos}
theorem ja_star {e : Expr} {p : Pos} {es : List Expr} {m : τ → R (D × τ)} {n : τ → R (List D × τ)} (h : JE C φ e m) (k : JA C φ es n) (hst : starEach (.Starred e p :: es) C.X.env = (true, eval e C.X.env) :: starEach es C.X.env := by rfl) :
    JA C φ (.Starred e p :: es) (fun s => (m s).bind fun q => (asItems q.1).bind fun ds => (n q.2).bind fun r => .ok (ds ++ r.1, r.2)) := fun gd s σ F H Q st hs => by
  refine ⟨_, StX.pa_star pe_wp pa_wp hst, ?_⟩
  refine h gd s σ F H _ st (hs.bind.mono fun d s1 h1 v F1 H1 e1 r1 st1 => ?_)
  have h2 := h1.bind1
  cases q : asItems d with
  | bad => rw [q] at h2; exact h2.elim
  | err c e => exact absurd q asItems_ne
  | ok ds =>
    rw [q] at h2
    obtain ⟨a, xs, rfl, hq, rr⟩ := seq_items st1.sub r1 q
    refine ⟨a, xs, rfl, by rw [gd.K]; exact hq.symm, ?_⟩
    have h3 : Srv C ((n s1).bind fun r => .ok (ds ++ r.1, r.2)) (fun ds s' => ∀ vs F' H', Same F F' → Rps C.T F' vs ds → St8 C (φ s') σ F' H' → Q vs H') := h2
    exact k gd s1 σ F1 H1 _ st1 (h3.bind.mono fun es s2 h4 vs F2 H2 e2 r2 st2 => h4 (xs ++ vs) F2 H2 (e1.trans e2) ((rr.mono e2).append r2) st2)

/-! ### several names at once -/
def two : List D → R (D × D)
  | [d, e] => .ok (d, e)
  | _ => .bad
def three : List D → R (D × D × D)
  | [d, e, f] => .ok (d, e, f)
  | _ => .bad
theorem St8.set2 {env : Slots} {σ : L2.St} {F H : Hp} {i j : Nat} {v w : V} {d e : D} (st : St8 C env σ F H) (r : Rp C.T F v d) (q : Rp C.T F w e) : St8 C ((env.set i (some (.val d))).set j (some (.val e))) ((σ.set i (some v)).set j (some w)) F H := (st.setVal r).setVal q
theorem jb_par2 (i j : Nat) {x y : Str} {a b : Expr} {px py pt : Pos} {kt k2 pt2} {na : τ → R (List D × τ)} {k : D → D → τ → R (Fl α β × τ)} (ha : JA C φ [a, b] na) (hk : ∀ d e, JB C (fun s => ((φ s).set i (some (.val d))).set j (some (.val e))) rest ψ χ ρ (k d e)) (hh : C.hot = false := by rfl)
    (hi : C.X.N[i]? = some x := by rfl) (hj : C.X.N[j]? = some y := by rfl) (hij : i ≠ j := by decide) (hx : C.X.env.scope.names.lookup x = some .local := by rfl) (hy : C.X.env.scope.names.lookup y = some .local := by rfl)
    (hw : swappedStores [.Tuple [.Name x px, .Name y py] kt pt] (.Tuple [a, b] k2 pt2) C.X.env = pure (some [x, y]) := by rfl) (hs : swapsWithSole [.Tuple [.Name x px, .Name y py] kt pt] (.Tuple [a, b] k2 pt2) pos.line C.X.env = pure false := by rfl) :
    JB C φ (.Assign [.Tuple [.Name x px, .Name y py] kt pt] (.Tuple [a, b] k2 pt2) pos :: rest) ψ χ ρ (fun s => (na s).bind fun p => (two p.1).bind fun q => k q.1 q.2 p.2) := fun g s σ F H Dn st h => by
  refine ⟨_, pss_cons (ps_par (g.calm hh) g.nd hi hj hij hx hy pa_wp hw hs) ps_wp, ?_⟩
  refine ha g s σ F H _ st (h.bind.mono fun ds s1 h1 vs F1 H1 ee r st1 => ?_)
  have h2 := h1.bind1
  cases r with
  | nil => exact h2.elim
  | cons rv r =>
    cases r with
    | nil => exact h2.elim
    | cons rw r =>
      cases r with
      | nil => exact ⟨_, _, rfl, hk _ _ g s1 _ F1 _ Dn (st1.set2 rv rw) (Srv.mono h2 fun f s2 => FlPost.mono ee)⟩
      | cons _ _ => exact h2.elim
theorem jb_par3 (i j l : Nat) {x y z : Str} {a b c : Expr} {px py pz pt : Pos} {kt k2 pt2} {na : τ → R (List D × τ)} {k : D → D → D → τ → R (Fl α β × τ)} (ha : JA C φ [a, b, c] na) (hk : ∀ d e f, JB C (fun s => (((φ s).set i (some (.val d))).set j (some (.val e))).set l (some (.val f))) rest ψ χ ρ (k d e f)) (hh : C.hot = false := by rfl)
    (hi : C.X.N[i]? = some x := by rfl) (hj : C.X.N[j]? = some y := by rfl) (hl : C.X.N[l]? = some z := by rfl) (hij : i ≠ j := by decide) (hil : i ≠ l := by decide) (hjl : j ≠ l := by decide) (hx : C.X.env.scope.names.lookup x = some .local := by rfl) (hy : C.X.env.scope.names.lookup y = some .local := by rfl) (hz : C.X.env.scope.names.lookup z = some .local := by rfl)
    (hw : swappedStores [.Tuple [.Name x px, .Name y py, .Name z pz] kt pt] (.Tuple [a, b, c] k2 pt2) C.X.env = pure (some [x, y, z]) := by rfl) (hs : swapsWithSole [.Tuple [.Name x px, .Name y py, .Name z pz] kt pt] (.Tuple [a, b, c] k2 pt2) pos.line C.X.env = pure false := by rfl) :
    JB C φ (.Assign [.Tuple [.Name x px, .Name y py, .Name z pz] kt pt] (.Tuple [a, b, c] k2 pt2) pos :: rest) ψ χ ρ (fun s => (na s).bind fun p => (three p.1).bind fun q => k q.1 q.2.1 q.2.2 p.2) := fun g s σ F H Dn st h => by
  refine ⟨_, pss_cons (ps_par3 (g.calm hh) g.nd hi hj hl hij hil hjl hx hy hz pa_wp hw hs) ps_wp, ?_⟩
  refine ha g s σ F H _ st (h.bind.mono fun ds s1 h1 vs F1 H1 ee r st1 => ?_)
  have h2 := h1.bind1
  cases r with
  | nil => exact h2.elim
  | cons rv r =>
    cases r with
    | nil => exact h2.elim
    | cons rw r =>
      cases r with
      | nil => exact h2.elim
      | cons ru r =>
        cases r with
        | nil => exact ⟨_, _, _, rfl, hk _ _ _ g s1 _ F1 _ Dn ((st1.set2 rv rw).setVal ru) (Srv.mono h2 fun f s2 => FlPost.mono ee)⟩
        | cons _ _ => exact h2.elim
/-- a, b = e, [..] -/
theorem jb_par2vl (i j : Nat) {x y : Str} {a b : Expr} {px py pt : Pos} {kt k2 pt2} {ma : τ → R (D × τ)} {mb : τ → R (List D × τ)} {k : D → List D → τ → R (Fl α β × τ)} (ha : JE C φ a ma) (hb : JEL C φ b mb) (hk : ∀ d ds, JB C (fun s => ((φ s).set i (some (.val d))).set j (some (.own ds))) rest ψ χ ρ (k d ds)) (hh : C.hot = false := by rfl)
    (hi : C.X.N[i]? = some x := by rfl) (hj : C.X.N[j]? = some y := by rfl) (hij : i ≠ j := by decide) (hx : C.X.env.scope.names.lookup x = some .local := by rfl) (hy : C.X.env.scope.names.lookup y = some .local := by rfl)
    (hw : swappedStores [.Tuple [.Name x px, .Name y py] kt pt] (.Tuple [a, b] k2 pt2) C.X.env = pure (some [x, y]) := by rfl) (hs : swapsWithSole [.Tuple [.Name x px, .Name y py] kt pt] (.Tuple [a, b] k2 pt2) pos.line C.X.env = pure false := by rfl)
    (h1 : starEach [a, b] C.X.env = (false, eval a C.X.env) :: starEach [b] C.X.env := by rfl) (h2 : starEach [b] C.X.env = (false, eval b C.X.env) :: starEach [] C.X.env := by rfl) :
    JB C φ (.Assign [.Tuple [.Name x px, .Name y py] kt pt] (.Tuple [a, b] k2 pt2) pos :: rest) ψ χ ρ (fun s => (ma s).bind fun p => (mb p.2).bind fun q => k p.1 q.1 q.2) := fun g s σ F H Dn st h => by
  refine ⟨_, pss_cons (ps_par (g.calm hh) g.nd hi hj hij hx hy (pa_cons pe_wp (pa_cons pe_wp pa_nil h2) h1) hw hs) ps_wp, ?_⟩
  refine ha g s σ F H _ st (h.bind.mono fun d s1 h1 v F1 H1 e1 r1 st1 => ?_)
  refine hb g s1 σ F1 H1 _ st1 (h1.bind.mono fun ds s2 h2 l xs F2 H2 e2 hl r2 st2 => ?_)
  exact ⟨_, _, rfl, hk _ _ g s2 _ F2 _ Dn ((st2.setVal (r1.mono e2)).newOwn hl r2) (Srv.mono h2 fun f s2 => FlPost.mono (e1.trans e2))⟩
/-- a, b = [..], [] -/
theorem jb_par2ll (i j : Nat) {x y : Str} {a : Expr} {px py pt p0 : Pos} {kt k2 pt2} {ma : τ → R (List D × τ)} {k : List D → τ → R (Fl α β × τ)} (ha : JEL C φ a ma) (hk : ∀ ds, JB C (fun s => ((φ s).set i (some (.own ds))).set j (some (.own []))) rest ψ χ ρ (k ds)) (hh : C.hot = false := by rfl)
    (hi : C.X.N[i]? = some x := by rfl) (hj : C.X.N[j]? = some y := by rfl) (hij : i ≠ j := by decide) (hx : C.X.env.scope.names.lookup x = some .local := by rfl) (hy : C.X.env.scope.names.lookup y = some .local := by rfl)
    (hw : swappedStores [.Tuple [.Name x px, .Name y py] kt pt] (.Tuple [a, .List [] p0] k2 pt2) C.X.env = pure (some [x, y]) := by rfl) (hs : swapsWithSole [.Tuple [.Name x px, .Name y py] kt pt] (.Tuple [a, .List [] p0] k2 pt2) pos.line C.X.env = pure false := by rfl)
    (h1 : starEach [a, .List [] p0] C.X.env = (false, eval a C.X.env) :: starEach [.List [] p0] C.X.env := by rfl) (h2 : starEach [.List [] p0] C.X.env = (false, eval (.List [] p0) C.X.env) :: starEach [] C.X.env := by rfl) :
    JB C φ (.Assign [.Tuple [.Name x px, .Name y py] kt pt] (.Tuple [a, .List [] p0] k2 pt2) pos :: rest) ψ χ ρ (fun s => (ma s).bind fun p => k p.1 p.2) := fun g s σ F H Dn st h => by
  refine ⟨_, pss_cons (ps_par (g.calm hh) g.nd hi hj hij hx hy (pa_cons pe_wp (pa_cons (pe_lst pa_nil) pa_nil h2) h1) hw hs) ps_wp, ?_⟩
  refine ha g s σ F H _ st (h.bind.mono fun ds s1 h1 l xs F1 H1 e1 hl r1 st1 => ?_)
  exact ⟨Nat.zero_le _, fun q hq => ⟨_, _, rfl, hk _ g s1 _ F1 _ Dn ((st1.newOwn hl r1).newOwn hq .nil) (Srv.mono h1 fun f s2 => FlPost.mono e1)⟩⟩
/-- a, b = e, e a tuple of two -/
def tup2 : D → R (D × D)
  | .tup [d, e] => .ok (d, e)
  | _ => .bad
def tup3 : D → R (D × D × D)
  | .tup [d, e, f] => .ok (d, e, f)
  | _ => .bad
theorem jb_unp {tg e : Expr} {is : List Nat} {parts : D → Option (List D)} {me : τ → R (D × τ)} {k : List D → τ → R (Fl α β × τ)} (he : JE C φ e me) (hg : JG C tg is parts) (hk : ∀ ds, JB C (fun s => setMany (φ s) is ds) rest ψ χ ρ (k ds))
    (hs : swapsWithSole [tg] e pos.line C.X.env = pure false := by rfl) (hw : swappedStores [tg] e C.X.env = pure none := by rfl) (h1 : (assignEach [tg] C.X.env).map (·.2) = [assign tg C.X.env] := by rfl) :
    JB C φ (.Assign [tg] e pos :: rest) ψ χ ρ (fun s => (me s).bind fun p => (opt (parts p.1)).bind fun ds => k ds p.2) := fun g s σ F H Dn st h => by
  refine ⟨_, pss_cons (ps_asg pe_wp pg_wp hs hw h1) ps_wp, ?_⟩
  refine he g s σ F H _ st (h.bind.mono fun d s1 h1 v F1 H1 e1 r1 st1 => ?_)
  obtain ⟨ds, hp, h2⟩ := h1.bind1.opt
  exact hg g _ σ F1 H1 v d ds _ st1 r1 hp fun σ' _ st2 => hk ds g s1 σ' F1 H1 Dn st2 (Srv.mono h2 fun f s2 => FlPost.mono e1)

/-! ### isinstance -/
def tagD : D → Option String
  | .non => some "NoneType"
  | .bl _ => some "bool"
  | .int _ => some "int"
  | .str _ => some "str"
  | .tup _ => some "tuple"
  | .lst _ => some "list"
  | .scr _ => some "list"
  | .etp => some "tuple"
  | .dct _ => some "dict"
  | _ => none
def isAB (t T : String) : Bool := t == T || (t == "bool" && T == "int")
def tags : List String := ["NoneType", "bool", "int", "str", "tuple", "list", "dict"]
theorem tag_ty {T : Txt} {F H : Hp} {v : V} {d : D} {t : String} (sub : Same F H) (r : Rp T F v d) (e : tagD d = some t) : TyX T.K H v (.type t) ∧ t ∈ tags := by
  cases r with
  | non => cases e; exact ⟨.base .non, by decide⟩
  | bl b => cases e; exact ⟨.base (.bl b), by decide⟩
  | int b => cases e; exact ⟨.base (.int b), by decide⟩
  | str b => cases e; exact ⟨.base (.str b), by decide⟩
  | tup h _ => cases e; exact ⟨.base (.tup (sub _ _ h)), by decide⟩
  | lst h _ => cases e; exact ⟨.base (.lst (sub _ _ h)), by decide⟩
  | dct0 h => cases e; exact ⟨.base (.dK (sub _ _ h)), by decide⟩
  | etp h =>
    cases e
    obtain ⟨o, n, h1, h2, h3, _⟩ := h
    exact ⟨.kTuple h1 h2, by decide⟩
  | scr h =>
    cases e
    refine ⟨?_, by decide⟩
    rcases h with ⟨o, h⟩ | ⟨o, its, n, h, hc, _⟩
    · exact .base (.frz (sub _ _ h))
    · exact .kList h hc
  | _ => cases e
def KitB (T : String) : Prop := ∀ t ∈ tags, kitB t T = some (isAB t T)
theorem kit_int : KitB "int" := by unfold KitB; decide +kernel
theorem kit_bool : KitB "bool" := by unfold KitB; decide +kernel
theorem kit_str : KitB "str" := by unfold KitB; decide +kernel
theorem kit_tuple : KitB "tuple" := by unfold KitB; decide +kernel
theorem kit_list : KitB "list" := by unfold KitB; decide +kernel
theorem kit_dict : KitB "dict" := by unfold KitB; decide +kernel
/-- what the classes of the text are to isinstance: cs, those whose instances may come -/
structure TyC (T : Txt) (cs : List Str) : Prop where
  ty : ∀ c Ca, c ∈ cs → T.cls c = some Ca → Cls T.K Ca ∧ PySem.W.findIn T.K (.ref Ca) "__class__" = some (some (.builtin "object.__class__")) ∧ PySem.W.specialIn T.K (.builtin "object.__class__") "__get__" = some (some (.builtin "getset_descriptor.__get__")) ∧
    PySem.W.takesIn T.K (.builtin "object.__class__") = some true ∧ PySem.W.mroIn T.K Ca (.type "object") = some true
  no : ∀ c Ca, c ∈ cs → T.cls c = some Ca → ∀ t ∈ ["int", "bool", "str", "tuple", "list", "dict"], PySem.W.kitOne T.K (.ref Ca) (.type t) = some false
  own : ∀ c Ca c' Ca', c ∈ cs → c' ∈ cs → T.cls c = some Ca → T.cls c' = some Ca' → PySem.W.kitOne T.K (.ref Ca) (.ref Ca') = some (c == c')
  sys : ∀ c Ca, c ∈ cs → T.cls c = some Ca → ∀ t ∈ tags, PySem.W.kitOne T.K (.type t) (.ref Ca) = some false
def isTy (cs : List Str) (Ts : List String) (d : D) : R D := match d with
  | .obj c _ => chk (cs.contains c) (.bl false)
  | d => (opt (tagD d)).bind fun t => .ok (.bl (Ts.any (isAB t)))
theorem kitAny_sys {K : PySem.W.Frag} {t : String} (ht : t ∈ tags) : ∀ {Ts : List String}, (∀ T ∈ Ts, KitB T) → PySem.W.kitAny K (.type t) (Ts.map Value.type) = some (Ts.any (isAB t))
  | [], _ => rfl
  | T :: Ts, h => by
    rw [List.map_cons, List.any_cons]
    refine kitAny_cons (kit_ty (h T (List.Mem.head _) t ht)) (fun hb => ?_) (fun hb => by rw [hb]; rfl)
    rw [hb, Bool.false_or]
    exact kitAny_sys ht fun T' hT => h T' (List.Mem.tail _ hT)
theorem kitAny_no {K : PySem.W.Frag} {u : Value} : ∀ {Ts : List String}, (∀ T ∈ Ts, PySem.W.kitOne K u (.type T) = some false) → PySem.W.kitAny K u (Ts.map Value.type) = some false
  | [], _ => rfl
  | T :: Ts, h => kitAny_cons (h T (List.Mem.head _)) (fun _ => kitAny_no fun T' hT => h T' (List.Mem.tail _ hT)) (fun hb => by cases hb)
/-- the type of a value, and what it is of the types Ts -/
theorem isTy_kit {T : Txt} {cs : List Str} {Ts : List String} {F H : Hp} {v : V} {d : D} {K : D → Prop} {C : Ctx} (tc : TyC T cs) (hT : ∀ x ∈ Ts, KitB x ∧ x ∈ ["int", "bool", "str", "tuple", "list", "dict"]) (sub : Same F H) (r : Rp T F v d) (h : Srv1 C (isTy cs Ts d) K) :
    ∃ t b, TyX T.K H v t ∧ PySem.W.kitAny T.K t (Ts.map Value.type) = some b ∧ K (.bl b) := by
  have base : ∀ {t}, tagD d = some t → (∀ c fs, d ≠ .obj c fs) → K (.bl (Ts.any (isAB t))) → ∃ t b, TyX T.K H v t ∧ PySem.W.kitAny T.K t (Ts.map Value.type) = some b ∧ K (.bl b) := fun {t} e _ k =>
    ⟨_, _, (tag_ty sub r e).1, kitAny_sys (tag_ty sub r e).2 fun x hx => (hT x hx).1, k⟩
  cases d with
  | obj c fs =>
    obtain ⟨hc, k⟩ := (show Srv1 C (chk (cs.contains c) (D.bl false)) K from h).chk
    have hc' : c ∈ cs := by simpa using hc
    cases r with
    | obj ec hF hn hr =>
      obtain ⟨t1, t2, t3, t4, t5⟩ := tc.ty c _ hc' ec
      exact ⟨_, _, .base (.ins (sub _ _ hF) t1 t2 t3 t4 t5), kitAny_no fun x hx => tc.no c _ hc' ec x (hT x hx).2, k⟩
  | non => exact base rfl (fun _ _ z => nomatch z) h
  | bl b => exact base rfl (fun _ _ z => nomatch z) h
  | int b => exact base rfl (fun _ _ z => nomatch z) h
  | str b => exact base rfl (fun _ _ z => nomatch z) h
  | tup b => exact base rfl (fun _ _ z => nomatch z) h
  | lst b => exact base rfl (fun _ _ z => nomatch z) h
  | scr b => exact base rfl (fun _ _ z => nomatch z) h
  | dct b => exact base rfl (fun _ _ z => nomatch z) h
  | etp => exact base rfl (fun _ _ z => nomatch z) h
  | cache => exact h.elim
  | dcT _ => exact h.elim
  | tpN _ => exact h.elim
  | fre _ => exact h.elim
theorem je_isi {cs : List Str} {T : String} {x : Str} {e : Expr} {px pf : Pos} {me : τ → R (D × τ)} (tc : TyC C.T cs) (hT : KitB T ∧ T ∈ ["int", "bool", "str", "tuple", "list", "dict"]) (hm : C.T.mg "isinstance" = none) (hm2 : C.T.mg x = none) (he : JE C φ e me)
    (hv : bootBuiltins x = some (.type T) := by decide +kernel) (hg : Gl C.X "isinstance" := by rfl) (hg2 : Gl C.X x := by rfl) (hn : x ≠ "__name__" := by decide) (hdb : (x == ("__debug__" : Str)) = false := by decide)
    (h1 : starEach [e, .Name x px] C.X.env = (false, eval e C.X.env) :: starEach [.Name x px] C.X.env := by rfl) (h2 : starEach [.Name x px] C.X.env = (false, eval (.Name x px) C.X.env) :: starEach [] C.X.env := by rfl)
    (hpl : (backTo pos (starEach [.Name x px] C.X.env)).any (·.1) = false := by rfl) :
    JE C φ (.Call (.Name "isinstance" pf) [e, .Name x px] [] pos) (fun s => (me s).bind fun q => (isTy cs [T] q.1).bind fun d => .ok (d, q.2)) := fun gd s σ F H Q st hs => by
  refine ⟨_, pe_callB call_isi hg (by rw [gd.mg]; exact hm) boot_isinstance (pa_cons pe_wp (pa_cons (pe_bltn (v := .ty T) hg2 (by rw [gd.mg]; exact hm2) hv rfl hn hdb) pa_nil h2) h1) (by decide) (by decide) h1 hpl, ?_⟩
  refine he gd s σ F H _ st (hs.bind.mono fun d s1 h1 v F1 H1 e1 r1 st1 => ?_)
  obtain ⟨t, b, q1, q2, q3⟩ := isTy_kit tc (Ts := [T]) (fun x hx => by rw [List.mem_singleton.mp hx]; exact hT) st1.sub r1 h1.bind1
  refine ⟨v, .ty T, t, .type T, b, rfl, .ty T, by rw [gd.K]; exact q1, ?_, q3 _ F1 H1 e1 (.bl b) st1⟩
  rw [gd.K]
  have z : PySem.W.kitAny C.T.K t [.type T] = some b := q2
  unfold PySem.W.kitAny at z
  cases y : PySem.W.kitOne C.T.K t (.type T) with
  | none => rw [y] at z; cases z
  | some c =>
    rw [y] at z
    cases c with
    | true => cases z; rfl
    | false => cases z; rfl
theorem je_isi2 {cs : List Str} {T U : String} {x y : Str} {e : Expr} {px py pt pf : Pos} {kt : Nat} {me : τ → R (D × τ)} (tc : TyC C.T cs) (hT : KitB T ∧ T ∈ ["int", "bool", "str", "tuple", "list", "dict"]) (hU : KitB U ∧ U ∈ ["int", "bool", "str", "tuple", "list", "dict"]) (hm : C.T.mg "isinstance" = none) (hmx : C.T.mg x = none) (hmy : C.T.mg y = none) (he : JE C φ e me)
    (hv : bootBuiltins x = some (.type T) := by decide +kernel) (hv2 : bootBuiltins y = some (.type U) := by decide +kernel) (hg : Gl C.X "isinstance" := by rfl) (hgx : Gl C.X x := by rfl) (hgy : Gl C.X y := by rfl) (hn : x ≠ "__name__" := by decide) (hdb : (x == ("__debug__" : Str)) = false := by decide) (hn2 : y ≠ "__name__" := by decide) (hdb2 : (y == ("__debug__" : Str)) = false := by decide)
    (h1 : starEach [e, .Tuple [.Name x px, .Name y py] kt pt] C.X.env = (false, eval e C.X.env) :: starEach [.Tuple [.Name x px, .Name y py] kt pt] C.X.env := by rfl) (h2 : starEach [.Tuple [.Name x px, .Name y py] kt pt] C.X.env = (false, eval (.Tuple [.Name x px, .Name y py] kt pt) C.X.env) :: starEach [] C.X.env := by rfl)
    (h3 : starEach [.Name x px, .Name y py] C.X.env = (false, eval (.Name x px) C.X.env) :: starEach [.Name y py] C.X.env := by rfl) (h4 : starEach [.Name y py] C.X.env = (false, eval (.Name y py) C.X.env) :: starEach [] C.X.env := by rfl)
    (hpl : (backTo pos (starEach [.Tuple [.Name x px, .Name y py] kt pt] C.X.env)).any (·.1) = false := by rfl) :
    JE C φ (.Call (.Name "isinstance" pf) [e, .Tuple [.Name x px, .Name y py] kt pt] [] pos) (fun s => (me s).bind fun q => (isTy cs [T, U] q.1).bind fun d => .ok (d, q.2)) := fun gd s σ F H Q st hs => by
  refine ⟨_, pe_callB call_isiT hg (by rw [gd.mg]; exact hm) boot_isinstance (pa_cons pe_wp (pa_cons (pe_tup (pa_cons (pe_bltn (v := .ty T) hgx (by rw [gd.mg]; exact hmx) hv rfl hn hdb) (pa_cons (pe_bltn (v := .ty U) hgy (by rw [gd.mg]; exact hmy) hv2 rfl hn2 hdb2) pa_nil h4) h3)) pa_nil h2) h1) (by decide) (by decide) h1 hpl, ?_⟩
  refine he gd s σ F H _ st (hs.bind.mono fun d s1 h1 v F1 H1 e1 r1 st1 => ?_)
  refine ⟨sz_small (n := 2) (by decide), fun p hp => ?_⟩
  obtain ⟨t, b, q1, q2, q3⟩ := isTy_kit (H := upd H1 p (.tup [.ty T, .ty U])) tc (Ts := [T, U]) (fun x hx => by
    rcases List.mem_cons.mp hx with z | z
    · rw [z]; exact hT
    · rw [List.mem_singleton.mp z]; exact hU) (fun a o h => by rw [upd_ne (ne_of_none (st1.sub a o h) hp)]; exact st1.sub a o h) r1 h1.bind1
  refine ⟨v, p, [.ty T, .ty U], t, [.type T, .type U], b, rfl, upd_same, .cons (.ty T) (.cons (.ty U) .nil), by rw [gd.K]; exact q1, by rw [gd.K]; exact q2, ?_⟩
  exact q3 _ F1 _ e1 (.bl b) (st1.grow (grow_own hp) (fun a o h => by rw [upd_ne (ne_of_none (st1.sub a o h) hp)]; exact st1.sub a o h))
/-- isinstance(e, c), c an own class -/
def isCl (cs : List Str) (c : Str) (d : D) : R D := match d with
  | .obj c' _ => chk (cs.contains c') (.bl (c' == c))
  | d => (opt (tagD d)).bind fun _ => .ok (.bl false)
theorem je_isc {cs : List Str} {c : Str} {e : Expr} {px pf : Pos} {me : τ → R (D × τ)} (tc : TyC C.T cs) (hc : c ∈ cs) (hcl : ∃ Ca, C.T.cls c = some Ca ∧ C.T.mg c = some (.ref Ca)) (hm : C.T.mg "isinstance" = none) (he : JE C φ e me)
    (hg : Gl C.X "isinstance" := by rfl) (hg2 : Gl C.X c := by rfl) (hdb : (c == ("__debug__" : Str)) = false := by decide)
    (h1 : starEach [e, .Name c px] C.X.env = (false, eval e C.X.env) :: starEach [.Name c px] C.X.env := by rfl) (h2 : starEach [.Name c px] C.X.env = (false, eval (.Name c px) C.X.env) :: starEach [] C.X.env := by rfl)
    (hpl : (backTo pos (starEach [.Name c px] C.X.env)).any (·.1) = false := by rfl) :
    JE C φ (.Call (.Name "isinstance" pf) [e, .Name c px] [] pos) (fun s => (me s).bind fun q => (isCl cs c q.1).bind fun d => .ok (d, q.2)) := fun gd s σ F H Q st hs => by
  obtain ⟨Ca, ec, em⟩ := hcl
  refine ⟨_, pe_callB call_isi hg (by rw [gd.mg]; exact hm) boot_isinstance (pa_cons pe_wp (pa_cons (pe_glob (v := .ref Ca) hg2 (by rw [gd.mg]; exact em) rfl hdb) pa_nil h2) h1) (by decide) (by decide) h1 hpl, ?_⟩
  refine he gd s σ F H _ st (hs.bind.mono fun d s1 h1 v F1 H1 e1 r1 st1 => ?_)
  have h2 := h1.bind1
  have base : ∀ {t}, tagD d = some t → (∀ v F' H', Same F F' → Rp C.T F' v (.bl false) → St8 C (φ s1) σ F' H' → Q v H') → rIsi C.X.K [v, .ref Ca] H1 Q := fun {t} e k => by
    obtain ⟨q1, q2⟩ := tag_ty st1.sub r1 e
    exact ⟨v, .ref Ca, .type t, .ref Ca, false, rfl, .own Ca, by rw [gd.K]; exact q1, by rw [gd.K]; exact tc.sys c Ca hc ec t q2, k _ F1 H1 e1 (.bl _) st1⟩
  cases d with
  | obj c' fs =>
    obtain ⟨hc', k⟩ := (show Srv1 C (chk (cs.contains c') (D.bl (c' == c))) _ from h2).chk
    have hc'' : c' ∈ cs := by simpa using hc'
    cases r1 with
    | obj ec' hF hn hr =>
      obtain ⟨t1, t2, t3, t4, t5⟩ := tc.ty c' _ hc'' ec'
      exact ⟨_, .ref Ca, _, .ref Ca, _, rfl, .own Ca, by rw [gd.K]; exact .base (.ins (st1.sub _ _ hF) t1 t2 t3 t4 t5), by rw [gd.K]; exact tc.own c' _ c Ca hc'' hc ec' ec, k _ F1 H1 e1 (.bl _) st1⟩
  | non => exact base rfl h2
  | bl b => exact base rfl h2
  | int b => exact base rfl h2
  | str b => exact base rfl h2
  | tup b => exact base rfl h2
  | lst b => exact base rfl h2
  | scr b => exact base rfl h2
  | dct b => exact base rfl h2
  | etp => exact base rfl h2
  | cache => exact h2.elim
  | dcT _ => exact h2.elim
  | tpN _ => exact h2.elim
  | fre _ => exact h2.elim

/-! ### dicts of one's own -/
def keyD : D → Option Key
  | .int i => some (.inl i)
  | .str x => some (.inr x)
  | _ => none
theorem key_rp {T : Txt} {F : Hp} {v : V} {d : D} {k : Key} (r : Rp T F v d) (h : keyD d = some k) : v = kV k := by
  cases r <;> cases h <;> rfl
def valD (kvs : List (Key × D)) (k : Key) : Option D := (kvs.find? fun kv => decide (kv.1 = k)).map (·.2)
def putKD (kvs : List (Key × D)) (k : Key) (v : D) : List (Key × D) :=
  if (kvs.any fun kv => decide (kv.1 = k)) = true then kvs.map (fun kv => if kv.1 = k then (kv.1, v) else kv) else kvs ++ [(k, v)]
theorem val_rel {T : Txt} {F : Hp} {k : Key} : ∀ {kv : List (Key × V)} {kd : List (Key × D)}, kv.map (·.1) = kd.map (·.1) → Rps T F (kv.map (·.2)) (kd.map (·.2)) → (valV kv k = none ∧ valD kd k = none) ∨ ∃ v d, valV kv k = some v ∧ valD kd k = some d ∧ Rp T F v d
  | [], [], _, _ => .inl ⟨rfl, rfl⟩
  | [], _ :: _, h, _ => by simp at h
  | _ :: _, [], h, _ => by simp at h
  | (a, x) :: kv, (b, y) :: kd, h, r => by
    have e : a = b := by simpa using (List.cons.inj h).1
    subst e
    cases r with
    | cons r1 r2 =>
      by_cases c : a = k
      · exact .inr ⟨x, y, by simp [valV, c], by simp [valD, c], r1⟩
      · have := val_rel (k := k) (List.cons.inj h).2 r2
        simpa [valV, valD, c] using this
theorem put_rel {T : Txt} {F : Hp} {k : Key} {v : V} {d : D} (rv : Rp T F v d) {kv : List (Key × V)} {kd : List (Key × D)} (h : kv.map (·.1) = kd.map (·.1)) (r : Rps T F (kv.map (·.2)) (kd.map (·.2))) :
    (putK kv k v).map (·.1) = (putKD kd k d).map (·.1) ∧ Rps T F ((putK kv k v).map (·.2)) ((putKD kd k d).map (·.2)) := by
  have anyEq : ∀ {kv : List (Key × V)} {kd : List (Key × D)}, kv.map (·.1) = kd.map (·.1) → (kv.any fun q => decide (q.1 = k)) = kd.any fun q => decide (q.1 = k) := fun {kv kd} h => by
    have e1 : (kv.any fun q => decide (q.1 = k)) = (kv.map (·.1)).any fun a => decide (a = k) := by rw [List.any_map]; rfl
    have e2 : (kd.any fun q => decide (q.1 = k)) = (kd.map (·.1)).any fun a => decide (a = k) := by rw [List.any_map]; rfl
    rw [e1, e2, h]
  unfold putK putKD
  rw [anyEq h]
  by_cases c : (kd.any fun q => decide (q.1 = k)) = true
  · rw [if_pos c, if_pos c]
    clear c
    induction kv generalizing kd with
    | nil =>
      cases kd with
      | nil => exact ⟨rfl, .nil⟩
      | cons _ _ => simp at h
    | cons a kv ih =>
      cases kd with
      | nil => simp at h
      | cons b kd =>
        have e : a.1 = b.1 := by simpa using (List.cons.inj h).1
        cases r with
        | cons r1 r2 =>
          obtain ⟨i1, i2⟩ := ih (List.cons.inj h).2 r2
          simp only [List.map_cons]
          by_cases c : b.1 = k
          · rw [if_pos c, if_pos (e.trans c)]
            exact ⟨by rw [i1]; simp [e], .cons rv i2⟩
          · rw [if_neg c, if_neg (by rw [e]; exact c)]
            exact ⟨by rw [i1, e], .cons r1 i2⟩
  · rw [if_neg c, if_neg c]
    exact ⟨by simp [h], by rw [List.map_append, List.map_append]; exact r.append (Rps.one rv)⟩
theorem SlotsOk.owkAt {T : Txt} {Fr : Addr → Prop} {F H : Hp} {e : Slots} {σ : L2.St} {i : Nat} {kd : List (Key × D)} (h : SlotsOk T Fr F H e σ) (hi : e[i]?.join = some (.owk kd)) :
    ∃ l kv, σ[i]? = some (some (.ref l)) ∧ H l = some (.dK kv) ∧ kv.map (·.1) = kd.map (·.1) ∧ Rps T F (kv.map (·.2)) (kd.map (·.2)) ∧ F l = none ∧ Fr l := by
  obtain ⟨A, h1, _⟩ := h
  have q := h1 i
  rw [hi] at q
  obtain ⟨l, xs, _, ev, h1, hn, h2, h3, h4⟩ := q
  refine ⟨l, xs, ?_, h1, hn, h2, h3, h4⟩
  cases z : σ[i]? with
  | none => rw [z] at ev; cases ev
  | some o => rw [z] at ev; rw [show o = some (V.ref l) from ev]
/-- x = {} -/
theorem jb_newK (i : Nat) {x : Str} {pos' pd : Pos} {k : τ → R (Fl α β × τ)} (hk : JB C (fun s => (φ s).set i (some (.owk []))) rest ψ χ ρ k)
    (hi : C.X.N[i]? = some x := by rfl) (hx : Loc C.X.env.scope x := by first | exact Or.inl rfl | exact Or.inr rfl) (hs : swapsWith (.Dict [] [] pd) (some (.Name x pos')) pos.line C.X.env = pure false := by rfl)
    (hf : C.X.fn x = true ∨ C.X.env.scope.names.lookup x = some .local := by first | exact .inl rfl | exact .inr rfl) :
    JB C φ (.Assign [.Name x pos'] (.Dict [] [] pd) pos :: rest) ψ χ ρ k := fun g s σ F H Dn st h => by
  refine ⟨_, pss_cons (ps_set g.nd hi hx pe_dnewK hs hf) ps_wp, fun l hl => ?_⟩
  have fl : F l = none := by
    cases q : F l with
    | none => rfl
    | some o => rw [st.sub _ _ q] at hl; cases hl
  exact hk g s _ F _ Dn ⟨st.step.trans ((grow_own hl).weak fun _ z => z.elim), fun a o e => by rw [upd_ne (ne_of_none (st.sub a o e) hl)]; exact st.sub a o e,
    st.env.newOwn st.sub hl st.len ⟨l, [], rfl, rfl, upd_same, rfl, .nil, fl, .inl (st.step.dom l hl)⟩, by rw [List.length_set, List.length_set]; exact st.len⟩ h
/-- x[a] = e -/
theorem jb_putK (i : Nat) {f : τ → List (Key × D)} {x : Str} {a e : Expr} {p1 p2 : Pos} {ma me : τ → R (D × τ)} {k : List (Key × D) → τ → R (Fl α β × τ)} (he : JE C φ e me) (ha : JE C φ a ma) (hk : ∀ kd, JB C (fun s => (φ s).set i (some (.owk kd))) rest ψ χ ρ (k kd)) (hh : C.hot = false := by rfl)
    (hi : ∀ s, (φ s)[i]?.join = some (.owk (f s)) := by intro _; rfl) (hN : C.X.N[i]? = some x := by rfl) (hv : Vis C.X.env.scope x := by first | exact Or.inl rfl | exact Or.inr (Or.inl rfl) | exact Or.inr (Or.inr rfl)) (hd : (x == ("__debug__" : Str)) = false := by decide) (hcd : (x == ("__classdict__" : Str)) = false := by decide)
    (hs : swapsWith e (some (.Subscript (.Name x p1) a p2)) pos.line C.X.env = pure false := by rfl) :
    JB C φ (.Assign [.Subscript (.Name x p1) a p2] e pos :: rest) ψ χ ρ (fun s => (me s).bind fun p => (ma p.2).bind fun q => (opt (keyD q.1)).bind fun ky => (chk (decide ((f q.2).length < 1000000)) ()).bind fun _ => k (putKD (f q.2) ky p.1) q.2) := fun g s σ F H Dn st h => by
  have hu := g.u64 hh
  refine ⟨_, pss_cons (ps_dput (by omega) (pe_var hN hv hd hcd) pe_wp pe_wp hs) ps_wp, ?_⟩
  refine he g s σ F H _ st (h.bind.mono fun d s1 h1 v F1 H1 ee r1 st1 => ?_)
  obtain ⟨l, kv, e1, e2, _⟩ := st1.env.owkAt (hi s1)
  refine ⟨.ref l, e1, ?_⟩
  refine ha g s1 σ F1 H1 _ st1 (h1.bind.mono fun d2 s2 h2 v2 F2 H2 ee2 r2 st2 => ?_)
  obtain ⟨ky, hky, h3⟩ := h2.bind1.opt
  obtain ⟨c, h4⟩ := h3.bind1.chk
  obtain ⟨l', kv', q1, q2, q3, q4, q5, q6⟩ := st2.env.owkAt (hi s2)
  rw [e1] at q1
  cases q1
  have hl : kv'.length < sizeLine := Nat.lt_of_lt_of_le (by rw [← List.length_map (f := Prod.fst), q3, List.length_map]; exact of_decide_eq_true c) (sz_small (Nat.le_refl _))
  obtain ⟨z1, z2⟩ := put_rel (k := ky) (r1.mono ee2) q3 q4
  rw [key_rp r2 hky]
  refine ⟨l, _, rfl, .k q2 hl, ?_⟩
  refine hk _ g s2 _ F2 _ Dn ⟨⟨st2.step.fz, st2.step.new, fun a o ha hm => ?_, fun a ha => ?_⟩, fun a o ha => ?_, st2.env.upd1 (hi s2) (by rw [e1]; rfl) (fun as z => ?_) (fun _ => ⟨l, _, rfl, rfl, upd_same, z1, z2, q5, q6⟩), by rw [List.length_set]; exact st2.len⟩ (h4.mono fun f s2 => FlPost.mono (ee.trans ee2))
  · have ne : a ≠ l := fun z => by
      rcases q6 with z' | z'
      · rw [z, z'] at ha; cases ha
      · exact hm (by rw [z]; exact z')
    rw [upd_ne ne]
    exact st2.step.keep a o ha hm
  · by_cases c : a = l
    · rw [c, upd_same] at ha; cases ha
    · rw [upd_ne c] at ha
      exact st2.step.dom a ha
  · have ne : a ≠ l := fun z => by rw [z, q5] at ha; cases ha
    rw [upd_ne ne]
    exact st2.sub a o ha
  · obtain ⟨l2, _, rfl, z2, _⟩ := z
    cases z2
    rfl
/-- a in x, as a test -/
theorem jt_inK (i : Nat) {f : τ → List (Key × D)} {x : Str} {a : Expr} {p1 : Pos} {ma : τ → R (D × τ)} (ha : JE C φ a ma) (hh : C.hot = false := by rfl)
    (hi : ∀ s, (φ s)[i]?.join = some (.owk (f s)) := by intro _; rfl) (hN : C.X.N[i]? = some x := by rfl) (hv : Vis C.X.env.scope x := by first | exact Or.inl rfl | exact Or.inr (Or.inl rfl) | exact Or.inr (Or.inr rfl)) (hd : (x == ("__debug__" : Str)) = false := by decide) (hcd : (x == ("__classdict__" : Str)) = false := by decide)
    (hm : behindInMarks .In (.Name x p1) = false := by first | exact nobehind _ (by decide) (by decide) | rfl) :
    JT C φ (.Compare a [.In] [.Name x p1] pos) (fun s => (ma s).bind fun q => (opt (keyD q.1)).bind fun ky => .ok ((valD (f q.2) ky).isSome, q.2)) := fun g s σ F H Q st h => by
  have hu := g.u64 hh
  refine ⟨_, pt_cmp (pc_din (by omega) pe_wp (pe_var hN hv hd hcd)) hm, ?_⟩
  refine ha g s σ F H _ st (h.bind.mono fun d s1 h1 v F1 H1 ee r1 st1 => ?_)
  obtain ⟨ky, hky, h2⟩ := h1.bind1.opt
  obtain ⟨l, kv, e1, e2, e3, e4, _⟩ := st1.env.owkAt (hi s1)
  refine ⟨.ref l, e1, l, valV kv ky, rfl, ?_, _, rfl, ?_⟩
  · rw [key_rp r1 hky]
    exact .k e2
  · have h3 : ∀ F' H', Same F F' → St8 C (φ s1) σ F' H' → Q (valD (f s1) ky).isSome H' := h2
    rcases val_rel (k := ky) e3 e4 with ⟨z1, z2⟩ | ⟨v', d', z1, z2, _⟩
    · rw [z1]
      rw [z2] at h3
      exact h3 F1 H1 ee st1
    · rw [z1]
      rw [z2] at h3
      exact h3 F1 H1 ee st1
end
end Pv
set_option Elab.async false
set_option linter.all false
set_option maxRecDepth 100000
/-! PvC: ranges and other things walked; comprehensions. -/
namespace Pv
open PySem PySem.Spec PyProof.Rows L2
section
variable {C : Ctx} {τ α β : Type} {φ : τ → Slots} {pos p : Pos}
/-! ### what is walked -/
theorem Gives.range {T : Txt} {F1 : Hp} (lo hi : Int) {n : Nat} (e : n = (hi - lo).toNat) : Gives T F1 (rgD lo hi) (Itr lo n) := by
  subst e
  have hl : (rgD lo hi).length = (hi - lo).toNat := by unfold rgD; rw [List.length_map, List.length_range]
  refine ⟨fun _ => True, YFn fun i => .int (lo + i), by rw [hl]; exact walk_range, fun _ _ => trivial, fun i F H x H' hi e1 e2 y => ?_⟩
  obtain ⟨rfl, rfl⟩ := y
  rw [hl] at hi
  exact ⟨F, .int (lo + (i : Nat)), Step.refl _ _ _, e2, by unfold rgD; simp [hi], .int _⟩
def rgSm (i : Int) : Bool := decide (-1000000000 ≤ i) && decide (i ≤ 1000000000)
theorem ji_range1 {tg e : Expr} {m : τ → R (D × τ)} (hm : C.T.mg "range" = none) (h : JE C φ e m) (hg : Gl C.X "range" := by rfl) (hs : starEach [e] C.X.env = [(false, eval e C.X.env)] := by rfl) :
    JI C φ tg (.Call (.Name "range" p) [e] [] pos) (fun s => (m s).bind fun q => (asInt q.1).bind fun i => (chk (rgSm i) (rgD 0 i)).bind fun ds => .ok (ds, q.2)) := fun g s σ F H Q st hh => by
  refine ⟨_, pi_range1 hg (by rw [g.mg]; exact hm) (pa_cons pe_wp pa_nil hs) hs, ?_⟩
  refine h g s σ F H _ st (hh.bind.mono fun d s1 h1 v F1 H1 e1 r1 st1 => ?_)
  have h2 := h1.bind1
  cases r1 with
  | int i =>
    obtain ⟨c, k⟩ := (show Srv C ((chk (rgSm i) (rgD 0 i)).bind fun ds => .ok (ds, s1)) _ from h2).bind1.chk
    have c1 := of_decide_eq_true (and2 c).1
    have c2 := of_decide_eq_true (and2 c).2
    exact ⟨i, rfl, by omega, by omega, k _ F1 H1 e1 st1 (Gives.range 0 i (by omega))⟩
  | _ => exact h2.elim
theorem ji_range2 {tg a b : Expr} {ma mb : τ → R (D × τ)} (hm : C.T.mg "range" = none) (ha : JE C φ a ma) (hb : JE C φ b mb) (hg : Gl C.X "range" := by rfl) (hs : starEach [a, b] C.X.env = [(false, eval a C.X.env), (false, eval b C.X.env)] := by rfl) (hs2 : starEach [b] C.X.env = [(false, eval b C.X.env)] := by rfl) :
    JI C φ tg (.Call (.Name "range" p) [a, b] [] pos) (fun s => (ma s).bind fun q => (mb q.2).bind fun q' => (asInt q.1).bind fun i => (asInt q'.1).bind fun j => (chk (rgSm i && rgSm j) (rgD i j)).bind fun ds => .ok (ds, q'.2)) := fun g s σ F H Q st hh => by
  refine ⟨_, pi_range2 hg (by rw [g.mg]; exact hm) (pa_cons pe_wp (pa_cons pe_wp pa_nil hs2) (by rw [hs, hs2])) hs hs2, ?_⟩
  refine ha g s σ F H _ st (hh.bind.mono fun d s1 h1 v F1 H1 e1 r1 st1 => ?_)
  refine hb g s1 σ F1 H1 _ st1 (h1.bind.mono fun d' s2 h2 v' F2 H2 e2 r2 st2 => ?_)
  have h3 := h2.bind1
  cases r1 with
  | int i =>
    have h4 := (show Srv C ((asInt d').bind fun j => (chk (rgSm i && rgSm j) (rgD i j)).bind fun ds => .ok (ds, s2)) _ from h3).bind1
    cases r2 with
    | int j =>
      obtain ⟨c, k⟩ := (show Srv C ((chk (rgSm i && rgSm j) (rgD i j)).bind fun ds => .ok (ds, s2)) _ from h4).bind1.chk
      have c1 := of_decide_eq_true (and2 (and2 c).1).1
      have c2 := of_decide_eq_true (and2 (and2 c).1).2
      have c3 := of_decide_eq_true (and2 (and2 c).2).1
      have c4 := of_decide_eq_true (and2 (and2 c).2).2
      exact ⟨i, j, rfl, ⟨by omega, by omega, by omega, by omega⟩, k _ F2 H2 (e1.trans e2) st2 (Gives.range i j rfl)⟩
    | _ => exact h4.elim
  | _ => exact h3.elim
/-- pairs of a count and an item -/
def enD (ds : List D) : List D := ds.zipIdx.map fun q => D.tup [.int (q.2 : Nat), q.1]
theorem enD_len (ds : List D) : (enD ds).length = ds.length := by unfold enD; rw [List.length_map, List.length_zipIdx]
theorem enD_at {ds : List D} {i : Nat} {d : D} (h : ds[i]? = some d) : (enD ds)[i]? = some (.tup [.int (i : Nat), d]) := by
  unfold enD
  rw [List.getElem?_map, List.getElem?_zipIdx, h]
  simp
theorem Gives.enum {T : Txt} {F1 : Hp} {a : Addr} {xs : List V} {ds : List D} (h : SqL T.K F1 a xs) (r : Rps T F1 xs ds) : Gives T F1 (enD ds) (Ite T.K a) := by
  refine ⟨_, _, by rw [enD_len, ← r.length]; exact walk_enum (xs := xs), fun H e => sql_same e h, fun i F H x H' hi e1 e2 y => ?_⟩
  obtain ⟨t, u, v, rfl, ht, rfl, eu, hx⟩ := y
  cases eu
  obtain ⟨d, hd, rd⟩ := r.get' hx
  have gr := grow_new (o := .tup [.int (i : Nat), v]) e2 ht
  exact ⟨_, _, gr, sub_new e2, enD_at hd, .tup upd_same (.cons (.int _) (.cons ((rd.mono e1).mono gr.fz) .nil))⟩

/-! ### comprehensions -/
/-- the turns of a comprehension -/
def lcL (f : D → τ → R (Option D × τ)) : List D → τ → R (List D × τ)
  | [], s => .ok ([], s)
  | d :: ds, s => (f d s).bind fun q => (lcL f ds q.2).bind fun r => .ok (q.1.toList ++ r.1, r.2)
def er (D : Addr) (H : Hp) : Hp := fun a => if a = D then none else H a
theorem er_same {D : Addr} {H : Hp} : er D H D = none := if_pos rfl
theorem er_ne {D a : Addr} {H : Hp} (h : a ≠ D) : er D H a = H a := if_neg h
theorem er_some {D a : Addr} {H : Hp} {o : HO} (h : er D H a = some o) : a ≠ D ∧ H a = some o := by
  by_cases c : a = D
  · rw [c, er_same] at h; cases h
  · rw [er_ne c] at h; exact ⟨c, h⟩
theorem er_none {D a : Addr} {H : Hp} (h : H a = none) : er D H a = none := by
  by_cases c : a = D
  · rw [c]; exact er_same
  · rw [er_ne c]; exact h
theorem er_upd {D : Addr} {H : Hp} {o : HO} (h : H D = none) : er D (upd H D o) = H := by
  funext a
  by_cases c : a = D
  · rw [c, er_same, h]
  · rw [er_ne c, upd_ne c]
theorem upd_er {D : Addr} {H : Hp} {o : HO} (h : H D = some o) : upd (er D H) D o = H := by
  funext a
  by_cases c : a = D
  · rw [c, upd_same, h]
  · rw [upd_ne c, er_ne c]
theorem SlotOk.conv {T : Txt} {Fr Fr' : Addr → Prop} {F F' H H' : Hp} {sv : Option SV} {v : Option V} {as : List Addr} (h : SlotOk T Fr F H sv v as) (e : Same F F') (k : ∀ a ∈ as, H' a = H a ∧ F' a = none ∧ (Fr a → Fr' a)) : SlotOk T Fr' F' H' sv v as := by
  have h' := h.move e fun a ha => ⟨(k a ha).1, (k a ha).2.1⟩
  cases sv with
  | none => exact h'
  | some s =>
    cases s with
    | val d => exact h'
    | exc a dd c d => exact h'
    | tree d =>
      obtain ⟨x, z1, z2, z3, z4⟩ := h'
      exact ⟨x, z1, z2, z3, fun a ha => (k a ha).2.2 (z4 a ha)⟩
    | own ds =>
      obtain ⟨l, xs, rfl, h0, h1, h2, h3, h4⟩ := h'
      exact ⟨l, xs, rfl, h0, h1, h2, h3, (k l (by simp)).2.2 h4⟩
    | owk ds =>
      obtain ⟨l, xs, rfl, h0, h1, hn, h2, h3, h4⟩ := h'
      exact ⟨l, xs, rfl, h0, h1, hn, h2, h3, (k l (by simp)).2.2 h4⟩
    | owt ds =>
      obtain ⟨l, xs, rfl, h0, h1, hn, h2, h3, h4⟩ := h'
      exact ⟨l, xs, rfl, h0, h1, hn, h2, h3, (k l (by simp)).2.2 h4⟩
    | ins l dx c fs =>
      obtain ⟨Ca, xs, rfl, h0, hc, h1, hn, h2, h3, h4⟩ := h'
      exact ⟨Ca, xs, rfl, h0, hc, h1, hn, h2, h3, (k l (by simp)).2.2 h4⟩
    | deal l1 l2 cs b =>
      obtain ⟨rfl, h0, h1, h2, h3, h4, h5, h6, h7⟩ := h'
      exact ⟨rfl, h0, h1, h2, h3, h4, (k l1 (by simp)).2.2 h5, (k l2 (by simp)).2.2 h6, h7⟩
/-- a turn's room: all may change but the list that is being made -/
structure Blk where
  s : Shared
  H : Hp
  Cc : Addr
  cl : List (Str × Addr)
  fp : List Addr
  F0 : Hp
  H0 : Hp
  D : Addr
abbrev blkCtx (C : Ctx) (scope : Scope) (b : Blk) : Ctx :=
  { C with X := C.X.blk b.s b.H scope (compEnvC scope b.cl b.Cc C.X.env) b.fp, W := fun _ _ _ _ => False, eh := [], M := fun a => C.Fr a ∧ a ≠ b.D, F0 := b.F0, H0 := b.H0 }
theorem Good.blk {C : Ctx} (g : Good C) (scope : Scope) (b : Blk) : Good (blkCtx C scope b) := ⟨g.K, g.mg, g.pr, g.w, g.base, g.calm, g.nd, g.room, PassesOwn.never, takes0⟩
def wipeE (e : Slots) (vs : List Nat) : Slots := vs.foldr (fun v e => e.set v none) e
theorem SlotsOk.wipe {T : Txt} {Fr : Addr → Prop} {F H : Hp} {e : Slots} {σ : L2.St} (h : SlotsOk T Fr F H e σ) : ∀ vs : List Nat, SlotsOk T Fr F H (wipeE e vs) (L2.wipe σ vs)
  | [] => h
  | v :: vs => (SlotsOk.wipe h vs).setAny
theorem wipeE_len (e : Slots) : ∀ vs : List Nat, (wipeE e vs).length = e.length
  | [] => rfl
  | v :: vs => by
    show ((wipeE e vs).set v none).length = _
    rw [List.length_set, wipeE_len e vs]
theorem wipe_in {σ : L2.St} {i : Nat} : ∀ {vs : List Nat}, i ∈ vs → (L2.wipe σ vs)[i]? = if i < σ.length then some none else none
  | v :: vs, h => by
    show ((L2.wipe σ vs).set v none)[i]? = _
    by_cases c : v = i
    · subst c
      rw [List.getElem?_set]
      simp [L2.wipe_length]
    · rw [List.getElem?_set_ne c]
      exact wipe_in ((List.mem_cons.mp h).resolve_left (Ne.symm c))
theorem wipe_eq {σ σ' : L2.St} {is vs : List Nat} (h : SB is (L2.wipe σ vs) σ') (hs : ∀ i ∈ is, i ∈ vs) : L2.wipe σ' vs = L2.wipe σ vs := by
  refine List.ext_getElem? fun i => ?_
  by_cases c : i ∈ vs
  · rw [wipe_in c, wipe_in c, h.1, L2.wipe_length]
  · rw [wipe_out c, h.2 i fun z => c (hs i z)]
/-- in: the list that is made is nobody's -/
theorem St8.into {C : Ctx} {scope : Scope} {e : Slots} {σ : L2.St} {F H : Hp} {b : Blk} {oD : HO} (st : St8 C e σ F (er b.D H)) (hF : b.F0 = F) (hH : b.H0 = H) (hD : H b.D = some oD) : St8 (blkCtx C scope b) e σ F H := by
  have nF : F b.D = none := by
    cases q : F b.D with
    | none => rfl
    | some o =>
      have := st.sub _ _ q
      rw [er_same] at this
      cases this
  refine ⟨by rw [show (blkCtx C scope b).F0 = F from hF, show (blkCtx C scope b).H0 = H from hH]; exact Step.refl _ _ _, fun a o h => (er_some (st.sub a o h)).2, ?_, st.len⟩
  obtain ⟨A, h1, h2⟩ := id st.env
  refine ⟨A, fun i => (h1 i).conv (Same.refl F) fun a ha => ?_, h2⟩
  obtain ⟨⟨o, e1, nt⟩, e2, _⟩ := (h1 i).own_some a ha
  obtain ⟨n, e3⟩ := er_some e1
  exact ⟨by rw [e3, e1], e2, fun z => .inr ⟨z, n⟩⟩
/-- out: it stands as it was -/
theorem St8.outof {C : Ctx} {scope : Scope} {e e2 : Slots} {σ σ2 : L2.St} {F F2 H H2 : Hp} {b : Blk} {oD : HO} (st0 : St8 C e σ F (er b.D H)) (hF : b.F0 = F) (hH : b.H0 = H) (hD : H b.D = some oD) (st : St8 (blkCtx C scope b) e2 σ2 F2 H2) (hnt : ∀ xs, oD ≠ .tup xs := by intro xs h; first | cases h | (unfold L2.SetO at h; cases h)) :
    H2 b.D = some oD ∧ F2 b.D = none ∧ St8 C e2 σ2 F2 (er b.D H2) := by
  have stp : Step (fun a => C.Fr a ∧ a ≠ b.D) F H F2 H2 := by
    have z := st.step
    rw [show (blkCtx C scope b).F0 = F from hF, show (blkCtx C scope b).H0 = H from hH] at z
    exact z
  have k1 : H2 b.D = some oD := stp.keep _ _ hD fun z => z.2 rfl
  have nF : F b.D = none := by
    cases q : F b.D with
    | none => rfl
    | some o =>
      have := st0.sub _ _ q
      rw [er_same] at this
      cases this
  have nF2 : F2 b.D = none := by
    cases q : F2 b.D with
    | none => rfl
    | some o =>
      rcases stp.new _ _ q with z | z | z
      · rw [nF] at z; cases z
      · exact (nw_no hD hnt z).elim
      · exact absurd rfl z.2
  have dom0 : ∀ a, H a = none → C.H0 a = none := fun a h => st0.step.dom a (er_none h)
  refine ⟨k1, nF2, ⟨st0.step.fz.trans stp.fz, fun a o h => ?_, fun a o h m => ?_, fun a h => ?_⟩, fun a o h => ?_, ?_, st.len⟩
  · rcases stp.new a o h with z | z | z
    · exact st0.step.new a o z
    · rcases z with z | ⟨z, xs, ht⟩
      · exact .inr (.inl (.inl (dom0 a z)))
      · by_cases m : C.M a
        · exact .inr (.inr m)
        · cases q : C.H0 a with
          | none => exact .inr (.inl (.inl q))
          | some u =>
            have := (er_some (st0.step.keep a u q m)).2
            rw [z] at this
            cases this
            exact .inr (.inl (.inr ⟨q, xs, ht⟩))
    · exact .inr (z.1.imp .inl id)
  · have z := st0.step.keep a o h m
    obtain ⟨n, z2⟩ := er_some z
    rw [er_ne n]
    exact stp.keep a o z2 fun y => by
      rcases y.1 with y | y
      · rw [y] at h; cases h
      · exact m y
  · by_cases c : a = b.D
    · rw [c]; exact st0.step.dom _ er_same
    · rw [er_ne c] at h
      exact dom0 a (stp.dom a h)
  · have n : a ≠ b.D := fun z => by rw [z, nF2] at h; cases h
    rw [er_ne n]
    exact st.sub a o h
  · obtain ⟨A, h1, h2⟩ := id st.env
    refine ⟨A, fun i => (h1 i).conv (Same.refl _) fun a ha => ?_, h2⟩
    obtain ⟨⟨o, e1, nt⟩, e3, e4⟩ := (h1 i).own_some a ha
    have e4' : H a = none ∨ (C.Fr a ∧ a ≠ b.D) := by rw [← hH]; exact e4
    have n : a ≠ b.D := by
      rcases e4' with z | z
      · intro y; rw [y, hD] at z; cases z
      · exact z.2
    refine ⟨er_ne n, e3, fun _ => ?_⟩
    rcases e4' with z | z
    · exact .inl (dom0 a z)
    · exact z.1
/-- tests of a comprehension: none or one -/
def JTs (C : Ctx) {τ : Type} (φ : τ → Slots) (ifs : List Expr) (m : τ → R (Bool × τ)) : Prop := Good C → ∀ (s : τ) (σ : L2.St) (F H : Hp) (Q : Bool → Hp → Prop), St8 C (φ s) σ F H →
  Srv C (m s) (fun b s' => ∀ F' H', Same F F' → St8 C (φ s') σ F' H' → Q b H') → ∃ t, PTs C.X ifs t ∧ t σ H Q
theorem jts_nil : JTs C φ [] (fun s => .ok (true, s)) := fun g s σ F H Q st h => ⟨_, pts_nil, h F H (Same.refl F) st⟩
theorem jts_one {c : Expr} {m : τ → R (Bool × τ)} (h : JT C φ c m) : JTs C φ [c] m := fun g s σ F H Q st hs => ⟨_, pts_one pt_wp, h g s σ F H Q st hs⟩
def wpTs (X : Cx) (ifs : List Expr) : TT := fun σ H Q => ∃ t, PTs X ifs t ∧ t σ H Q
theorem pts_wp {X : Cx} {ifs : List Expr} : PTs X ifs (wpTs X ifs) := ⟨fun pins s σ H Q I ⟨t, h, q⟩ => h.run pins s σ H Q I q⟩
/-- one turn -/
def lcT (parts : D → Option (List D)) (mt : List D → τ → R (Bool × τ)) (me : List D → τ → R (D × τ)) (d : D) (s : τ) : R (Option D × τ) :=
  noErr ((opt (parts d)).bind fun xs => (mt xs s).bind fun b => if b.1 = true then (me xs b.2).bind fun r => .ok (some r.1, r.2) else .ok (none, b.2))
theorem noErr_srvs {τ' γ : Type} {r : R (γ × τ')} {f : γ × τ' → R (List D × τ')} {K : List D → τ' → Prop} (h : Srv C ((noErr r).bind f) K) : ∃ a s, r = .ok (a, s) ∧ Srv C (f (a, s)) K := by
  cases r with
  | ok q => exact ⟨q.1, q.2, rfl, h⟩
  | err c d => exact h.elim
  | bad => exact h.elim
/-- a heap in which things were added, without the list that is made -/
theorem Grow.er {F H F' H' : Hp} {D : Addr} {oD : HO} (gr : Grow F H F' H') (hD : H D = some oD) (sub : Same F (Pv.er D H)) (sub' : Same F' H') (hnt : ∀ xs, oD ≠ .tup xs := by intro xs h; first | cases h | (unfold L2.SetO at h; cases h)) : Grow F (Pv.er D H) F' (Pv.er D H') ∧ Same F' (Pv.er D H') ∧ H' D = some oD := by
  have nF : F D = none := by
    cases q : F D with
    | none => rfl
    | some o =>
      have := sub _ _ q
      rw [er_same] at this
      cases this
  have nF2 : F' D = none := by
    cases q : F' D with
    | none => rfl
    | some o =>
      rcases gr.new _ _ q with z | z | z
      · rw [nF] at z; cases z
      · exact (nw_no hD hnt z).elim
      · exact z.elim
  refine ⟨⟨gr.fz, fun a o h => ?_, fun a o h _ => ?_, fun a h => ?_⟩, fun a o h => ?_, gr.same D _ hD⟩
  · rcases gr.new a o h with z | z | z
    · exact .inl z
    · refine .inr (.inl ?_)
      rcases z with z | ⟨z, xs, ht⟩
      · exact .inl (er_none z)
      · exact .inr ⟨by rw [er_ne fun y => by rw [y, hD] at z; cases z; exact hnt xs ht]; exact z, xs, ht⟩
    · exact z.elim
  · obtain ⟨n, z⟩ := er_some h
    rw [er_ne n]
    exact gr.same a o z
  · by_cases c : a = D
    · rw [c]; exact er_same
    · rw [er_ne c] at h ⊢
      exact gr.dom a h
  · have n : a ≠ D := fun z => by rw [z, nF2] at h; cases h
    rw [er_ne n]
    exact sub' a o h
theorem wipeE_out {e : Slots} {i : Nat} : ∀ {vs : List Nat}, i ∉ vs → (wipeE e vs)[i]?.join = e[i]?.join
  | [], _ => rfl
  | v :: vs, h => by
    show ((wipeE e vs).set v none)[i]?.join = _
    rw [join_set_ne fun z => h (by rw [z]; exact List.Mem.head _)]
    exact wipeE_out fun z => h (List.Mem.tail _ z)
theorem setMany_out {i : Nat} : ∀ {is : List Nat} {ds : List D} {e : Slots}, i ∉ is → (setMany e is ds)[i]?.join = e[i]?.join
  | [], _, _, _ => rfl
  | _ :: _, [], _, _ => rfl
  | j :: is, d :: ds, e, h => by
    show (setMany (e.set j (some (.val d))) is ds)[i]?.join = _
    rw [setMany_out (fun z => h (List.Mem.tail _ z)), join_set_ne fun z => h (by rw [z]; exact List.Mem.head _)]
theorem turn_back {C : Ctx} {e : Slots} {σ σ2 : L2.St} {F H : Hp} {is vs : List Nat} {xs : List D} (st : St8 C (setMany (wipeE e vs) is xs) σ2 F H) (hn : (vs.all fun i => (e[i]?.join).isNone) = true) (hs : ∀ i ∈ is, i ∈ vs) (sb : SB is (L2.wipe σ vs) σ2) (hl : e.length ≤ σ.length) : St8 C e σ F H := by
  have hn' : ∀ i ∈ vs, e[i]?.join = none := fun i hi => by simpa using List.all_eq_true.mp hn i hi
  have st2 : SlotsOk C.T C.Fr F H e σ2 := st.env.le fun i sv h => by
    have c : i ∉ vs := fun z => by rw [hn' i z] at h; cases h
    rw [setMany_out fun z => c (hs i z), wipeE_out c]
    exact h
  refine ⟨st.step, st.sub, ?_, hl⟩
  obtain ⟨A, h1, h2⟩ := st2
  refine ⟨A, fun i => ?_, h2⟩
  have q := h1 i
  by_cases c : i ∈ vs
  · rw [hn' i c] at q ⊢
    exact q
  · have e1 : σ2[i]? = σ[i]? := by rw [sb.2 i fun z => c (hs i z), wipe_out c]
    rw [e1] at q
    exact q
theorem St8.other {C : Ctx} {scope : Scope} {b b' : Blk} {e : Slots} {σ : L2.St} {F H : Hp} (st : St8 (blkCtx C scope b) e σ F H) (hF : b'.F0 = b.F0) (hH : b'.H0 = b.H0) (hD : b'.D = b.D) : St8 (blkCtx C scope b') e σ F H := by
  obtain ⟨s, H1, Cc, cl, fp, F0, H0, D⟩ := b
  obtain ⟨s', H1', Cc', cl', fp', F0', H0', D'⟩ := b'
  cases hF
  cases hH
  cases hD
  exact ⟨st.step, st.sub, st.env, st.len⟩
def gU (C : Ctx) (scope : Scope) (tg : Expr) : TG := fun v σ H Q => ∀ (s : Shared) (H0 : Hp) (Cc : Addr) (cl : List (Str × Addr)) (fp : List Addr), wpG (C.X.blk s H0 scope (compEnvC scope cl Cc C.X.env) fp) tg v σ H Q
def tU (C : Ctx) (scope : Scope) (ifs : List Expr) : TT := fun σ H Q => ∀ (s : Shared) (H0 : Hp) (Cc : Addr) (cl : List (Str × Addr)) (fp : List Addr), wpTs (C.X.blk s H0 scope (compEnvC scope cl Cc C.X.env) fp) ifs σ H Q
def eU (C : Ctx) (scope : Scope) (elt : Expr) : TE := fun σ H Q => ∀ (s : Shared) (H0 : Hp) (Cc : Addr) (cl : List (Str × Addr)) (fp : List Addr), wpE (C.X.blk s H0 scope (compEnvC scope cl Cc C.X.env) fp) elt σ H Q
theorem lc_sem {is : List Nat} {parts : D → Option (List D)} {elt tg iter : Expr} {ifs : List Expr} {scope : Scope} (own : List (Str × Nat)) {mi : τ → R (List D × τ)} {mt : List D → τ → R (Bool × τ)} {me : List D → τ → R (D × τ)} (hi : JI C φ tg iter mi) (hg : ∀ b : Blk, JG (blkCtx C scope b) tg is parts)
    (ht : ∀ (b : Blk) (xs : List D), JTs (blkCtx C scope b) (fun s => setMany (wipeE (φ s) (own.map (·.2))) is xs) ifs (mt xs)) (he : ∀ (b : Blk) (xs : List D), JE (blkCtx C scope b) (fun s => setMany (wipeE (φ s) (own.map (·.2))) is xs) elt (me xs))
    (hn : ∀ s, ((own.map (·.2)).all fun i => ((φ s)[i]?.join).isNone) = true) (hsub : ∀ i ∈ is, i ∈ own.map (·.2)) (hlen : ∀ s s', (φ s).length = (φ s').length) (g : Good C) (s : τ) (σ : L2.St) (F H : Hp) (Q : VK) (st : St8 C (φ s) σ F H)
    (h : Srv C ((mi s).bind fun q => (chk (decide (q.1.length ≤ 1000000)) q.1).bind fun ds => lcL (lcT parts mt me) ds q.2) (fun ds s' => ∀ l xs F' H', Same F F' → H' l = none → Rps C.T F' xs ds → St8 C (φ s') σ F' H' → Q (.ref l) (upd H' l (.lst xs)))) :
    tLc (wpI C.X tg iter) (gU C scope tg) (tU C scope ifs) (eU C scope elt) (own.map (·.2)) σ H Q := by
  refine hi g s σ F H _ st (h.bind.mono fun ds s1 h1 J F1 H1 e1 st1 gv => fun D hD => ?_)
  obtain ⟨cl, hK⟩ := h1.bind1.chk
  have cl' : ds.length ≤ 1000000 := of_decide_eq_true cl
  obtain ⟨G, Y, w, hG, hY⟩ := gv
  refine lc_it w (g := gU C scope tg) (tt := tU C scope ifs) (te := eU C scope elt) (vs := own.map (·.2)) (σ := σ) (H1 := H1) (D := D) (Qd := Q (.ref D)) (fun i H' => ∃ si Fi acc out, Same F1 Fi ∧ H' D = some (.lst acc) ∧ St8 C (φ si) σ Fi (er D H') ∧ Rps C.T Fi acc out ∧ out.length ≤ i ∧
    Srv C (lcL (lcT parts mt me) (ds.drop i) si) (fun rest s' => ∀ l xs F' H', Same F F' → H' l = none → Rps C.T F' xs (out ++ rest) → St8 C (φ s') σ F' H' → Q (.ref l) (upd H' l (.lst xs)))) ?_ ?_ ?_ ?_
  · refine ⟨s1, F1, [], [], Same.refl F1, upd_same, by rw [er_upd hD]; exact st1, .nil, Nat.zero_le _, ?_⟩
    exact hK
  · rintro i H' _ ⟨si, Fi, acc, out, q1, q2, q3, _⟩
    exact hG H' (q1.trans fun a o h => (er_some (q3.sub a o h)).2)
  · rintro i x H' H2 hi' ⟨si, Fi, acc, out, q1, q2, q3, q4, q5, q6⟩ y
    obtain ⟨F3, d, gr, sub, hd, rd⟩ := hY i Fi H' x H2 hi' q1 (fun a o h => (er_some (q3.sub a o h)).2) y
    obtain ⟨gr', sub', hD2⟩ := gr.er q2 q3.sub sub
    have st3 : St8 C (φ si) σ F3 (er D H2) := q3.grow gr' sub'
    have ed : ds.drop i = d :: ds.drop (i + 1) := by
      obtain ⟨hlt, hv⟩ := List.getElem?_eq_some_iff.mp hd
      rw [List.drop_eq_getElem_cons hlt, hv]
    rw [ed] at q6
    obtain ⟨a, s4, ef, q7⟩ := noErr_srvs (show Srv C ((lcT parts mt me d si).bind fun q => (lcL (lcT parts mt me) (ds.drop (i + 1)) q.2).bind fun r => .ok (q.1.toList ++ r.1, r.2)) _ from q6)
    have q8 := q7.bind
    cases ep : parts d with
    | none => rw [ep] at ef; cases ef
    | some xs =>
      rw [ep] at ef
      have ef1 : ((mt xs si).bind fun b => if b.1 = true then (me xs b.2).bind fun r => .ok (some r.1, r.2) else .ok (none, b.2)) = .ok (a, s4) := ef
      cases et : mt xs si with
      | bad => rw [et] at ef1; cases ef1
      | err c e => rw [et] at ef1; cases ef1
      | ok bq =>
        obtain ⟨bv, s5⟩ := bq
        rw [et] at ef1
        intro sh H0 Cc cl0 fp
        have stw : St8 (blkCtx C scope ⟨sh, H0, Cc, cl0, fp, F3, H2, D⟩) (wipeE (φ si) (own.map (·.2))) (L2.wipe σ (own.map (·.2))) F3 H2 := by
          have z := st3.into (scope := scope) (b := ⟨sh, H0, Cc, cl0, fp, F3, H2, D⟩) rfl rfl hD2
          exact ⟨z.step, z.sub, z.env.wipe _, by rw [wipeE_len, L2.wipe_length]; exact z.len⟩
        refine hg ⟨sh, H0, Cc, cl0, fp, F3, H2, D⟩ (g.blk scope _) _ _ F3 H2 x d xs _ stw rd ep fun σ2 sb st6 => ⟨wipe_eq sb hsub, ?_⟩
        intro sh' H0' Cc' cl0' fp'
        refine ht ⟨sh', H0', Cc', cl0', fp', F3, H2, D⟩ xs (g.blk scope _) si σ2 F3 H2 _ (st6.other rfl rfl rfl) ?_
        rw [et]
        intro F7 H7 e7 st7
        cases bv with
        | false =>
          have ef2 : R.ok (none, s5) = R.ok (a, s4) := ef1
          cases ef2
          refine iteF ?_
          obtain ⟨k1, k2, k3⟩ := st3.outof rfl rfl hD2 st7
          exact ⟨_, F7, acc, out, (q1.trans gr.fz).trans e7, k1, turn_back k3 (hn _) hsub sb (by rw [hlen _ si]; exact st3.len), (q4.mono gr.fz).mono e7, by omega, q8⟩
        | true =>
          have ef2 : ((me xs s5).bind fun r => .ok (some r.1, r.2)) = R.ok (a, s4) := ef1
          cases em : me xs s5 with
          | bad => rw [em] at ef2; cases ef2
          | err c e => rw [em] at ef2; cases ef2
          | ok rq =>
            obtain ⟨rv, s6⟩ := rq
            rw [em] at ef2
            cases ef2
            refine iteT ?_
            intro sh2 H02 Cc2 cl02 fp2
            refine he ⟨sh2, H02, Cc2, cl02, fp2, F3, H2, D⟩ xs (g.blk scope _) s5 σ2 F7 H7 _ (st7.other rfl rfl rfl) ?_
            rw [em]
            intro vv F8 H8 e8 r8 st8
            obtain ⟨k1, k2, k3⟩ := st3.outof rfl rfl hD2 st8
            refine ⟨acc, k1, Nat.lt_of_lt_of_le (m := 1000000) (by rw [q4.length]; omega) (sz_small (Nat.le_refl _)), s6, F8, acc ++ [vv], out ++ [rv], ((q1.trans gr.fz).trans e7).trans e8, upd_same, ?_, (((q4.mono gr.fz).mono e7).mono e8).append (Rps.one r8), by rw [List.length_append]; simp; omega, ?_⟩
            · have ee : er D (upd H8 D (.lst (acc ++ [vv]))) = er D H8 := by
                funext b
                by_cases c : b = D
                · rw [c, er_same, er_same]
                · rw [er_ne c, er_ne c, upd_ne c]
              rw [ee]
              exact turn_back k3 (hn _) hsub sb (by rw [hlen _ si]; exact st3.len)
            · refine q8.mono fun rest s' z => ?_
              have z' : ∀ l xs F' H', Same F F' → H' l = none → Rps C.T F' xs (out ++ (rv :: rest)) → St8 C (φ s') σ F' H' → Q (.ref l) (upd H' l (.lst xs)) := z
              rw [List.append_assoc]
              exact z'
  · rintro H' ⟨si, Fi, acc, out, q1, q2, q3, q4, q5, q6⟩
    rw [List.drop_length] at q6
    have z : ∀ l xs F' H', Same F F' → H' l = none → Rps C.T F' xs (out ++ []) → St8 C (φ si) σ F' H' → Q (.ref l) (upd H' l (.lst xs)) := q6
    have y := z D acc Fi (er D H') (e1.trans q1) er_same (by rw [List.append_nil]; exact q4) q3
    rw [upd_er q2] at y
    exact y
/-- [elt for target in iter if ..] -/
theorem jel_lc {is : List Nat} {parts : D → Option (List D)} {elt tg iter : Expr} {ifs : List Expr} {scope : Scope} (own : List (Str × Nat)) {mi : τ → R (List D × τ)} {mt : List D → τ → R (Bool × τ)} {me : List D → τ → R (D × τ)} (hi : JI C φ tg iter mi) (hg : ∀ b : Blk, JG (blkCtx C scope b) tg is parts)
    (ht : ∀ (b : Blk) (xs : List D), JTs (blkCtx C scope b) (fun s => setMany (wipeE (φ s) (own.map (·.2))) is xs) ifs (mt xs)) (he : ∀ (b : Blk) (xs : List D), JE (blkCtx C scope b) (fun s => setMany (wipeE (φ s) (own.map (·.2))) is xs) elt (me xs))
    (hn : ∀ s, ((own.map (·.2)).all fun i => ((φ s)[i]?.join).isNone) = true := by intro _; rfl)
    (ok : blkC C.X.N C.X.env.scope scope own = true := by rfl) (hsub : ∀ i ∈ is, i ∈ own.map (·.2) := by decide) (hh : C.hot = false := by rfl) (hs : ∀ x, foldedSetIterable iter C.X.env x = pure x := by intro _; rfl) (hlen : ∀ s s', (φ s).length = (φ s').length := by intro _ _; rfl) :
    JEL C φ (.ListComp elt [⟨tg, iter, ifs, 0⟩] scope pos) (fun s => (mi s).bind fun q => (chk (decide (q.1.length ≤ 1000000)) q.1).bind fun ds => lcL (lcT parts mt me) ds q.2) := fun g s σ F H Q st h =>
  ⟨_, pe_lc (wi := wpI C.X tg iter) (g := gU C scope tg) (tt := tU C scope ifs) (te := eU C scope elt)
    (g.calm hh) g.nd pi_wp (blkOk_by ok) (fun s H Cc cl fp => ⟨fun pins s1 σ1 H1 v u Q1 I1 r q => pg_wp.run pins s1 σ1 H1 v u Q1 I1 r (q s H Cc cl fp)⟩)
    (fun s H Cc cl fp => ⟨fun pins s1 σ1 H1 Q1 I1 q => pts_wp.run pins s1 σ1 H1 Q1 I1 (q s H Cc cl fp)⟩) (fun s H Cc cl fp => ⟨fun pins s1 σ1 H1 Q1 I1 q => pe_wp.run pins s1 σ1 H1 Q1 I1 (q s H Cc cl fp)⟩) hs,
    lc_sem own hi hg ht he hn hsub hlen g s σ F H Q st h⟩
/-- x = [elt for ..] -/
theorem jb_setLc (j : Nat) {y : Str} {py spos : Pos} {rest : List Stmt} {ψ : α → τ → Slots} {χ : β → τ → Slots} {ρ : τ → Slots} {k : List D → τ → R (Fl α β × τ)} {is : List Nat} {parts : D → Option (List D)} {elt tg iter : Expr} {ifs : List Expr} {scope : Scope} (own : List (Str × Nat)) {mi : τ → R (List D × τ)} {mt : List D → τ → R (Bool × τ)} {me : List D → τ → R (D × τ)} (hi : JI C φ tg iter mi) (hg : ∀ b : Blk, JG (blkCtx C scope b) tg is parts)
    (ht : ∀ (b : Blk) (xs : List D), JTs (blkCtx C scope b) (fun s => setMany (wipeE (φ s) (own.map (·.2))) is xs) ifs (mt xs)) (he : ∀ (b : Blk) (xs : List D), JE (blkCtx C scope b) (fun s => setMany (wipeE (φ s) (own.map (·.2))) is xs) elt (me xs))
    (hk : ∀ ds, JB C (fun s => (φ s).set j (some (.own ds))) rest ψ χ ρ (k ds)) (hn : ∀ s, ((own.map (·.2)).all fun i => ((φ s)[i]?.join).isNone) = true := by intro _; rfl)
    (hy : C.X.N[j]? = some y := by rfl) (hyl : C.X.env.scope.names.lookup y = some .local := by rfl) (hsw : swapsWith (.ListComp elt [⟨tg, iter, ifs, 0⟩] scope pos) (some (.Name y py)) spos.line C.X.env = pure true := by rfl)
    (ok : blkC C.X.N C.X.env.scope scope own = true := by rfl) (hsub : ∀ i ∈ is, i ∈ own.map (·.2) := by decide) (hh : C.hot = false := by rfl) (hs : ∀ x, foldedSetIterable iter C.X.env x = pure x := by intro _; rfl) (hlen : ∀ s s', (φ s).length = (φ s').length := by intro _ _; rfl) :
    JB C φ (.Assign [.Name y py] (.ListComp elt [⟨tg, iter, ifs, 0⟩] scope pos) spos :: rest) ψ χ ρ (fun s => ((mi s).bind fun q => (chk (decide (q.1.length ≤ 1000000)) q.1).bind fun ds => lcL (lcT parts mt me) ds q.2).bind fun p => k p.1 p.2) := fun g s σ F H Dn st h => by
  refine ⟨_, pss_cons (ps_setLc (wi := wpI C.X tg iter) (g := gU C scope tg) (tt := tU C scope ifs) (te := eU C scope elt)
    (g.calm hh) g.nd hy hyl hsw pi_wp (blkOk_by ok) (fun s H Cc cl fp => ⟨fun pins s1 σ1 H1 v u Q1 I1 r q => pg_wp.run pins s1 σ1 H1 v u Q1 I1 r (q s H Cc cl fp)⟩)
    (fun s H Cc cl fp => ⟨fun pins s1 σ1 H1 Q1 I1 q => pts_wp.run pins s1 σ1 H1 Q1 I1 (q s H Cc cl fp)⟩) (fun s H Cc cl fp => ⟨fun pins s1 σ1 H1 Q1 I1 q => pe_wp.run pins s1 σ1 H1 Q1 I1 (q s H Cc cl fp)⟩) hs) ps_wp, ?_⟩
  refine lc_sem own hi hg ht he hn hsub hlen g s σ F H (fun x H1 => gName j x σ H1 (wpS C.X rest Dn)) st (h.bind.mono fun ds s1 h1 l xs F1 H1 e1 hl r1 st1 => ?_)
  exact hk ds g s1 _ F1 _ Dn (st1.newOwn hl r1) (Srv.mono h1 fun f s2 => FlPost.mono e1)
end
end Pv
set_option Elab.async false
set_option linter.all false
set_option maxRecDepth 100000
/-! PvE: enumerate of a tuple (or a list). -/
namespace Pv
open PySem PySem.Spec PyProof.Rows L2

set_option maxHeartbeats 1000000 in
theorem meets_enum1 {v : Value} {o : Obj} {H : Heap → Prop} (B : Begins v o H) :
    Meets (Builtin.«enumerate.__new__» ⟨[.type "enumerate", v], []⟩) (fun _ R s => H s.heap ∧
      R (.ok (.ret (.ref (s.heap.push o).objs.size))) { s with heap := (s.heap.push o).push { cls := .type "enumerate", data := .fields #[.none, .bool false, .ref s.heap.objs.size, rawInt 0, .none, .none] } }) :=
  .of_wp fun prog w A R s h => by
    obtain ⟨hp, g, d, tk, os⟩ := s
    obtain ⟨h1, h⟩ := h
    have hsub := sub_enumerate
    have q1 : ∀ {A' : Around} {E : Value → Shared → Prop} {Q : Value → Shared → Prop}, Q (.ref hp.objs.size) ⟨hp.push o, g, d, tk, os⟩ → wpAny (model prog w) A' (pyIter v) Q E ⟨hp, g, d, tk, os⟩ :=
      fun q => B.iter prog w _ _ ⟨hp, g, d, tk, os⟩ _ h1 q
    wp_walk using q1
    refine wpAny_stack_any fun st => wpAny_pure ?_
    split
    · rename_i c _ _ _ _ _
      cases (c == Value.type "enumerate")
      · wp_walk using q1
        exact ⟨_, rfl, h⟩
      · wp_walk using q1
        exact ⟨_, rfl, h⟩
    · wp_walk using q1
      exact ⟨_, rfl, h⟩
section
variable {prog : Program} {w : World} {A : Around} {E : Value → Shared → Prop} {s : Shared}
theorem enum1 {v : Value} {o : Obj} {H : Heap → Prop} {Q : Value → Shared → Prop} (B : Begins v o H) (h1 : H s.heap)
    (h : ∀ h', IsEnum h' (s.heap.objs.size + 1) s.heap.objs.size 0 .none → h'.get? s.heap.objs.size = some o → h'.objs.size = s.heap.objs.size + 2 →
      (∀ b o, s.heap.get? b = some o → h'.get? b = some o) → Q (.ref (s.heap.objs.size + 1)) { s with heap := h' }) :
    wpAny (model prog w) A (call (.type "enumerate") [v]) Q E s := by
  refine callType_new F.called_enumerate (by decide) (F.typeCall_enumerate_1 _) (F.newCall_enumerate_1 _) (fun obj => F.args_object_init_2 obj _) F.entry_enumerate_new (meets_enum1 B) ⟨h1, ?_⟩
  have hz : (s.heap.push o).objs.size = s.heap.objs.size + 1 := Heap.size_push ..
  have he := Heap.get?_push_size (s.heap.push o) (o := { cls := .type "enumerate", data := .fields #[.none, .bool false, .ref s.heap.objs.size, rawInt 0, .none, .none] }) rfl
  rw [hz] at he
  show _ ∧ _
  rw [hz]
  exact ⟨⟨_, he, rfl⟩, h _ he (Heap.get?_push_of_some _ (Heap.get?_push_size _ B.free)) (by rw [Heap.size_push, hz]) fun b o x => Heap.get?_push_of_some _ (Heap.get?_push_of_some _ x)⟩
end
/-- the tuple at a, each item in a new pair -/
def IteT (K : PySem.W.Frag) (a : Addr) : It :=
  ⟨fun i H => ∃ (xs : List V) (x : V), SqT K H a xs ∧ xs[i]? = some x, fun i H v H' => ∃ T x, v = .ref T ∧ H T = none ∧ H' = upd H T (.tup [.int (i : Nat), x]) ∧ ∀ xs, SqT K H a xs → xs[i]? = some x, fun i H => ∃ xs : List V, SqT K H a xs ∧ xs.length = i⟩
theorem turn_enumT {P : Program} {w : World} {K : PySem.W.Frag} {elts : List Expr} {kk : Nat} {tpos : Pos} (a e it : Addr) (hat : a ≠ it) (hae : a ≠ e) :
    Turn P w K (.Tuple elts kk tpos) (IteT K a) [e, it] e (fun i h => (∃ old, IsEnum h e it ((i : Nat) : Int) old) ∧ h.IsTupleIter it a i ∧ e ≠ it) where
  mem := by simp
  obj := fun i h st b hb => by
    obtain ⟨⟨old, he⟩, ⟨o, ho, hc, hd⟩, _⟩ := st
    rcases List.mem_cons.mp hb with z | z
    · rw [z]; exact ⟨_, he, fun v q => nomatch q⟩
    · rw [List.mem_singleton.mp z]; exact ⟨o, ho, fun v q => by rw [hd] at q; cases q⟩
  keep := fun i h h' st k => let ⟨⟨old, he⟩, hi, hne⟩ := st; ⟨⟨old, k e (by simp) _ he⟩, hi.at fun o q => k it (by simp) o q, hne⟩
  item := by
    intro X hP hw hK hc i pins s σ H E I hf st hg
    subst hP hw hK
    obtain ⟨⟨old, he⟩, hit, hne⟩ := st
    obtain ⟨xs, x, hq, hx⟩ := hg
    obtain ⟨its, rv, p, hz⟩ := I.tuple hq
    obtain ⟨u, hu, ru⟩ := rv.get hx
    have hel : e < s.heap.objs.size := Heap.lt_size he
    have hil : it < s.heap.objs.size := by obtain ⟨_, q, _⟩ := hit; exact Heap.lt_size q
    have hu' : its.toArray[i]? = some u := by simpa using hu
    have hlt : i < its.toArray.size := (Array.getElem?_eq_some_iff.mp hu').1
    refine wpAny_pyNext_enum_itemD (D := Draws.tuple (A := X.A.in1) (I.ok.hd hc) it a hat its.toArray) he ⟨hit, p⟩ hlt hne (by simp [hne, Ne.symm hae]) fun y h' tk hy ho hst hT hsz hk => ?_
    have ey : y = u := by rw [hu'] at hy; exact (Option.some.inj hy).symm
    subst ey
    refine ⟨_, rfl, wpAny_letOwnedTupleGo_enum (s := { s with heap := h', toks := tk + 1 }) ho fun h'' he' sb => ?_⟩
    have hT2 : h''.get? s.heap.objs.size = some { cls := .type "tuple", data := .seq #[.int i tk, y] } := (sb.2 _ (Nat.ne_of_gt hel)).trans hT
    have new : ObjOk X.prog X.w (upd H s.heap.objs.size (.tup [.int (i : Nat), x])) h'' s.heap.objs.size (.tup [.int (i : Nat), x]) :=
      ⟨by show 2 ≤ sizeLine; decide, [.int i tk, y], .cons ⟨_, rfl⟩ (.cons ru .nil), ⟨_, hT2, rfl, _, rfl⟩⟩
    have I1 : Inv X pins σ (upd H s.heap.objs.size (.tup [.int (i : Nat), x])) { s with heap := h'', toks := tk + 1 } :=
      I.turnedNew (ch := [e, it]) (fun b ob hb q => (sb.2 b (fun z => hb (by simp [z]))).trans (hk b ob (fun z => hb (by simp [z])) (fun z => hb (by simp [z])) q)) hf (Nat.le_refl _) new
    refine ⟨.ref s.heap.objs.size, _, I1, rfl, ⟨_, x, rfl, I.hok.fresh (Nat.le_refl _), rfl, fun ys hy => by rw [I.tuple_inj hy hq]; exact hx⟩, ⟨⟨y, ?_⟩, hst.1.at fun o q => (sb.2 it (Ne.symm hne)).trans q, hne⟩, fun b hb => ?_⟩
    · have e1 : ((i + 1 : Nat) : Int) = (i : Int) + 1 := by omega
      rw [e1]; exact he'
    · have hb' : b < s.heap.objs.size := by
        rcases List.mem_cons.mp hb with z | z
        · rw [z]; exact hel
        · rw [List.mem_singleton.mp z]; exact hil
      rw [upd_ne (Nat.ne_of_lt hb')]
      exact (hf b hb).1
  done := by
    intro X hP hw hK hc i pins s σ H E I hf st hg
    subst hP hw hK
    obtain ⟨⟨old, he⟩, hit, hne⟩ := st
    obtain ⟨xs, hq, hx⟩ := hg
    obtain ⟨its, rv, p, hz⟩ := I.tuple hq
    obtain ⟨f0, f1, f2, f3, f4, f5⟩ := hf it (by simp)
    have hl := rv.length
    have hn : its.toArray.size = i := by rw [List.size_toArray, ← hl, hx]
    refine wpAny_pyNext_enum_endD (D := Draws.tuple (A := X.A.in1) (I.ok.hd hc) it a hat its.toArray) he (by rw [hn]; exact ⟨hit, p⟩) fun h' eb => ⟨rfl, I.turned (t' := s.toks) (fun b o hb q => ?_) f0 f1 f3 f4 f5⟩
    exact eb b o hb q
  self := fun A i s Q E st h => let ⟨⟨_, he⟩, _⟩ := st; wpAny_pyIter_enum he h

def iEnumA (K : PySem.W.Frag) (ta : TA) : TI := fun σ H R => ta σ H fun vs H1 => ∃ a, vs = [.ref a] ∧ ((∃ xs, SqL K H1 a xs ∧ R (Ite K a) H1) ∨ ∃ xs, SqT K H1 a xs ∧ R (IteT K a) H1)
theorem pi_enumA {X : Cx} {e : Expr} {ta : TA} {p pos tpos : Pos} {elts : List Expr} {kk : Nat} (hg : Gl X "enumerate") (hm : X.mg "enumerate" = none) (ha : PA X [e] ta) (hs : starEach [e] X.env = [(false, eval e X.env)] := by rfl) :
    PI X (.Tuple elts kk tpos) (.Call (.Name "enumerate" p) [e] [] pos) (iEnumA X.K ta) := by
  refine ⟨fun pins s σ H R I h => ?_⟩
  refine Call_ (ld_blt I hg hm boot_enumerate (PyProof.Rows.callWith_type1 (thn (ha.run pos pins s σ H _ I h) fun us s1 ⟨vs, H1, I1, r1, q1⟩ => ?_) hs rfl))
  obtain ⟨a, ex, q⟩ := q1
  subst ex
  cases r1 with
  | cons r rr =>
    cases rr
    cases r
    have fp : ∀ b ∈ [s1.heap.objs.size + 1, s1.heap.objs.size], FpOk X pins H1 b := fun b hb => by
      have hle : s1.heap.objs.size ≤ b := by
        rcases List.mem_cons.mp hb with z | z
        · rw [z]; exact Nat.le_add_right _ _
        · rw [List.mem_singleton.mp z]; exact Nat.le_refl _
      exact I1.fpOk hle (I1.hok.fresh hle)
    rcases q with ⟨xs, hq, q⟩ | ⟨xs, hq, q⟩
    · obtain ⟨its, rv, p', hz⟩ := I1.list hq
      refine call_enumerate_list p'.isList fun h' he hit hsz hk => wpAny_pyIter_enum he ?_
      exact ⟨s1.heap.objs.size + 1, [s1.heap.objs.size + 1, s1.heap.objs.size], _, _, H1, rfl, I1.kept (t' := s1.toks) hk, turn_enum a (s1.heap.objs.size + 1) s1.heap.objs.size, ⟨⟨.none, he⟩, hit, Nat.succ_ne_self _⟩, fp, q⟩
    · obtain ⟨its, rv, p', hz⟩ := I1.tuple hq
      have hal : a < s1.heap.objs.size := by obtain ⟨_, q, _⟩ := p'; exact Heap.lt_size q
      refine enum1 (begins_tuple a its.toArray) p' fun h' he hit hsz hk => wpAny_pyIter_enum he ?_
      exact ⟨s1.heap.objs.size + 1, [s1.heap.objs.size + 1, s1.heap.objs.size], _, _, H1, rfl, I1.kept (t' := s1.toks) hk, turn_enumT a (s1.heap.objs.size + 1) s1.heap.objs.size (Nat.ne_of_lt hal) (Nat.ne_of_lt (Nat.lt_succ_of_lt hal)), ⟨⟨.none, he⟩, ⟨_, hit, rfl, rfl⟩, Nat.succ_ne_self _⟩, fp, q⟩
theorem Gives.enumT {T : Txt} {F1 : Hp} {a : Addr} {xs : List V} {ds : List D} (h : SqT T.K F1 a xs) (r : Rps T F1 xs ds) : Gives T F1 (enD ds) (IteT T.K a) := by
  refine ⟨fun H => SqT T.K H a xs, fun i H v H' => ∃ t x, v = .ref t ∧ H t = none ∧ H' = upd H t (.tup [.int (i : Nat), x]) ∧ xs[i]? = some x, ?_, fun H e => sqt_same e h, fun i F H x H' hi e1 e2 y => ?_⟩
  · rw [enD_len, ← r.length]
    refine ⟨fun i H hi q => ⟨xs, xs[i], q, by simp [hi]⟩, fun H q => ⟨xs, q, rfl⟩, fun i H v H' hi q y => ?_⟩
    obtain ⟨t, x, h1, h2, h3, h4⟩ := y
    exact ⟨t, x, h1, h2, h3, h4 xs q⟩
  · obtain ⟨t, v, rfl, ht, rfl, hx⟩ := y
    obtain ⟨d, hd, rd⟩ := r.get' hx
    have gr := grow_new (o := .tup [.int (i : Nat), v]) e2 ht
    exact ⟨_, _, gr, sub_new e2, enD_at hd, .tup upd_same (.cons (.int _) (.cons ((rd.mono e1).mono gr.fz) .nil))⟩
theorem ji_enum {C : Ctx} {τ : Type} {φ : τ → Slots} {p pos tpos : Pos} {elts : List Expr} {kk : Nat} {e : Expr} {m : τ → R (D × τ)} (hm : C.T.mg "enumerate" = none) (h : JE C φ e m) (hg : Gl C.X "enumerate" := by rfl) (hs : starEach [e] C.X.env = [(false, eval e C.X.env)] := by rfl) :
    JI C φ (.Tuple elts kk tpos) (.Call (.Name "enumerate" p) [e] [] pos) (fun s => (m s).bind fun q => (asItems q.1).bind fun ds => .ok (enD ds, q.2)) := fun g s σ F H Q st hh => by
  refine ⟨_, pi_enumA hg (by rw [g.mg]; exact hm) (pa_cons pe_wp pa_nil hs) hs, ?_⟩
  refine h g s σ F H _ st (hh.bind.mono fun d s1 h1 v F1 H1 e1 r1 st1 => ?_)
  have h2 := h1.bind1
  rw [g.K]
  cases r1 with
  | @lst a xs ds hl rl => exact ⟨a, rfl, .inl ⟨xs, .inl (.inl (st1.sub _ _ hl)), h2 _ F1 H1 e1 st1 (Gives.enum (.inl (.inl hl)) rl)⟩⟩
  | @tup a xs ds hl rl => exact ⟨a, rfl, .inr ⟨xs, .inl (.inl (st1.sub _ _ hl)), h2 _ F1 H1 e1 st1 (Gives.enumT (.inl (.inl hl)) rl)⟩⟩
  | @tpN a o xs ds hl _ _ rl => exact ⟨a, rfl, .inr ⟨xs, .inl (.inr ⟨_, st1.sub _ _ hl⟩), h2 _ F1 H1 e1 st1 (Gives.enumT (.inl (.inr ⟨_, hl⟩)) rl)⟩⟩
  | @scr a ns hl => exact ⟨a, rfl, .inl ⟨_, sql_same st1.sub hl.sql, h2 _ F1 H1 e1 st1 (Gives.enum hl.sql (Rps.ints _))⟩⟩
  | @etp a hl => exact ⟨a, rfl, .inr ⟨_, hl.sqt, h2 _ F1 H1 e1 st1 (Gives.enumT hl.sqt .nil)⟩⟩
  | _ => exact h2.elim
end Pv
set_option Elab.async false
set_option linter.all false
set_option maxRecDepth 100000
/-! PvK: what a caller knows of a def, from the def's own proof. -/
namespace Pv
open PySem PySem.Spec PyProof.Rows L2

def DefAt (T : Txt) (x qual : Str) (st : Stmt) : Prop := ∃ f fd, Fun T.K x qual st f fd ∧ T.mg x = some (.ref f)
theorem vals_getD {zs : List V} {ws : List Value} (r : Vals zs ws) (i : Nat) : RelV (zs.getD i .non) (ws.getD i .none) := by
  rw [List.getD_eq_getElem?_getD, List.getD_eq_getElem?_getD]
  cases q : zs[i]? with
  | none =>
    have hl := r.length
    have : ws[i]? = none := by
      rw [List.getElem?_eq_none_iff] at q ⊢
      omega
    rw [this]
    rfl
  | some v =>
    obtain ⟨u, h1, h2⟩ := r.get q
    rw [h1]
    exact h2
theorem vals_pm {zs : List V} {ws : List Value} (r : Vals zs ws) : ∀ pm : List Nat, Vals (pm.map fun i => zs.getD i .non) (pm.map fun i => ws.getD i .none)
  | [] => .nil
  | i :: pm => .cons (vals_getD r i) (vals_pm r pm)
theorem rps_getD {T : Txt} {F : Hp} {zs : List V} {es : List D} (r : Rps T F zs es) (i : Nat) : Rp T F (zs.getD i .non) (es.getD i .non) := by
  rw [List.getD_eq_getElem?_getD, List.getD_eq_getElem?_getD]
  cases q : es[i]? with
  | none =>
    have hl := r.length
    have : zs[i]? = none := by
      rw [List.getElem?_eq_none_iff] at q ⊢
      omega
    rw [this]
    exact .non
  | some v =>
    obtain ⟨u, h1, h2⟩ := r.get q
    rw [h1]
    exact h2
theorem rps_pm {T : Txt} {F : Hp} {zs : List V} {es : List D} (r : Rps T F zs es) : ∀ pm : List Nat, Rps T F (pm.map fun i => zs.getD i .non) (pm.map fun i => es.getD i .non)
  | [] => .nil
  | i :: pm => .cons (rps_getD r i) (rps_pm r pm)
/-- the values written, then those of the keywords by the order of the parameters -/
def argsM (pm : List Nat) (ds es : List D) : List D := ds ++ pm.map fun i => es.getD i .non
def callM {α : Type} (n m : Nat) (pm : List Nat) (f : List D → R α) (ds es : List D) : R α := if ds.length = n ∧ es.length = m then f (argsM pm ds es) else .bad
def callL {α : Type} (n m : Nat) (pm : List Nat) (f : List D → Deal → R (α × Deal)) (ds es : List D) (dl : Deal) : R (α × Deal) := if ds.length = n ∧ es.length = m then f (argsM pm ds es) dl else .bad
section
variable {T : Txt} {x qual : Str} {st : Stmt} {ps ks : List Str} {pm : List Nat} {n k j : Nat}
def BindOk (x qual : Str) (st : Stmt) (ps ks : List Str) (pm : List Nat) (n : Nat) : Prop := ∀ (kV doc pmv : Value) (an : Option Addr) (cdv ct : Value) (us ws : List Value), us.length = n → ws.length = ks.length →
  bindArgs (PySem.W.fnOf x qual (defArgs st) (defBody st) (defScope st) .none kV doc pmv an cdv ct) ⟨us, ks.zip ws⟩ = pure (ps.zip (us ++ pm.map fun i => ws.getD i .none))
theorem kbn_of {f : Addr} {fd : FuncData} (F : Fun T.K x qual st f fd) (hb : BindOk x qual st ps ks pm n) : KBn T.K fd ps n ks (fun us ws => us ++ pm.map fun i => ws.getD i .none) (fun vs zs => vs ++ pm.map fun i => zs.getD i .non) := by
  obtain ⟨oc, od, kV, doc, pmv, an, cdv, ct, osl, rfl, lk, hcd⟩ := F.ex
  exact ⟨fun s us ws _ h1 h2 => .of_eq (hb kV doc pmv an cdv ct us ws h1 h2), fun r rz => r.append (vals_pm rz pm)⟩
theorem mk_calleeD {mm : List D → R D} (hd : DefAt T x qual st) (hfn : ∀ f fd, Fun T.K x qual st f fd → FnG T.P T.w T.K T.mg T.base (L2.CX T.P T.w) j f fd ps (SpD T k mm)) (hk : n + pm.length = k) (hb : BindOk x qual st ps ks pm n) :
    CalleeD T x n ks j (callM n ks.length pm mm) := by
  obtain ⟨f, fd, F, hm⟩ := hd
  refine ⟨k, mm, _, ⟨f, fd, ps, _, hfn f fd F, hm, F.kp, kbn_of F hb⟩, fun G vs zs ds es r rz l1 l2 => ⟨argsM pm ds es, r.append (rps_pm rz pm), ?_, ?_⟩, fun ds es h => ?_⟩
  · unfold argsM
    rw [List.length_append, List.length_map]
    omega
  · exact (if_pos ⟨l1, l2⟩).symm
  · by_cases c : ds.length = n ∧ es.length = ks.length
    · exact c
    · exact absurd (if_neg c) h
theorem mk_calleeL {mm : List D → Deal → R (D × Deal)} (hd : DefAt T x qual st) (hfn : ∀ f fd, Fun T.K x qual st f fd → FnG T.P T.w T.K T.mg T.base (L2.CX T.P T.w) j f fd ps (SpL T k mm)) (hk : n + pm.length = k) (hb : BindOk x qual st ps ks pm (n + 1)) :
    CalleeL T x n ks j (callL n ks.length pm mm) := by
  obtain ⟨f, fd, F, hm⟩ := hd
  refine ⟨k, mm, _, ⟨f, fd, ps, _, hfn f fd F, hm, F.kp, kbn_of F hb⟩, fun G l1 vs zs ds es r rz h1 h2 => ⟨vs ++ pm.map fun i => zs.getD i .non, argsM pm ds es, rfl, r.append (rps_pm rz pm), ?_, ?_⟩, fun ds es dl h => ?_⟩
  · unfold argsM
    rw [List.length_append, List.length_map]
    omega
  · funext dl
    exact (if_pos ⟨h1, h2⟩).symm
  · by_cases c : ds.length = n ∧ es.length = ks.length
    · exact c
    · exact absurd (if_neg c) h
/-- a class's __init__ -/
structure MkAt (T : Txt) (c qual : Str) (st : Stmt) : Prop where
  ex : ∃ Ca f fd, T.cls c = some Ca ∧ T.mg c = some (.ref Ca) ∧ Mk T.K Ca f ∧ Fun T.K "__init__" qual st f fd
theorem mk_calleeI {c : Str} {mm : List D → R (List (Str × D))} (hd : MkAt T c qual st) (hfn : ∀ f fd, Fun T.K "__init__" qual st f fd → FnG T.P T.w T.K T.mg T.base (L2.CX T.P T.w) j f fd ps (SpI T c k mm)) (hk : n + pm.length = k) (hb : BindOk "__init__" qual st ps ks pm (n + 1)) :
    CalleeI T c n ks j (callM n ks.length pm mm) := by
  obtain ⟨Ca, f, fd, h1, h2, M, F⟩ := hd.ex
  refine ⟨k, mm, _, Ca, f, fd, ps, _, h1, h2, M, hfn f fd F, kbn_of F hb, fun G p vs zs ds es r rz l1 l2 => ⟨vs ++ pm.map fun i => zs.getD i .non, argsM pm ds es, rfl, r.append (rps_pm rz pm), ?_, ?_⟩, fun ds es h => ?_⟩
  · unfold argsM
    rw [List.length_append, List.length_map]
    omega
  · exact (if_pos ⟨l1, l2⟩).symm
  · by_cases c : ds.length = n ∧ es.length = ks.length
    · exact c
    · exact absurd (if_neg c) h
end
end Pv
set_option Elab.async false
set_option linter.all false
set_option maxRecDepth 100000
/-! PvD: what a deal suffers; where it comes from. -/
namespace Pv
open PySem PySem.Spec PyProof.Rows L2
section
variable {C : Ctx} {α β : Type} {φ : Deal → Slots} {ψ : α → Deal → Slots} {χ : β → Deal → Slots} {ρ : Deal → Slots} {rest : List Stmt} {pos p1 p2 ap cp : Pos} {l1 l2 : Addr} {dn : Str} {k0 : Nat}
theorem St8.dealPut {e : Slots} {σ : L2.St} {F H : Hp} {i : Nat} {dl : Deal} {cs : List Int} (st : St8 C e σ F H) (hi : e[i]?.join = some (.deal l1 l2 dl.1 dl.2)) : St8 C (e.set i (some (.deal l1 l2 cs dl.2))) σ F (upd H l2 (.lst (cs.map V.int))) := by
  obtain ⟨_, da⟩ := st.env.dealAt hi
  refine st.deal (dl' := (cs, dl.2)) hi ⟨Same.refl F, fun a o h => .inl h, fun a o h m => ?_, fun a h => ?_⟩ (fun a o h => ?_) ⟨?_, upd_same, da.f1, da.f2, da.ne⟩
  · rw [upd_ne fun z => m (.inr z)]; exact h
  · by_cases c : a = l2
    · rw [c, upd_same] at h; cases h
    · rw [upd_ne c] at h; exact h
  · have n : a ≠ l2 := fun z => by rw [z, da.f2] at h; cases h
    rw [upd_ne n]; exact st.sub a o h
  · rw [upd_ne da.ne]; exact da.h1
/-- deal[0].pop() -/
theorem je_dealPop (i : Nat) (hd : ∀ dl, (φ dl)[i]?.join = some (.deal l1 l2 dl.1 dl.2) := by intro _; rfl) (hput : ∀ dl dl' : Deal, (φ dl).set i (some (.deal l1 l2 dl'.1 dl'.2)) = φ dl' := by intro _ _; rfl)
    (hN : C.X.N[i]? = some dn := by rfl) (hv : Vis C.X.env.scope dn := by first | exact Or.inl rfl | exact Or.inr (Or.inl rfl) | exact Or.inr (Or.inr rfl)) (hdb : (dn == ("__debug__" : Str)) = false := by decide) (hcd : (dn == ("__classdict__" : Str)) = false := by decide)
    (hbase : attributeBase (.Subscript (.Name dn p1) (.Constant (.int 0) k0 p2) pos) "pop" C.X.env (eval (.Subscript (.Name dn p1) (.Constant (.int 0) k0 p2) pos) C.X.env) = eval (.Subscript (.Name dn p1) (.Constant (.int 0) k0 p2) pos) C.X.env := by rfl) (hline : (ap.endLine == cp.line) = true := by rfl) :
    JE C φ (.Call (.Attribute (.Subscript (.Name dn p1) (.Constant (.int 0) k0 p2) pos) "pop" ap) [] [] cp) (fun dl => (opt dl.1.getLast?).bind fun c => .ok (.int c, (dl.1.dropLast, dl.2))) := fun g dl σ F H Q st h => by
  refine ⟨_, pe_bm0 PySem.F.plainAttrs_list PySem.F.slot_list_pop PySem.F.type_list_pop mt_pop (pe_ix ix_list (pe_var hN hv hdb hcd) pe_int (by intro _ _; rfl)) hbase hline, ?_⟩
  obtain ⟨e1, da⟩ := st.env.dealAt (hd dl)
  obtain ⟨c, hc, h2⟩ := h.bind1.opt
  refine ⟨.ref l1, e1, l1, _, 0, .ref l2, rfl, rfl, .inl (.inl da.h1), rfl, .inl ⟨rfl, _, .inl (.inl da.h2)⟩, l2, dl.1.map V.int, .int c, rfl, rfl, da.h2, ?_, ?_⟩
  · rw [List.length_map, List.getElem?_map, ← List.getLast?_eq_getElem?, hc]; rfl
  · have st2 := st.dealPut (cs := dl.1.dropLast) (hd dl)
    rw [hput dl (dl.1.dropLast, dl.2)] at st2
    rw [← List.map_dropLast]
    exact (show ∀ v F' H', Same F F' → Rp C.T F' v (.int c) → St8 C (φ (dl.1.dropLast, dl.2)) σ F' H' → Q v H' from h2) _ F _ (Same.refl F) (.int c) st2
/-- deal[0].append(e) -/
theorem je_dealApp (i : Nat) {e : Expr} {me : Deal → R (D × Deal)} (he : JE C φ e me) (hd : ∀ dl, (φ dl)[i]?.join = some (.deal l1 l2 dl.1 dl.2) := by intro _; rfl) (hput : ∀ dl dl' : Deal, (φ dl).set i (some (.deal l1 l2 dl'.1 dl'.2)) = φ dl' := by intro _ _; rfl)
    (hN : C.X.N[i]? = some dn := by rfl) (hv : Vis C.X.env.scope dn := by first | exact Or.inl rfl | exact Or.inr (Or.inl rfl) | exact Or.inr (Or.inr rfl)) (hdb : (dn == ("__debug__" : Str)) = false := by decide) (hcd : (dn == ("__classdict__" : Str)) = false := by decide)
    (hbase : attributeBase (.Subscript (.Name dn p1) (.Constant (.int 0) k0 p2) pos) "append" C.X.env (eval (.Subscript (.Name dn p1) (.Constant (.int 0) k0 p2) pos) C.X.env) = eval (.Subscript (.Name dn p1) (.Constant (.int 0) k0 p2) pos) C.X.env := by rfl) (hline : (ap.endLine == cp.line) = true := by rfl)
    (hfew : ((backTo cp (starEach (e :: []) C.X.env)).all (fun x => !x.1) && (backToKw cp (keywordEach [] C.X.env)).all (fun x => x.1.isSome) && decide ((e :: []).length + ([] : List Keyword).length + (if ([] : List Keyword).isEmpty then 0 else 1) < 30)) = true := by rfl)
    (hst : starEach (e :: []) C.X.env = (false, eval e C.X.env) :: starEach [] C.X.env := by rfl) (hpl : (backTo cp (starEach [] C.X.env)).any (·.1) = false := by rfl) :
    JE C φ (.Call (.Attribute (.Subscript (.Name dn p1) (.Constant (.int 0) k0 p2) pos) "append" ap) [e] [] cp) (fun dl => (me dl).bind fun q => (asInt q.1).bind fun c => (chk (decide (q.2.1.length < 1000000)) ()).bind fun _ => .ok (.non, (q.2.1 ++ [c], q.2.2))) := fun g dl σ F H Q st h => by
  refine ⟨_, pe_bm PySem.F.plainAttrs_list PySem.F.slot_list_append PySem.F.type_list_append mt_append (pe_ix ix_list (pe_var hN hv hdb hcd) pe_int (by intro _ _; rfl)) (pa_cons pe_wp pa_nil hst) hbase hfew hline hst hpl, ?_⟩
  obtain ⟨e1, da⟩ := st.env.dealAt (hd dl)
  refine ⟨.ref l1, e1, l1, _, 0, .ref l2, rfl, rfl, .inl (.inl da.h1), rfl, .inl ⟨rfl, _, .inl (.inl da.h2)⟩, ?_⟩
  refine he g dl σ F H _ st (h.bind.mono fun d dl1 h1 v F1 H1 ee r1 st1 => ?_)
  have h2 := h1.bind1
  cases r1 with
  | int c =>
    obtain ⟨cl, h3⟩ := (show Srv C ((chk (decide (dl1.1.length < 1000000)) ()).bind fun _ => _) _ from h2).bind1.chk
    obtain ⟨_, da1⟩ := st1.env.dealAt (hd dl1)
    refine ⟨l2, dl1.1.map V.int, .int c, rfl, rfl, da1.h2, Nat.lt_of_lt_of_le (by rw [List.length_map]; exact of_decide_eq_true cl) (sz_small (Nat.le_refl _)), ?_⟩
    have st2 := st1.dealPut (cs := dl1.1 ++ [c]) (hd dl1)
    rw [hput dl1 (dl1.1 ++ [c], dl1.2), List.map_append] at st2
    exact (show ∀ v F' H', Same F F' → Rp C.T F' v .non → St8 C (φ (dl1.1 ++ [c], dl1.2)) σ F' H' → Q v H' from h3) _ F1 _ ee .non st2
  | _ => exact h2.elim
/-- deal[1] = e -/
theorem jb_dealSet (i : Nat) {e : Expr} {me : Deal → R (D × Deal)} {k : Deal → R (Fl α β × Deal)} (he : JE C φ e me) (hk : JB C φ rest ψ χ ρ k) (hd : ∀ dl, (φ dl)[i]?.join = some (.deal l1 l2 dl.1 dl.2) := by intro _; rfl) (hput : ∀ dl dl' : Deal, (φ dl).set i (some (.deal l1 l2 dl'.1 dl'.2)) = φ dl' := by intro _ _; rfl)
    (hN : C.X.N[i]? = some dn := by rfl) (hv : Vis C.X.env.scope dn := by first | exact Or.inl rfl | exact Or.inr (Or.inl rfl) | exact Or.inr (Or.inr rfl)) (hdb : (dn == ("__debug__" : Str)) = false := by decide) (hcd : (dn == ("__classdict__" : Str)) = false := by decide)
    (hsub : ∀ v, assign (.Subscript (.Name dn p1) (.Constant (.int 1) k0 p2) ap) C.X.env v = (do
      let ov ← holding [v] (eval (.Name dn p1) C.X.env)
      let iv ← holding [v, ov] (eval (.Constant (.int 1) k0 p2) C.X.env)
      standAt ap
      holding [v, ov, iv] (setItem ov iv v)
      release [v, ov, iv] []) := by intro _; rfl)
    (hs : swapsWithSole [.Subscript (.Name dn p1) (.Constant (.int 1) k0 p2) ap] e pos.line C.X.env = pure false := by rfl) (hw : swappedStores [.Subscript (.Name dn p1) (.Constant (.int 1) k0 p2) ap] e C.X.env = pure none := by rfl)
    (h1 : (assignEach [.Subscript (.Name dn p1) (.Constant (.int 1) k0 p2) ap] C.X.env).map (·.2) = [assign (.Subscript (.Name dn p1) (.Constant (.int 1) k0 p2) ap) C.X.env] := by rfl) :
    JB C φ (.Assign [.Subscript (.Name dn p1) (.Constant (.int 1) k0 p2) ap] e pos :: rest) ψ χ ρ (fun dl => (me dl).bind fun q => (asInt q.1).bind fun b => k (q.2.1, b)) := fun g dl σ F H Dn st h => by
  refine ⟨_, pss_cons (ps_asg pe_wp (pg_sub (pe_var hN hv hdb hcd) pe_int set_list hsub) hs hw h1) ps_wp, ?_⟩
  refine he g dl σ F H _ st (h.bind.mono fun d dl1 h1 v F1 H1 ee r1 st1 => ?_)
  have h2 := h1.bind1
  cases r1 with
  | int b =>
    obtain ⟨e1, da⟩ := st1.env.dealAt (hd dl1)
    refine ⟨.ref l1, e1, l1, _, 1, 1, rfl, rfl, da.h1, rfl, ?_⟩
    have st2 : St8 C ((φ dl1).set i (some (.deal l1 l2 dl1.1 b))) σ F1 (upd H1 l1 (.lst [.ref l2, .int b])) := by
      refine st1.deal (dl' := (dl1.1, b)) (hd dl1) ⟨Same.refl F1, fun a o h => .inl h, fun a o h m => ?_, fun a h => ?_⟩ (fun a o h => ?_) ⟨upd_same, ?_, da.f1, da.f2, da.ne⟩
      · rw [upd_ne fun z => m (.inl z)]; exact h
      · by_cases c : a = l1
        · rw [c, upd_same] at h; cases h
        · rw [upd_ne c] at h; exact h
      · have n : a ≠ l1 := fun z => by rw [z, da.f1] at h; cases h
        rw [upd_ne n]; exact st1.sub a o h
      · rw [upd_ne (Ne.symm da.ne)]; exact da.h2
    rw [hput dl1 (dl1.1, b)] at st2
    exact hk g (dl1.1, b) σ F1 _ Dn st2 (Srv.mono (show Srv C (k (dl1.1, b)) _ from h2) fun f s2 => FlPost.mono ee)
  | _ => exact h2.elim
end
/-! ### a deal is drawn: at the start of a law -/
def asLst : D → R (List D)
  | .lst xs => .ok xs
  | _ => .bad
def dealOf (d : D) : R Deal := (asLst d).bind fun xs => (two xs).bind fun q => (asLst q.1).bind fun cs => (asInt q.2).bind fun b => (opt (asInts cs)).bind fun ns => .ok (ns, b)
theorem dealOf_inv {d : D} {dl : Deal} (h : dealOf d = .ok dl) : ∃ cs, d = .lst [.lst cs, .int dl.2] ∧ asInts cs = some dl.1 := by
  unfold dealOf at h
  cases d with
  | lst xs =>
    match xs with
    | [] => cases h
    | [_] => cases h
    | _ :: _ :: _ :: _ => cases h
    | [x, y] =>
      cases x with
      | lst cs =>
        cases y with
        | int b =>
          have h' : (opt (asInts cs)).bind (fun ns => R.ok (ns, b)) = .ok dl := h
          cases q : asInts cs with
          | none => rw [q] at h'; cases h'
          | some ns => rw [q] at h'; cases h'; exact ⟨cs, rfl, q⟩
        | _ => cases h
      | _ => cases h
  | _ => cases h
/-- slots in which nothing but the script stands -/
def onlyScr (e : Slots) : Prop := ∀ (i : Nat) (sv : SV), e[i]?.join = some sv → ∃ ns, sv = .val (.scr ns)
/-- a law's body -/
def LawB (C : Ctx) (sl : Slots) (ss : List Stmt) (m : R (Fl Unit Unit × Unit)) : Prop := Good C → ∀ (σ : L2.St) (H : Hp) (Dn : Ends), St8 C sl σ C.F0 H →
  Srv C m (FlPost C C.F0 (fun (_ : Unit) _ => []) (fun (_ : Unit) _ => []) (fun (_ : Unit) => []) Dn) → wpS C.X ss Dn σ H
abbrev Ctx.slack (C : Ctx) : Ctx := { C with loose := true }
theorem St8.to_slack {C : Ctx} {env : Slots} {σ : L2.St} {F H : Hp} (s : St8 C env σ F H) : St8 C.slack env σ F H := ⟨s.step, s.sub, s.env, s.len⟩
theorem St8.of_slack {C : Ctx} {env : Slots} {σ : L2.St} {F H : Hp} (s : St8 C.slack env σ F H) : St8 C env σ F H := ⟨s.step, s.sub, s.env, s.len⟩
theorem Good.slack {C : Ctx} (g : Good C) : Good C.slack := ⟨g.K, g.mg, g.pr, g.w, g.base, g.calm, g.nd, g.room, g.own, g.tk⟩
theorem Srv.to_slack {C : Ctx} {α τ : Type} {r : R (α × τ)} {K : α → τ → Prop} (h : Srv C r K) : Srv C.slack r K := by
  cases r with
  | ok p => exact h
  | err c d => exact fun σ cls dd F H e st => h σ cls dd F H e st.of_slack
  | bad => exact h
theorem Ctx.fx_start (C : Ctx) : C.Fx C.F0 = C.F0 := by
  unfold Ctx.Fx
  split <;> rfl
theorem law_post {C : Ctx} {τ : Type} {F : Hp} {Dn : Ends} {fl : Fl Unit Unit} {s : τ} (h : FlPost C C.F0 (fun (_ : Unit) (_ : Unit) => []) (fun (_ : Unit) _ => []) (fun _ => []) Dn fl ()) : FlPost C.slack F (fun (_ : Unit) (_ : τ) => []) (fun (_ : Unit) _ => []) (fun _ => []) Dn fl s := by
  cases fl with
  | nx a => exact fun σ' F' H' e' st' => h σ' F' H' (by rw [C.fx_start]; exact (show Same C.F0 F' from e')) st'.of_slack
  | bk a => exact fun σ' F' H' e' st' => h σ' F' H' (by rw [C.fx_start]; exact (show Same C.F0 F' from e')) st'.of_slack
  | rt r => exact fun v σ' F' H' e' rv st' => h v σ' F' H' (by rw [C.fx_start]; exact (show Same C.F0 F' from e')) rv st'.of_slack
theorem law_jb {C : Ctx} {sl : Slots} {ss : List Stmt} {m : R (Fl Unit Unit × Unit)} (h : JB C.slack (fun _ : Unit => sl) ss (fun (_ : Unit) _ => []) (fun (_ : Unit) _ => []) (fun _ => []) (fun _ => m)) : LawB C sl ss m := fun g σ H Dn st hs => h g.slack () σ C.F0 H Dn st.to_slack (hs.to_slack.mono fun _ _ z => law_post z)
theorem law_deal {C : Ctx} {sl0 : Slots} {rest : List Stmt} {pos p' : Pos} (i : Nat) {x : Str} {e : Expr} {me : Unit → R (D × Unit)} {k : Deal → R (Fl Unit Unit × Deal)} (he : JE C (fun _ : Unit => sl0) e me) (ho : onlyScr sl0)
    (hF : ∀ a o, C.F0 a = some o → ∃ ob xs, o = .frz ob (.lst xs)) (hH : ∀ a o, C.H0 a = some o → ∃ ob xs, o = .frz ob (.lst xs)) (hM : ∀ a, ¬ C.M a)
    (hk : ∀ l1 l2, JB C.slack (fun dl : Deal => sl0.set i (some (.deal l1 l2 dl.1 dl.2))) rest (fun (_ : Unit) _ => []) (fun (_ : Unit) _ => []) (fun _ => []) k)
    (hi : C.X.N[i]? = some x := by rfl) (hx : Loc C.X.env.scope x := by first | exact Or.inl rfl | exact Or.inr rfl) (hs : swapsWith e (some (.Name x p')) pos.line C.X.env = pure false := by rfl)
    (hf : C.X.fn x = true ∨ C.X.env.scope.names.lookup x = some .local := by first | exact .inl rfl | exact .inr rfl) :
    LawB C sl0 (.Assign [.Name x p'] e pos :: rest) ((me ()).bind fun q => (noErr (dealOf q.1)).bind fun dl => (k dl).bind fun r => .ok (r.1, ())) := fun g σ H Dn st h => by
  refine ⟨_, pss_cons (ps_set g.nd hi hx pe_wp hs hf) ps_wp, ?_⟩
  refine he g () σ C.F0 H _ st (h.bind.mono fun d s1 h1 v F1 H1 ee r1 st1 => ?_)
  obtain ⟨dl, ed, h3⟩ := noErr_srv h1.bind1
  obtain ⟨cs, rfl, hns⟩ := dealOf_inv ed
  obtain ⟨ns, b⟩ := dl
  cases r1 with
  | @lst l1 xs _ hl1 rr =>
    cases rr with
    | cons ra rr =>
      cases rr with
      | cons rb rr =>
        cases rr
        cases rb
        cases ra with
        | @lst l2 ys _ hl2 ri =>
          have ey := ints_rps ri hns
          subst ey
          have ne : l1 ≠ l2 := fun z => by
            subst z
            rw [hl1] at hl2
            cases ns with
            | nil => cases hl2
            | cons n ns => cases hl2
          have new : ∀ {a zs}, F1 a = some (.lst zs) → C.H0 a = none ∧ C.F0 a = none := fun {a zs} h => by
            refine ⟨?_, ?_⟩
            · cases q : C.H0 a with
              | none => rfl
              | some o =>
                obtain ⟨ob, u, rfl⟩ := hH a o q
                have z := st1.step.keep a _ q (hM a)
                rw [st1.sub _ _ h] at z
                cases z
            · cases q : C.F0 a with
              | none => rfl
              | some o =>
                obtain ⟨ob, u, rfl⟩ := hF a o q
                rw [st1.step.fz _ _ q] at h
                cases h
          let F2 : Hp := fun a => if a = l1 ∨ a = l2 then none else F1 a
          have f2 : ∀ {a o}, F2 a = some o → (a ≠ l1 ∧ a ≠ l2) ∧ F1 a = some o := fun {a o} h => by
            by_cases c : a = l1 ∨ a = l2
            · rw [show F2 a = none from if_pos c] at h; cases h
            · rw [show F2 a = F1 a from if_neg c] at h
              exact ⟨⟨fun z => c (.inl z), fun z => c (.inr z)⟩, h⟩
          have s2 : ∀ {a o}, F1 a = some o → a ≠ l1 → a ≠ l2 → F2 a = some o := fun {a o} h n1 n2 => by
            rw [show F2 a = F1 a from if_neg fun z => z.elim n1 n2]
            exact h
          have st2 : St8 C (sl0.set i (some (.deal l1 l2 ns b))) (σ.set i (some (.ref l1))) F2 H1 := by
            refine ⟨⟨fun a o h => s2 (st1.step.fz a o h) (fun z => ?_) (fun z => ?_), fun a o h => st1.step.new a o (f2 h).2, st1.step.keep, st1.step.dom⟩, fun a o h => st1.sub a o (f2 h).2, ?_, by rw [List.length_set, List.length_set]; exact st1.len⟩
            · rw [z, (new hl1).2] at h; cases h
            · rw [z, (new hl2).2] at h; cases h
            · obtain ⟨A, h1, h2⟩ := id st1.env
              refine ⟨fun j => if j = i then (if i < sl0.length then [l1, l2] else []) else [], fun j => ?_, fun j k a ha hb => ?_⟩
              · by_cases c : j = i
                · subst c
                  rw [if_pos rfl]
                  by_cases hlt : j < sl0.length
                  · rw [if_pos hlt, join_set_self hlt, join_set_self (Nat.lt_of_lt_of_le hlt st1.len)]
                    exact ⟨rfl, rfl, st1.sub _ _ hl1, st1.sub _ _ hl2, if_pos (.inl rfl), if_pos (.inr rfl), .inl (new hl1).1, .inl (new hl2).1, ne⟩
                  · rw [if_neg hlt, List.getElem?_eq_none (by simpa using hlt)]
                    rfl
                · rw [if_neg c, join_set_ne (Ne.symm c), join_set_ne (Ne.symm c)]
                  have q := h1 j
                  cases z : sl0[j]?.join with
                  | none => rfl
                  | some sv =>
                    rw [z] at q
                    obtain ⟨ms, rfl⟩ := ho j sv z
                    obtain ⟨_, w, q2, q3⟩ := q
                    refine ⟨rfl, w, q2, ?_⟩
                    cases q3 with
                    | scr hsc =>
                      refine .scr ?_
                      rcases hsc with ⟨o, hsc⟩ | hsc
                      · exact .inl ⟨o, s2 hsc (fun z => by rw [z, hl1] at hsc; cases hsc) (fun z => by rw [z, hl2] at hsc; cases hsc)⟩
                      · exact .inr hsc
              · by_cases c : j = i
                · by_cases c' : k = i
                  · rw [c, c']
                  · simp [c'] at hb
                · simp [c] at ha
          have eF : Same C.F0 F2 := st2.step.fz
          exact hk l1 l2 g.slack (ns, b) _ F2 H1 Dn st2.to_slack ((show Srv C ((k (ns, b)).bind fun r => .ok (r.1, ())) _ from h3).bind.to_slack.mono fun fl s2' h4 => law_post h4)

/-! ### a law's own def -/
def SpLawK (K : PySem.W.Frag) (n : Nat) : Sp := fun vs H Q _ => ∃ (a : Addr) (ns : List Int), vs = [.ref a] ∧ ScL K H a (ns.map V.int) ∧ ns.length ≤ n ∧ (∀ b u, H b = some u → ∃ o xs, u = .frz o (.lst xs)) ∧ ∀ H', Q (.bl true) H'
abbrev SpLaw (T : Txt) (n : Nat) : Sp := SpLawK T.K n
theorem fn_okLaw {T : Txt} {qual : Str} {st : Stmt} {f : Addr} {fd : FuncData} {N : List Str} {p : Str} {k n : Nat} {m : List Int → R (Fl Unit Unit × Unit)} (Fn : Fun T.K "law" qual st f fd) (S : FnScope N [p] (defScope st))
    (hbody : ∀ (cdv : Value) (A : Around) (outer : List Env) (s : Shared) (H : Hp) (E : XK) (ns : List Int), (∀ b u, H b = some u → ∃ o xs, u = .frz o (.lst xs)) → LawB (bodyCtx T N qual st f cdv A outer s H E k H fun _ => False) (startD N [.scr ns]) (defBody st) (m ns))
    (hm : ∀ ns : List Int, ns.length ≤ n → m ns = .ok (.rt (.bl true), ())) : FnG T.P T.w T.K T.mg T.base (L2.CX T.P T.w) (k + 1) f fd [p] (SpLaw T n) := by
  refine fn_okG Fn S (fun vs H Q E ⟨a, ns, e, _⟩ => by subst e; rfl) (fun cdv A outer s H vs Q E hr ⟨a, ns, e, hs, hl, ho, hq⟩ => ?_)
  subst e
  have hN := scope_le S
  have st0 : St8 (bodyCtx T N qual st f cdv A outer s H E k H fun _ => False) (startD N [.scr ns]) (L2.start N [V.ref a]) H H :=
    ⟨Step.refl _ _ _, Same.refl H, slots_start (.cons (.scr hs) .nil), by rw [startD_length hN, start_length hN]; exact Nat.le_refl _⟩
  refine ⟨_, ps_wp, hbody cdv A outer s H E ns ho (good_body S hr) _ H _ st0 ?_⟩
  rw [hm ns hl]
  intro v σ F' H' _ rv _
  have rv : Rp T F' v (.bl true) := rv
  cases rv
  exact hq H'

theorem walkP {l : PySem.W.OpenLaw} {n k : Nat} {q : Program} {loose : List Str} {XP : (Str → Option Value) → Heap → Prop} {YP : World → Heap → Prop} {d : DefRec} {K : Params → PySem.W.Frag} {x : Str}
    (hn : l.most = some n) (hn2 : n ≤ sizeLine) (hdf : d.params.defaults = []) (hr : RoomG k callerA) (hY : ∀ (w : World) (h : Heap), YP w h → (K w.params).In h)
    (F : ∀ (w : World) (mg : Str → Option Value) (fa : Addr) (h : Heap), (K w.params).In h → h.Ns mainGlobals mg → mg d.name = some (.ref fa) →
      ∃ fd : FuncData, (∀ (s : Shared) (u : Value), BindsTo s fd ⟨[u], []⟩ [(x, u)]) ∧ ∀ base : Heap, (K w.params).In base → base.Ns mainGlobals mg → FnG l.prog w (K w.params) mg base (L2.CX l.prog w) k fa fd [x] (SpLawK (K w.params) n)) :
    PySem.W.WalkO q loose XP YP l.row.toRowW d [] (fun f vs => PySem.call f vs) :=
  walk_ofG (n := n) (k := k) (x := x) (CX := fun w => L2.CX l.prog w) (sp := fun w => SpLawK (K w.params) n) hn hn2 hdf hr hY F (fun w H a ns hl hs ho => ⟨a, ns, rfl, hs, hl, ho, fun _ => rfl⟩)
    (fun w H s e s' h => by obtain ⟨_, _, _, _, _, _, _, _, _, _, _, _, z⟩ := h; exact z)
end Pv
set_option Elab.async false
set_option linter.all false
set_option maxRecDepth 100000
/-! PvW: forms for printed terms. -/
namespace Pv
open PySem PySem.Spec PyProof.Rows L2
section
variable {C : Ctx} {τ α β : Type} {φ : τ → Slots} {ψ : α → τ → Slots} {χ : β → τ → Slots} {ρ : τ → Slots} {rest : List Stmt} {pos pos2 p : Pos}
def opNeg : D → R D
  | .int i => .ok (.int (-i))
  | _ => .bad
theorem je_neg {e : Expr} {m : τ → R (D × τ)} (h : JE C φ e m) : JE C φ (.UnaryOp .USub e pos) (fun s => (m s).bind fun q => (opNeg q.1).bind fun d => .ok (d, q.2)) := fun g s σ F H Q st hs => by
  refine ⟨_, pe_un un_neg pe_wp, ?_⟩
  refine h g s σ F H _ st (hs.bind.mono fun d s1 h1 v F1 H1 e1 r1 st1 => ?_)
  have h2 := h1.bind1
  cases r1 with
  | int i => exact ⟨i, rfl, h2 _ F1 H1 e1 (.int _) st1⟩
  | _ => exact h2.elim
theorem je_bad {e : Expr} : JE C φ e (fun _ => .bad) := fun g s σ F H Q st h => h.elim
theorem jts_bad {ifs : List Expr} : JTs C φ ifs (fun _ => .bad) := fun g s σ F H Q st h => h.elim
theorem jel_lc1 (i : Nat) {x : Str} {px : Pos} {elt iter : Expr} {ifs : List Expr} {scope : Scope} (own : List (Str × Nat)) {mi : τ → R (List D × τ)} {mt : D → τ → R (Bool × τ)} {me : D → τ → R (D × τ)} (hi : JI C φ (.Name x px) iter mi) (hg : ∀ b : Blk, JG (blkCtx C scope b) (.Name x px) [i] partName)
    (ht : ∀ (b : Blk) (d : D), JTs (blkCtx C scope b) (fun s => (wipeE (φ s) (own.map (·.2))).set i (some (.val d))) ifs (mt d)) (he : ∀ (b : Blk) (d : D), JE (blkCtx C scope b) (fun s => (wipeE (φ s) (own.map (·.2))).set i (some (.val d))) elt (me d))
    (hn : ∀ s, ((own.map (·.2)).all fun i => ((φ s)[i]?.join).isNone) = true := by intro _; rfl)
    (ok : blkC C.X.N C.X.env.scope scope own = true := by rfl) (hsub : ∀ j ∈ [i], j ∈ own.map (·.2) := by decide) (hh : C.hot = false := by rfl) (hs : ∀ x, foldedSetIterable iter C.X.env x = pure x := by intro _; rfl) (hlen : ∀ s s', (φ s).length = (φ s').length := by intro _ _; rfl) :
    JEL C φ (.ListComp elt [⟨.Name x px, iter, ifs, 0⟩] scope pos) (fun s => (mi s).bind fun q => (chk (decide (q.1.length ≤ 1000000)) q.1).bind fun ds => lcL (lcT partName (ar1 (fun _ => .bad) mt) (ar1 (fun _ => .bad) me)) ds q.2) :=
  jel_lc own hi hg (fun b xs => match xs with
    | [d] => ht b d
    | [] => jts_bad
    | _ :: _ :: _ => jts_bad) (fun b xs => match xs with
    | [d] => he b d
    | [] => je_bad
    | _ :: _ :: _ => je_bad) hn ok hsub hh hs hlen
theorem jel_lc2 (i j : Nat) {tg elt iter : Expr} {ifs : List Expr} {scope : Scope} (own : List (Str × Nat)) {mi : τ → R (List D × τ)} {mt : D → D → τ → R (Bool × τ)} {me : D → D → τ → R (D × τ)} (hi : JI C φ tg iter mi) (hg : ∀ b : Blk, JG (blkCtx C scope b) tg [i, j] (partTup 2))
    (ht : ∀ (b : Blk) (d e : D), JTs (blkCtx C scope b) (fun s => ((wipeE (φ s) (own.map (·.2))).set i (some (.val d))).set j (some (.val e))) ifs (mt d e)) (he : ∀ (b : Blk) (d e : D), JE (blkCtx C scope b) (fun s => ((wipeE (φ s) (own.map (·.2))).set i (some (.val d))).set j (some (.val e))) elt (me d e))
    (hn : ∀ s, ((own.map (·.2)).all fun i => ((φ s)[i]?.join).isNone) = true := by intro _; rfl)
    (ok : blkC C.X.N C.X.env.scope scope own = true := by rfl) (hsub : ∀ k ∈ [i, j], k ∈ own.map (·.2) := by decide) (hh : C.hot = false := by rfl) (hs : ∀ x, foldedSetIterable iter C.X.env x = pure x := by intro _; rfl) (hlen : ∀ s s', (φ s).length = (φ s').length := by intro _ _; rfl) :
    JEL C φ (.ListComp elt [⟨tg, iter, ifs, 0⟩] scope pos) (fun s => (mi s).bind fun q => (chk (decide (q.1.length ≤ 1000000)) q.1).bind fun ds => lcL (lcT (partTup 2) (ar2 (fun _ => .bad) mt) (ar2 (fun _ => .bad) me)) ds q.2) :=
  jel_lc own hi hg (fun b xs => match xs with
    | [d, e] => ht b d e
    | [] => jts_bad
    | [_] => jts_bad
    | _ :: _ :: _ :: _ => jts_bad) (fun b xs => match xs with
    | [d, e] => he b d e
    | [] => je_bad
    | [_] => je_bad
    | _ :: _ :: _ :: _ => je_bad) hn ok hsub hh hs hlen
theorem jb_setLc1 (j i : Nat) {x : Str} {px : Pos} {elt iter : Expr} {ifs : List Expr} {scope : Scope} (own : List (Str × Nat)) {mi : τ → R (List D × τ)} {mt : D → τ → R (Bool × τ)} {me : D → τ → R (D × τ)} {y : Str} {py spos : Pos} {k : List D → τ → R (Fl α β × τ)} (hi : JI C φ (.Name x px) iter mi) (hg : ∀ b : Blk, JG (blkCtx C scope b) (.Name x px) [i] partName)
    (ht : ∀ (b : Blk) (d : D), JTs (blkCtx C scope b) (fun s => (wipeE (φ s) (own.map (·.2))).set i (some (.val d))) ifs (mt d)) (he : ∀ (b : Blk) (d : D), JE (blkCtx C scope b) (fun s => (wipeE (φ s) (own.map (·.2))).set i (some (.val d))) elt (me d))
    (hk : ∀ ds, JB C (fun s => (φ s).set j (some (.own ds))) rest ψ χ ρ (k ds)) (hn : ∀ s, ((own.map (·.2)).all fun i => ((φ s)[i]?.join).isNone) = true := by intro _; rfl)
    (hy : C.X.N[j]? = some y := by rfl) (hyl : C.X.env.scope.names.lookup y = some .local := by rfl) (hsw : swapsWith (.ListComp elt [⟨.Name x px, iter, ifs, 0⟩] scope pos) (some (.Name y py)) spos.line C.X.env = pure true := by rfl)
    (ok : blkC C.X.N C.X.env.scope scope own = true := by rfl) (hsub : ∀ j ∈ [i], j ∈ own.map (·.2) := by decide) (hh : C.hot = false := by rfl) (hs : ∀ x, foldedSetIterable iter C.X.env x = pure x := by intro _; rfl) (hlen : ∀ s s', (φ s).length = (φ s').length := by intro _ _; rfl) :
    JB C φ (.Assign [.Name y py] (.ListComp elt [⟨.Name x px, iter, ifs, 0⟩] scope pos) spos :: rest) ψ χ ρ (fun s => ((mi s).bind fun q => (chk (decide (q.1.length ≤ 1000000)) q.1).bind fun ds => lcL (lcT partName (ar1 (fun _ => .bad) mt) (ar1 (fun _ => .bad) me)) ds q.2).bind fun p => k p.1 p.2) :=
  jb_setLc j own hi hg (fun b xs => match xs with
    | [d] => ht b d
    | [] => jts_bad
    | _ :: _ :: _ => jts_bad) (fun b xs => match xs with
    | [d] => he b d
    | [] => je_bad
    | _ :: _ :: _ => je_bad) hk hn hy hyl hsw ok hsub hh hs hlen
theorem jb_setLc2 (j i1 i2 : Nat) {tg elt iter : Expr} {ifs : List Expr} {scope : Scope} (own : List (Str × Nat)) {mi : τ → R (List D × τ)} {mt : D → D → τ → R (Bool × τ)} {me : D → D → τ → R (D × τ)} {y : Str} {py spos : Pos} {k : List D → τ → R (Fl α β × τ)} (hi : JI C φ tg iter mi) (hg : ∀ b : Blk, JG (blkCtx C scope b) tg [i1, i2] (partTup 2))
    (ht : ∀ (b : Blk) (d e : D), JTs (blkCtx C scope b) (fun s => ((wipeE (φ s) (own.map (·.2))).set i1 (some (.val d))).set i2 (some (.val e))) ifs (mt d e)) (he : ∀ (b : Blk) (d e : D), JE (blkCtx C scope b) (fun s => ((wipeE (φ s) (own.map (·.2))).set i1 (some (.val d))).set i2 (some (.val e))) elt (me d e))
    (hk : ∀ ds, JB C (fun s => (φ s).set j (some (.own ds))) rest ψ χ ρ (k ds)) (hn : ∀ s, ((own.map (·.2)).all fun i => ((φ s)[i]?.join).isNone) = true := by intro _; rfl)
    (hy : C.X.N[j]? = some y := by rfl) (hyl : C.X.env.scope.names.lookup y = some .local := by rfl) (hsw : swapsWith (.ListComp elt [⟨tg, iter, ifs, 0⟩] scope pos) (some (.Name y py)) spos.line C.X.env = pure true := by rfl)
    (ok : blkC C.X.N C.X.env.scope scope own = true := by rfl) (hsub : ∀ k ∈ [i1, i2], k ∈ own.map (·.2) := by decide) (hh : C.hot = false := by rfl) (hs : ∀ x, foldedSetIterable iter C.X.env x = pure x := by intro _; rfl) (hlen : ∀ s s', (φ s).length = (φ s').length := by intro _ _; rfl) :
    JB C φ (.Assign [.Name y py] (.ListComp elt [⟨tg, iter, ifs, 0⟩] scope pos) spos :: rest) ψ χ ρ (fun s => ((mi s).bind fun q => (chk (decide (q.1.length ≤ 1000000)) q.1).bind fun ds => lcL (lcT (partTup 2) (ar2 (fun _ => .bad) mt) (ar2 (fun _ => .bad) me)) ds q.2).bind fun p => k p.1 p.2) :=
  jb_setLc j own hi hg (fun b xs => match xs with
    | [d, e] => ht b d e
    | [] => jts_bad
    | [_] => jts_bad
    | _ :: _ :: _ :: _ => jts_bad) (fun b xs => match xs with
    | [d, e] => he b d e
    | [] => je_bad
    | [_] => je_bad
    | _ :: _ :: _ :: _ => je_bad) hk hn hy hyl hsw ok hsub hh hs hlen
theorem lt_put {f : Str} {d : D} : ∀ {fs : List (Str × D)} {n : Nat}, fs.length < n → (putD f d fs).length < n + 1
  | [], n, h => by
    show 1 < n + 1
    have : 0 < n := h
    omega
  | (k, x) :: r, n, h => by
    unfold putD
    by_cases c : k = f
    · rw [if_pos c]
      exact Nat.lt_succ_of_lt h
    · rw [if_neg c]
      have h' : r.length + 1 < n := h
      show (putD f d r).length + 1 < n + 1
      have := lt_put (f := f) (d := d) (fs := r) (n := n - 1) (by omega)
      omega
theorem je_dct0 : JE C φ (.Dict [] [] pos) (fun s => .ok (.dct [], s)) := fun g s σ F H Q st h =>
  ⟨_, pe_dnewK, fun p hp => by
    have gr := grow_new (o := .dK []) st.sub hp
    exact h _ _ _ gr.fz (.dct0 upd_same) (st.new hp)⟩
/-- a, b = e -/
theorem jb_unp2 (i j : Nat) {tg e : Expr} {me : τ → R (D × τ)} {k : D → D → τ → R (Fl α β × τ)} (he : JE C φ e me) (hg : JG C tg [i, j] (partTup 2)) (hk : ∀ d e, JB C (fun s => ((φ s).set i (some (.val d))).set j (some (.val e))) rest ψ χ ρ (k d e))
    (hs : swapsWithSole [tg] e pos.line C.X.env = pure false := by rfl) (hw : swappedStores [tg] e C.X.env = pure none := by rfl) (h1 : (assignEach [tg] C.X.env).map (·.2) = [assign tg C.X.env] := by rfl) :
    JB C φ (.Assign [tg] e pos :: rest) ψ χ ρ (fun s => (me s).bind fun p => (opt (partTup 2 p.1)).bind fun ds => ar2 (fun _ => .bad) k ds p.2) :=
  jb_unp (k := ar2 (fun _ => .bad) k) he hg (fun ds => match ds with
    | [d, e] => hk d e
    | [] => fun g s σ F H Dn st h => h.elim
    | [_] => fun g s σ F H Dn st h => h.elim
    | _ :: _ :: _ :: _ => fun g s σ F H Dn st h => h.elim) hs hw h1
theorem jb_unp3 (i j l : Nat) {tg e : Expr} {me : τ → R (D × τ)} {k : D → D → D → τ → R (Fl α β × τ)} (he : JE C φ e me) (hg : JG C tg [i, j, l] (partTup 3)) (hk : ∀ d e f, JB C (fun s => (((φ s).set i (some (.val d))).set j (some (.val e))).set l (some (.val f))) rest ψ χ ρ (k d e f))
    (hs : swapsWithSole [tg] e pos.line C.X.env = pure false := by rfl) (hw : swappedStores [tg] e C.X.env = pure none := by rfl) (h1 : (assignEach [tg] C.X.env).map (·.2) = [assign tg C.X.env] := by rfl) :
    JB C φ (.Assign [tg] e pos :: rest) ψ χ ρ (fun s => (me s).bind fun p => (opt (partTup 3 p.1)).bind fun ds => ar3 (fun _ => .bad) k ds p.2) :=
  jb_unp (k := ar3 (fun _ => .bad) k) he hg (fun ds => match ds with
    | [d, e, f] => hk d e f
    | [] => fun g s σ F H Dn st h => h.elim
    | [_] => fun g s σ F H Dn st h => h.elim
    | [_, _] => fun g s σ F H Dn st h => h.elim
    | _ :: _ :: _ :: _ :: _ => fun g s σ F H Dn st h => h.elim) hs hw h1
/-! ### a list of one's own is returned; such a list comes from a call -/
theorem jb_retOwn (i : Nat) {f : τ → List D} {x : Str} {p1 : Pos} (hM : ∀ s a, C.M a → ∃ j l1 l2 cs b, j ≠ i ∧ (φ s)[j]?.join = some (.deal l1 l2 cs b) ∧ (a = l1 ∨ a = l2)) (h : ∀ s, SlotsLe (ρ s) (φ s)) (hl : ∀ s, (ρ s).length ≤ (φ s).length)
    (hi : ∀ s, (φ s)[i]?.join = some (.own (f s)) := by intro _; rfl) (hN : C.X.N[i]? = some x := by rfl) (hv : Vis C.X.env.scope x := by first | exact Or.inl rfl | exact Or.inr (Or.inl rfl) | exact Or.inr (Or.inr rfl)) (hd : (x == ("__debug__" : Str)) = false := by decide) (hcd : (x == ("__classdict__" : Str)) = false := by decide) :
    JB C φ (.Return (some (.Name x p1)) pos :: rest) ψ χ ρ (fun s => .ok (.rt (.fre (f s)), s)) := fun g s σ F H Dn st hs => by
  refine ⟨_, pss_cons (ps_ret (pe_var hN hv hd hcd)) pss_never, ?_⟩
  obtain ⟨l, xs, e1, e2, e3, e4, e5⟩ := st.env.ownAt (hi s)
  have h0 : C.H0 l = none := by
    rcases e5 with z | z
    · exact z
    · obtain ⟨j, l1, l2, cs, b, nj, hj, ha⟩ := hM s l z
      obtain ⟨A, q1, q2⟩ := id st.env
      have qi := q1 i
      rw [hi s] at qi
      obtain ⟨l', _, a1, a2, _⟩ := qi
      rw [e1] at a2
      cases a2
      have qj := q1 j
      rw [hj] at qj
      obtain ⟨b1, _⟩ := qj
      exact absurd (q2 j i l (by rw [b1]; rcases ha with z | z <;> simp [z]) (by rw [a1]; simp)) nj
  exact ⟨_, e1, (show ∀ v σ F' H', Same (C.Fx F) F' → RtV C.T C.H0 F' H' v (.fre (f s)) → St8 C (ρ s) σ F' H' → Dn.rt v H' from hs) _ σ F H st.fx ⟨l, xs, rfl, e2, e4, h0, e3⟩ (st.le (h s) (hl s))⟩
def asFre : D → R (List D)
  | .fre ds => .ok ds
  | _ => .bad
theorem jel_callL {φ : Deal → Slots} (i : Nat) {l1 l2 : Addr} {n j : Nat} {m : List D → List D → Deal → R (D × Deal)} {x : Str} {dn : Str} {dp : Pos} {es : List Expr} {na : Deal → R (List D × Deal)} (Ca : CalleeL C.T x n [] j m) (hj : j ≤ C.k) (ha : JA C φ es na)
    (hd : ∀ dl, (φ dl)[i]?.join = some (.deal l1 l2 dl.1 dl.2) := by intro _; rfl) (hput : ∀ dl dl' : Deal, (φ dl).set i (some (.deal l1 l2 dl'.1 dl'.2)) = φ dl' := by intro _ _; rfl)
    (hN : C.X.N[i]? = some dn := by rfl) (hs : Vis C.X.env.scope dn := by first | exact Or.inl rfl | exact Or.inr (Or.inl rfl) | exact Or.inr (Or.inr rfl))
    (hdb1 : (dn == ("__debug__" : Str)) = false := by decide) (hcd : (dn == ("__classdict__" : Str)) = false := by decide) (hle : LeAll C (fun s => (φ s).set i none) := by exact le0 rfl)
    (hh : C.hot = false := by rfl) (hg : Gl C.X x := by rfl) (hdb : (x == ("__debug__" : Str)) = false := by decide) (he : starEach (.Name dn dp :: es) C.X.env = (false, eval (.Name dn dp) C.X.env) :: starEach es C.X.env := by rfl)
    (hpl : (backTo pos (starEach es C.X.env)).any (·.1) = false := by rfl) :
    JEL C φ (.Call (.Name x p) (.Name dn dp :: es) [] pos) (fun dl => (na dl).bind fun q => (m q.1 [] q.2).bind fun r => (asFre r.1).bind fun ds => .ok (ds, r.2)) := fun g dl σ F H Q st h => by
  obtain ⟨k, mm, pick, ⟨f, fd, ps, gg, Fo, hm, hk, hb⟩, hp, hlen⟩ := Ca
  refine ⟨_, pe_callPos (fnX g Fo) ((g.room hh).mono hj) hg (by rw [g.mg]; exact hm) (by rw [g.K]; exact hk) (by rw [g.K]; exact hb) (fun σ => passW g σ) (pa_cons (pe_var hN hs hdb1 hcd) pa_wp he) hdb he hpl, ?_⟩
  refine ⟨_, (st.env.dealAt (hd dl)).1, ?_⟩
  refine ha g dl σ F H _ st (h.bind.mono fun ds dl1 h1 vs F1 H1 e1 r1 st1 => ?_)
  have h2 := (show Srv C ((m ds [] dl1).bind fun r => (asFre r.1).bind fun ds => .ok (ds, r.2)) _ from h1).bind
  have l1' : m ds [] dl1 ≠ .bad := fun z => by rw [z] at h2; exact h2
  obtain ⟨ws, as, ew, ra, la, ea⟩ := hp F1 l1 vs [] ds [] r1 .nil (hlen _ _ _ l1').1 rfl
  refine ⟨by rw [List.length_cons, r1.length, (hlen _ _ _ l1').1], rfl, F1, l1, l2, dl1, ws, as, ew, st1.sub, (st1.env.dealAt (hd dl1)).2, ra, la, ?_⟩
  rw [ea]
  cases q : m ds [] dl1 with
  | ok r =>
    obtain ⟨d, dl2⟩ := r
    rw [q] at h2
    intro v F' H' stp sub rv da
    have da1 := (st1.env.dealAt (hd dl1)).2
    have h3 := (show Srv C ((asFre d).bind fun ds => .ok (ds, dl2)) _ from h2).bind1
    cases d with
    | fre zs =>
      obtain ⟨l, xs, rfl, q1, q2, q3, q4⟩ := rv
      have nl : ∀ {a o}, H1 a = some o → a ≠ l := fun {a o} e z => by rw [z, q3] at e; cases e
      have stp2 : Step (onDeal l1 l2) F1 H1 F' (er l H') := ⟨stp.fz, stp.new, fun a o e m => by rw [er_ne (nl e)]; exact stp.keep a o e m, fun a e => by
        by_cases c : a = l
        · rw [c]; exact q3
        · rw [er_ne c] at e; exact stp.dom a e⟩
      have sub2 : Same F' (er l H') := fun a o e => by
        have : a ≠ l := fun z => by rw [z, q2] at e; cases e
        rw [er_ne this]; exact sub a o e
      have z := st1.deal (hd dl1) stp2 sub2 ⟨by rw [er_ne (nl da1.h1)]; exact da.h1, by rw [er_ne (nl da1.h2)]; exact da.h2, da.f1, da.f2, da.ne⟩
      rw [hput] at z
      have y := (show ∀ l xs F' H', Same F F' → H' l = none → Rps C.T F' xs zs → St8 C (φ dl2) σ F' H' → Q (.ref l) (upd H' l (.lst xs)) from h3) l xs F' (er l H') (e1.trans stp.fz) er_same q4 z
      rw [upd_er q1] at y
      exact y
    | _ => exact h3.elim
  | err c d =>
    rw [q] at h2
    exact fun cls dd F' H' stp sub eo => h2 σ cls dd F' H' eo ((st1.noDeal (hd dl1) stp sub).le (hle dl1).1 (hle dl1).2)
  | bad => exact absurd q l1'
/-- x.append(y.pop(e)), x and y lists of one's own -/
theorem jb_appPop (i j : Nat) {f g' : τ → List D} {x y : Str} {e : Expr} {p1 p3 ap ap2 cp cp2 : Pos} {me : τ → R (D × τ)} {k : List D → List D → τ → R (Fl α β × τ)} (he : JE C φ e me) (hk : ∀ xs ys, JB C (fun s => ((φ s).set j (some (.own ys))).set i (some (.own xs))) rest ψ χ ρ (k xs ys)) (hij : i ≠ j)
    (hi : ∀ s, (φ s)[i]?.join = some (.own (f s)) := by intro _; rfl) (hj : ∀ s, (φ s)[j]?.join = some (.own (g' s)) := by intro _; rfl) (hN : C.X.N[i]? = some x := by rfl) (hN2 : C.X.N[j]? = some y := by rfl)
    (hv : Vis C.X.env.scope x := by first | exact Or.inl rfl | exact Or.inr (Or.inl rfl) | exact Or.inr (Or.inr rfl)) (hv2 : Vis C.X.env.scope y := by first | exact Or.inl rfl | exact Or.inr (Or.inl rfl) | exact Or.inr (Or.inr rfl))
    (hd : (x == ("__debug__" : Str)) = false := by decide) (hcd : (x == ("__classdict__" : Str)) = false := by decide) (hd2 : (y == ("__debug__" : Str)) = false := by decide) (hcd2 : (y == ("__classdict__" : Str)) = false := by decide)
    (hs : swapsWith (.Call (.Attribute (.Name x p1) "append" ap) [.Call (.Attribute (.Name y p3) "pop" ap2) [e] [] cp2] [] cp) none pos.line C.X.env = pure false := by rfl)
    (hbase : attributeBase (.Name x p1) "append" C.X.env (eval (.Name x p1) C.X.env) = eval (.Name x p1) C.X.env := by rfl) (hbase2 : attributeBase (.Name y p3) "pop" C.X.env (eval (.Name y p3) C.X.env) = eval (.Name y p3) C.X.env := by rfl)
    (hfew : ((backTo cp (starEach (.Call (.Attribute (.Name y p3) "pop" ap2) [e] [] cp2 :: []) C.X.env)).all (fun x => !x.1) && (backToKw cp (keywordEach [] C.X.env)).all (fun x => x.1.isSome) && decide ((Expr.Call (.Attribute (.Name y p3) "pop" ap2) [e] [] cp2 :: []).length + ([] : List Keyword).length + (if ([] : List Keyword).isEmpty then 0 else 1) < 30)) = true := by rfl)
    (hfew2 : ((backTo cp2 (starEach (e :: []) C.X.env)).all (fun x => !x.1) && (backToKw cp2 (keywordEach [] C.X.env)).all (fun x => x.1.isSome) && decide ((e :: []).length + ([] : List Keyword).length + (if ([] : List Keyword).isEmpty then 0 else 1) < 30)) = true := by rfl)
    (hline : (ap.endLine == cp.line) = true := by rfl) (hline2 : (ap2.endLine == cp2.line) = true := by rfl)
    (hst : starEach (.Call (.Attribute (.Name y p3) "pop" ap2) [e] [] cp2 :: []) C.X.env = (false, eval (.Call (.Attribute (.Name y p3) "pop" ap2) [e] [] cp2) C.X.env) :: starEach [] C.X.env := by rfl) (hst2 : starEach (e :: []) C.X.env = (false, eval e C.X.env) :: starEach [] C.X.env := by rfl)
    (hpl : (backTo cp (starEach [] C.X.env)).any (·.1) = false := by rfl) (hpl2 : (backTo cp2 (starEach [] C.X.env)).any (·.1) = false := by rfl) :
    JB C φ (.Expr (.Call (.Attribute (.Name x p1) "append" ap) [.Call (.Attribute (.Name y p3) "pop" ap2) [e] [] cp2] [] cp) pos :: rest) ψ χ ρ (fun s => (me s).bind fun q => (asInt q.1).bind fun n => (chk (decide (-1000000 ≤ n) && decide (n ≤ 1000000) && decide ((f q.2).length < 1000000)) ()).bind fun _ => (opt (ixN (g' q.2).length n)).bind fun t => (opt (g' q.2)[t]?).bind fun d => k (f q.2 ++ [d]) ((g' q.2).eraseIdx t) q.2) := fun g s σ F H Dn st h => by
  refine ⟨_, pss_cons (ps_expr (pe_bm PySem.F.plainAttrs_list PySem.F.slot_list_append PySem.F.type_list_append mt_append (pe_var hN hv hd hcd) (pa_cons (pe_bm PySem.F.plainAttrs_list PySem.F.slot_list_pop PySem.F.type_list_pop mt_popAt (pe_var hN2 hv2 hd2 hcd2) (pa_cons pe_wp pa_nil hst2) hbase2 hfew2 hline2 hst2 hpl2) pa_nil hst) hbase hfew hline hst hpl) hs) ps_wp, ?_⟩
  obtain ⟨l, xs, e1, e2, _⟩ := st.env.ownAt (hi s)
  refine ⟨.ref l, e1, .inl ⟨rfl, xs, .inl (.inl e2)⟩, ?_⟩
  obtain ⟨l', xs', e1', e2', _⟩ := st.env.ownAt (hj s)
  refine ⟨.ref l', e1', .inl ⟨rfl, xs', .inl (.inl e2')⟩, ?_⟩
  refine he g s σ F H _ st (h.bind.mono fun d s1 h1 v F1 H1 ee r1 st1 => ?_)
  have h2 := h1.bind1
  cases r1 with
  | int n =>
    obtain ⟨c, h3⟩ := (show Srv C ((chk (decide (-1000000 ≤ n) && decide (n ≤ 1000000) && decide ((f s1).length < 1000000)) ()).bind fun _ => _) _ from h2).bind1.chk
    obtain ⟨t, ht, h4⟩ := h3.bind1.opt
    obtain ⟨d, hdt, h5⟩ := h4.bind1.opt
    have c1 := of_decide_eq_true (and2 (and2 c).1).1
    have c2 := of_decide_eq_true (and2 (and2 c).1).2
    have c3 := of_decide_eq_true (and2 c).2
    obtain ⟨m', ys, a1, a2, a3, _⟩ := st1.env.ownAt (hj s1)
    rw [e1'] at a1
    cases a1
    obtain ⟨m2, zs, b1, b2, b3, _⟩ := st1.env.ownAt (hi s1)
    rw [e1] at b1
    cases b1
    rw [← a3.length] at ht
    obtain ⟨z1, z2, _⟩ := ixN_seq ht
    obtain ⟨w, hw, rw'⟩ := a3.get hdt
    refine ⟨l', ys, n, t, w, rfl, rfl, a2, by omega, by omega, z1, hw, ?_⟩
    have st2 := st1.chOwn (hj s1) e1' a2 (a3.eraseIdx t)
    have hi2 : ((φ s1).set j (some (.own ((g' s1).eraseIdx t))))[i]?.join = some (.own (f s1)) := by rw [join_set_ne (Ne.symm hij)]; exact hi s1
    obtain ⟨m3, zs2, d1, d2, d3, _⟩ := st2.env.ownAt hi2
    rw [e1] at d1
    cases d1
    exact ⟨l, zs2, w, rfl, rfl, d2, Nat.lt_of_lt_of_le (by rw [d3.length]; exact c3) (sz_small (Nat.le_refl _)), hk _ _ g s1 _ F1 _ Dn (st2.chOwn hi2 e1 d2 (d3.append (Rps.one rw'))) (h5.mono fun f s2 => FlPost.mono ee)⟩
  | _ => exact h2.elim
/-- x[a], x[b] = e1, e2 -/
theorem jb_setItems2 (i : Nat) {f : τ → List D} {x : Str} {a b : Expr} {es : List Expr} {p1 p2 p3 p4 pt pe : Pos} {kt ke : Nat} {na : τ → R (List D × τ)} {ma mb : τ → R (D × τ)} {k : List D → τ → R (Fl α β × τ)} (hn : JA C φ es na) (ha : JE C φ a ma)
    (hb : ∀ ds, JE C (fun s => (φ s).set i (some (.own ds))) b mb) (hk : ∀ ds, JB C (fun s => (φ s).set i (some (.own ds))) rest ψ χ ρ (k ds)) (hh : C.hot = false := by rfl)
    (hi : ∀ s, (φ s)[i]?.join = some (.own (f s)) := by intro _; rfl) (hlt : ∀ s, i < (φ s).length := by intro _; exact Nat.le_of_ble_eq_true rfl) (hN : C.X.N[i]? = some x := by rfl) (hv : Vis C.X.env.scope x := by first | exact Or.inl rfl | exact Or.inr (Or.inl rfl) | exact Or.inr (Or.inr rfl)) (hd : (x == ("__debug__" : Str)) = false := by decide) (hcd : (x == ("__classdict__" : Str)) = false := by decide)
    (hsub : ∀ v, assign (.Subscript (.Name x p1) a p2) C.X.env v = (do
      let ov ← holding [v] (eval (.Name x p1) C.X.env)
      let iv ← holding [v, ov] (eval a C.X.env)
      standAt p2
      holding [v, ov, iv] (setItem ov iv v)
      release [v, ov, iv] []) := by intro _; rfl)
    (hsub2 : ∀ v, assign (.Subscript (.Name x p3) b p4) C.X.env v = (do
      let ov ← holding [v] (eval (.Name x p3) C.X.env)
      let iv ← holding [v, ov] (eval b C.X.env)
      standAt p4
      holding [v, ov, iv] (setItem ov iv v)
      release [v, ov, iv] []) := by intro _; rfl)
    (hs : swapsWithSole [.Tuple [.Subscript (.Name x p1) a p2, .Subscript (.Name x p3) b p4] kt pt] (.Tuple es ke pe) pos.line C.X.env = pure false := by rfl) (hw : swappedStores [.Tuple [.Subscript (.Name x p1) a p2, .Subscript (.Name x p3) b p4] kt pt] (.Tuple es ke pe) C.X.env = pure none := by rfl)
    (h1 : (assignEach [.Tuple [.Subscript (.Name x p1) a p2, .Subscript (.Name x p3) b p4] kt pt] C.X.env).map (·.2) = [assign (.Tuple [.Subscript (.Name x p1) a p2, .Subscript (.Name x p3) b p4] kt pt) C.X.env] := by rfl)
    (hs1 : (assignEach (.Subscript (.Name x p1) a p2 :: [.Subscript (.Name x p3) b p4]) C.X.env).map (·.2) = assign (.Subscript (.Name x p1) a p2) C.X.env :: (assignEach [.Subscript (.Name x p3) b p4] C.X.env).map (·.2) := by rfl)
    (hs2 : (assignEach (.Subscript (.Name x p3) b p4 :: []) C.X.env).map (·.2) = assign (.Subscript (.Name x p3) b p4) C.X.env :: (assignEach [] C.X.env).map (·.2) := by rfl)
    (hn2 : (assignEach [.Subscript (.Name x p1) a p2, .Subscript (.Name x p3) b p4] C.X.env).length = 2 := by rfl) (hst : (assignEach [.Subscript (.Name x p1) a p2, .Subscript (.Name x p3) b p4] C.X.env).findIdx? (·.1) = none := by rfl) :
    JB C φ (.Assign [.Tuple [.Subscript (.Name x p1) a p2, .Subscript (.Name x p3) b p4] kt pt] (.Tuple es ke pe) pos :: rest) ψ χ ρ (fun s => (na s).bind fun q => (two q.1).bind fun w => (ma q.2).bind fun qa => (asInt qa.1).bind fun m => (opt (ixN (f qa.2).length m)).bind fun t => (mb qa.2).bind fun qb => (asInt qb.1).bind fun n => (opt (ixN (f qa.2).length n)).bind fun u => k (((f qa.2).set t w.1).set u w.2) qb.2) := fun g s σ F H Dn st h => by
  refine ⟨_, pss_cons (ps_asg (pe_tup pa_wp) (pg_tup (g.calm hh) (pgs_cons (pg_sub (pe_var hN hv hd hcd) pe_wp set_list hsub) (pgs_cons (pg_sub (pe_var hN hv hd hcd) pe_wp set_list hsub2) pgs_nil hs2) hs1) hn2 hst) hs hw h1) ps_wp, ?_⟩
  refine hn g s σ F H _ st (h.bind.mono fun ds s1 h1 vs F1 H1 ee r1 st1 => ?_)
  have h2 := h1.bind1
  match ds, r1, h2 with
  | [d, e], .cons (v := v) (vs := [w]) rv (.cons rw' .nil), h2 =>
    refine ⟨sz_small (n := 2) (by decide), fun q hq => ?_⟩
    have gr := grow_new (o := .tup [v, w]) st1.sub hq
    have st2 := st1.new (o := .tup [v, w]) hq
    refine ⟨q, [v, w], rfl, .inl (.inl upd_same), rfl, v, [w], rfl, ?_⟩
    have h3 : Srv C ((ma s1).bind fun qa => (asInt qa.1).bind fun m => (opt (ixN (f qa.2).length m)).bind fun t => (mb qa.2).bind fun qb => (asInt qb.1).bind fun n => (opt (ixN (f qa.2).length n)).bind fun u => k (((f qa.2).set t d).set u e) qb.2) (FlPost C F ψ χ ρ Dn) := h2
    obtain ⟨l, xs, e1, e2, _⟩ := st2.env.ownAt (hi s1)
    refine ⟨.ref l, e1, ?_⟩
    refine ha g s1 σ _ _ _ st2 (h3.bind.mono fun d3 s3 h4 v3 F3 H3 e3 r3 st3 => ?_)
    have h5 := h4.bind1
    cases r3 with
    | int m =>
      obtain ⟨t, ht, h6⟩ := (show Srv C ((opt (ixN (f s3).length m)).bind fun t => (mb s3).bind fun qb => (asInt qb.1).bind fun n => (opt (ixN (f s3).length n)).bind fun u => k (((f s3).set t d).set u e) qb.2) _ from h5).bind1.opt
      obtain ⟨l', ys, b1, b2, b3, _⟩ := st3.env.ownAt (hi s3)
      rw [e1] at b1
      cases b1
      refine ⟨l, ys, m, t, rfl, rfl, b2, by rw [b3.length]; exact ht, w, [], rfl, ?_⟩
      have st4 := st3.chOwn (hi s3) e1 b2 (Rps.set ((rv.mono gr.fz).mono e3) t b3)
      refine ⟨.ref l, e1, ?_⟩
      refine hb _ g s3 σ F3 _ _ st4 (h6.bind.mono fun d5 s5 h7 v5 F5 H5 e5 r5 st5 => ?_)
      have h8 := h7.bind1
      cases r5 with
      | int n =>
        obtain ⟨u, hu, h9⟩ := (show Srv C ((opt (ixN (f s3).length n)).bind fun u => k (((f s3).set t d).set u e) s5) _ from h8).bind1.opt
        have hi5 : ((φ s5).set i (some (.own ((f s3).set t d))))[i]?.join = some (.own ((f s3).set t d)) := join_set_self (hlt s5)
        obtain ⟨l'', zs, c1, c2, c3, _⟩ := st5.env.ownAt hi5
        rw [e1] at c1
        cases c1
        refine ⟨l, zs, n, u, rfl, rfl, c2, by rw [c3.length, List.length_set]; exact hu, rfl, ?_⟩
        have st6 := st5.chOwn hi5 e1 c2 (Rps.set ((((rw'.mono gr.fz).mono e3).mono e5)) u c3)
        rw [List.set_set] at st6
        exact hk _ g s5 σ F5 _ Dn st6 (Srv.mono h9 fun fl s6 => FlPost.mono (((ee.trans gr.fz).trans e3).trans e5))
      | _ => exact h8.elim
    | _ => exact h5.elim
  | [], _, h2 => exact h2.elim
  | [_], _, h2 => exact h2.elim
  | _ :: _ :: _ :: _, _, h2 => exact h2.elim
theorem onlyScr_start {N : List Str} {ns : List Int} : onlyScr (startD N [.scr ns]) := fun i sv h => by
  rw [startD_get] at h
  match i, h with
  | 0, h => exact ⟨ns, (Option.some.inj h).symm⟩
  | i + 1, h => simp at h
theorem kit_cls {K : PySem.W.Frag} {C : Addr} {t : Value} {b : Bool} {cd : ClassData} (h1 : PySem.W.clsIn K C = some cd) (h2 : PySem.W.typeIn K (.ref C) = some (.type "type")) (h3 : PySem.W.subIn K t (.ref C) = some b) : PySem.W.kitCls K t (.ref C) = some b := by
  show (if ((PySem.W.clsIn K C).isSome && PySem.W.typeIn K (.ref C) == some (.type "type")) = true then PySem.W.subIn K t (.ref C) else none) = some b
  rw [if_pos (by rw [h1, h2]; exact beq_self_eq_true (some (Value.type "type")))]
  exact h3
theorem kit_own {K : PySem.W.Frag} {C : Addr} {t : Value} {b : Bool} {cd : ClassData} (h1 : PySem.W.clsIn K C = some cd) (h2 : PySem.W.typeIn K (.ref C) = some (.type "type")) (h3 : PySem.W.subIn K t (.ref C) = some b) (ht : (t == .ref C) = false) : PySem.W.kitOne K t (.ref C) = some b := by
  unfold PySem.W.kitOne
  rw [if_neg (by rw [ht]; exact Bool.false_ne_true)]
  exact kit_cls h1 h2 h3
theorem kit_self {K : PySem.W.Frag} {C : Addr} : PySem.W.kitOne K (.ref C) (.ref C) = some true := by
  unfold PySem.W.kitOne
  rw [if_pos (by exact beq_self_eq_true _)]
theorem kit_sys {K : PySem.W.Frag} {T : String} {C : Addr} {b : Bool} (h3 : PySem.W.subIn K (.ref C) (.type T) = some b) (hm : PySem.W.kitMeta T = true) : PySem.W.kitOne K (.ref C) (.type T) = some b := by
  unfold PySem.W.kitOne PySem.W.kitCls
  rw [show ((Value.ref C == Value.type T) = false) from rfl]
  show (if PySem.W.kitMeta T = true then _ else _) = _
  rw [if_pos hm]
  exact h3
theorem exm_own {K : PySem.W.Frag} {C D : Addr} {b : Bool} {cd : ClassData} (h0 : PySem.W.subIn K (.ref C) (.type "BaseException") = some true) (h1 : PySem.W.clsIn K C = some cd) (h2 : PySem.W.typeIn K (.ref C) = some (.type "type")) (h3 : PySem.W.subIn K (.ref D) (.ref C) = some b) : PySem.W.exmOne K (.ref D) (.ref C) = some b := by
  unfold PySem.W.exmOne
  rw [if_pos (by rw [h0]; exact beq_self_eq_true (some true))]
  exact kit_cls h1 h2 h3
end
end Pv
set_option Elab.async false
set_option linter.all false
set_option maxRecDepth 100000
/-! PvS: sorted(..) of a list or a tuple of pairs of ints. -/
namespace Pv
open PySem PySem.Spec PyProof.Rows L2 SrtO
section
variable {prog : Program} {w : World} {A : Around} {E : Value → Shared → Prop} {s : Shared}
theorem sorted_seqO {it : Addr} {T : String} {o : Obj} {n : Nat} {vs : List Value} {k : Value → Int × Int} {Q : Value → Shared → Prop} (hT : T = "list" ∨ T = "tuple") (ho : s.heap.get? it = some o) (hc : o.cls = .type T) (hd : o.data = .seq vs.toArray n) (hz : vs.length ≤ sizeLine)
    (hp : ∀ v ∈ vs, Srt.IsPair s.heap v (k v).1 (k v).2)
    (h : ∀ (h₁ h' : Heap) (out : List Value), Srtd (fun v u => lexB (k v) (k u)) out → Stb (fun v u => lexB (k v) (k u)) out vs → (∀ b o, s.heap.get? b = some o → h₁.get? b = some o) → (∀ b o, h₁.get? b = some o → h'.get? b = some o) → (∃ n, h'.get? h₁.objs.size = some (seqObj "list" out.toArray n)) → Q (.ref h₁.objs.size) { s with heap := h' }) :
    wpAny (model prog w) A (call (.builtin "sorted") [.ref it]) Q E s := by
  refine Calls.call_function_entry kind_sorted plain_sorted entry_sorted (args_sorted1 _) ?_
  unfold Builtin.«sorted»
  refine wpAny_bind (m := checkCount "sorted" 1 1 _) (wpAny_pure ?_)
  refine wpAny_bind (wpAny_collect_seq it hT ho hc hd (fun h₁ kp => ?_) (by rw [List.size_toArray]; exact hz))
  show wpAny _ _ _ _ _ { s with heap := h₁ }
  refine wpAny_bind (wpAny_newList ?_ hz)
  have hoL : (h₁.push (seqObj "list" vs.toArray 0)).get? h₁.objs.size = some (seqObj "list" vs.toArray 0) := Heap.get?_push_size _ rfl
  have keep1 : ∀ b o, h₁.get? b = some o → b ≠ h₁.objs.size ∧ (h₁.push (seqObj "list" vs.toArray 0)).get? b = some o := fun b o q =>
    ⟨Nat.ne_of_lt (Heap.lt_size q), Heap.get?_push_of_some _ q⟩
  have keep : ∀ b o, s.heap.get? b = some o → b ≠ h₁.objs.size ∧ (h₁.push (seqObj "list" vs.toArray 0)).get? b = some o := fun b o q => keep1 b o (kp b o q)
  show wpAny _ _ _ _ _ { s with heap := h₁.push (seqObj "list" vs.toArray 0) }
  refine wpAny_bind (wpAny_holding (wpAny_call_entry slot_list_sort ⟨_, hoL, rfl⟩ entry_list_sort (list_sort_ord (swo_lex k) hoL hz (fun h2 => ?_) fun out hs hb => ⟨_, rfl, ?_⟩) (args_list_sort _)))
  · refine pairs_sortableO (s := { s with heap := h₁.push (seqObj "list" vs.toArray 0) }) (by omega) (fun v hm => (hp v hm).keeps fun b o e _ => (keep b o e).2) fun o e => ?_
    have e' : some o = some (seqObj "list" vs.toArray 0) := e.symm.trans hoL
    cases e'
    intro c
    exact absurd (Value.type.inj c) (by decide)
  · refine wpAny_pure ⟨_, rfl, h h₁ _ out hs hb kp (fun b o e => ?_) (sortedHeap_at hoL)⟩
    rw [sortedHeap_old (keep1 b o e).1 (Heap.lt_size (keep1 b o e).2)]
    exact (keep1 b o e).2
end
def rSortedQ (K : PySem.W.Frag) : List V → Hp → VK → Prop := fun vs H Q => ∃ (a : Addr) (xs : List V) (k : V → Int × Int), vs = [V.ref a] ∧ (SqL K H a xs ∨ SqT K H a xs) ∧ (∀ x ∈ xs, ∃ t, x = V.ref t ∧ H t = some (.tup [.int (k x).1, .int (k x).2])) ∧
  ∀ ys p, Srtd (ltP k) ys → Stb (ltP k) ys xs → H p = none → Q (.ref p) (upd H p (.lst ys))
theorem cr_sortedQ {X : Cx} : CallR X (.builtin "sorted") (rSortedQ X.K) := by
  intro pins s σ H vs us Q I r h
  obtain ⟨a, xs, k, rfl, hs, hx, q⟩ := h
  obtain ⟨u, rfl, ru⟩ := vals1 r
  obtain rfl : u = Value.ref a := ru
  have main : ∀ {T : String} {o : Obj} {n : Nat} {its : List Value}, T = "list" ∨ T = "tuple" → s.heap.get? a = some o → o.cls = .type T → o.data = .seq its.toArray n → its.length ≤ sizeLine → Vals xs its → wpAny (model X.prog X.w) X.A (call (.builtin "sorted") [.ref a]) (EP X pins σ Q) X.xe s := fun {T o n its} hT ho hc hd hz rv => by
    obtain ⟨e1, e2⟩ := refs_back rv fun x m => by
      obtain ⟨t, e, _⟩ := hx x m
      exact ⟨t, e⟩
    refine sorted_seqO (k := fun u => k (backV u)) hT ho hc hd hz (fun v hv => ?_) fun h₁ h' out h1 h2 kp kp2 hn => ?_
    · obtain ⟨t, rfl⟩ := e2 v hv
      have hm : V.ref t ∈ xs := by rw [e1]; exact List.mem_map.mpr ⟨_, hv, rfl⟩
      obtain ⟨t', e, ht⟩ := hx _ hm
      cases e
      obtain ⟨_, its2, r2, o, ho, hc, n, hd⟩ := I.hok _ _ ht
      obtain ⟨u1, u2, rfl, ri, rj⟩ := vals2 r2
      obtain ⟨t1, rfl⟩ := ri
      obtain ⟨t2, rfl⟩ := rj
      exact ⟨t, o, t1, t2, n, rfl, ho, hc, hd⟩
    · have h3 : ∀ u ∈ out, ∃ a, u = Value.ref a := fun u hu => e2 u (h2.perm.mem_iff.mp hu)
      obtain ⟨n, hn⟩ := hn
      have hb : Stb (ltP k) (out.map backV) xs := by
        rw [e1]
        exact Stb.map (ltP_swo k) backV h2
      have I1 : Inv X pins σ H { s with heap := h₁ } := I.kept (t' := s.toks) kp
      refine ⟨.ref h₁.objs.size, upd H h₁.objs.size (.lst (out.map backV)), I1.laid (t' := s.toks) kp2 (Nat.le_refl _) ⟨?_, out, n, vals_back h3, hn⟩, rfl, q _ _ (srtd_map h1) hb (I1.hok.fresh (Nat.le_refl _))⟩
      rw [hb.len, rv.length]
      exact hz
  rcases hs with hs | hs
  · obtain ⟨its, rv, hl, hz⟩ := I.list hs
    obtain ⟨o, ho, hc, n, hd⟩ := hl.isList
    exact main (.inl rfl) ho hc hd (by rw [← rv.length]; exact hz) rv
  · obtain ⟨its, rv, hl, hz⟩ := I.tuple hs
    obtain ⟨o, ho, hc, n, hd⟩ := hl
    exact main (.inr rfl) ho hc hd (by rw [← rv.length]; exact hz) rv
def asPairs : List D → Option (List (Int × Int))
  | [] => some []
  | .tup [.int i, .int j] :: r => (asPairs r).map ((i, j) :: ·)
  | _ => none
def pairD (p : Int × Int) : D := .tup [.int p.1, .int p.2]
def leP (p q : Int × Int) : Bool := !lexB q p
def bSorted (d : D) : R D := (asItems d).bind fun ds => (opt (asPairs ds)).bind fun ps => .ok (.lst ((ps.mergeSort leP).map pairD))
theorem asPairs_eq : ∀ {ds : List D} {ps : List (Int × Int)}, asPairs ds = some ps → ds = ps.map pairD
  | [], ps, h => by cases h; rfl
  | d :: ds, ps, h => by
    have z : ∃ i j, d = .tup [.int i, .int j] := by
      unfold asPairs at h
      split at h
      · rename_i e; cases e
      · rename_i i j r e; cases e; exact ⟨i, j, rfl⟩
      · cases h
    obtain ⟨i, j, rfl⟩ := z
    obtain ⟨q, e1, e2⟩ := Option.map_eq_some_iff.mp (show (asPairs ds).map ((i, j) :: ·) = some ps from h)
    subst e2
    rw [List.map_cons, ← asPairs_eq e1]
    rfl
/-- what a pair's address holds -/
def kOf (H : Hp) : V → Int × Int
  | .ref t => match H t with
    | some (.tup [.int i, .int j]) => (i, j)
    | _ => (0, 0)
  | _ => (0, 0)
theorem kOf_at {T : Txt} {F H : Hp} (sub : Same F H) {v : V} {p : Int × Int} (r : Rp T F v (pairD p)) : ∃ t, v = .ref t ∧ H t = some (.tup [.int p.1, .int p.2]) ∧ kOf H v = p := by
  cases r with
  | tup h rr =>
    cases rr with
    | cons r1 rr =>
      cases rr with
      | cons r2 rr =>
        cases rr
        cases r1
        cases r2
        refine ⟨_, rfl, sub _ _ h, ?_⟩
        show (match H _ with | some (.tup [.int i, .int j]) => (i, j) | _ => (0, 0)) = p
        rw [sub _ _ h]
theorem kOf_all {T : Txt} {F H : Hp} (sub : Same F H) : ∀ {xs : List V} {ps : List (Int × Int)}, Rps T F xs (ps.map pairD) → xs.map (kOf H) = ps ∧ ∀ x ∈ xs, (∃ t, x = V.ref t ∧ H t = some (.tup [.int (kOf H x).1, .int (kOf H x).2])) ∧ Rp T F x (pairD (kOf H x))
  | [], [], _ => ⟨rfl, fun x hx => by cases hx⟩
  | [], _ :: _, r => by cases r
  | _ :: _, [], r => by cases r
  | x :: xs, p :: ps, r => by
    cases r with
    | cons r1 r2 =>
      obtain ⟨t, e1, e2, e3⟩ := kOf_at sub r1
      obtain ⟨i1, i2⟩ := kOf_all sub r2
      refine ⟨by rw [List.map_cons, e3, i1], fun y hy => ?_⟩
      rcases List.mem_cons.mp hy with z | z
      · rw [z, e3]; exact ⟨⟨t, e1, e2⟩, r1⟩
      · exact i2 y z
theorem lexB_anti {p q : Int × Int} (h1 : lexB q p = false) (h2 : lexB p q = false) : p = q := by
  have a := lexB_no.mp h1
  have b := lexB_no.mp h2
  refine Prod.ext ?_ ?_ <;> omega
theorem rps_map {T : Txt} {F : Hp} {f : V → D} : ∀ {xs : List V}, (∀ x ∈ xs, Rp T F x (f x)) → Rps T F xs (xs.map f)
  | [], _ => .nil
  | x :: xs, h => .cons (h x (List.Mem.head _)) (rps_map fun y hy => h y (List.Mem.tail _ hy))
theorem cd_sorted {C : Ctx} : CallD C (.builtin "sorted") (d1 bSorted) := cald1 fun g F H Q v d sub r h => by
  have h := Srv1.bind h
  cases q : asItems d with
  | bad => rw [q] at h; exact h.elim
  | err c e => exact absurd q asItems_ne
  | ok ds =>
    rw [q] at h
    obtain ⟨ps, e, k⟩ := Srv1.opt (Srv1.bind h)
    have ed := asPairs_eq e
    subst ed
    obtain ⟨a, xs, rfl, hs, rr⟩ := seq_items sub r q
    obtain ⟨i1, i2⟩ := kOf_all sub rr
    refine ⟨_, cr_sortedQ, a, xs, kOf H, rfl, by rw [g.K]; exact hs, fun x hx => (i2 x hx).1, fun ys p h1 h2 hp => giveNew sub k hp fun s e => .lst e ?_⟩
    have e1 : ys.map (kOf H) = ps.mergeSort leP := by
      refine List.Perm.eq_of_pairwise (le := fun p q => lexB q p = false) (fun p q _ _ x y => lexB_anti x y) ?_ ?_ ?_
      · exact List.pairwise_map.mpr (h1.imp fun z => z)
      · have z := List.pairwise_mergeSort (le := leP) (fun a b c x y => ?_) (fun a b => ?_) ps
        · exact z.imp fun {a b} y => by
            unfold leP at y
            simpa using y
        · unfold leP at x y ⊢
          simp only [Bool.not_eq_true'] at x y ⊢
          have x' := lexB_no.mp x
          have y' := lexB_no.mp y
          refine lexB_no.mpr ?_
          omega
        · unfold leP
          rw [Bool.or_eq_true]
          cases q1 : lexB b a with
          | false => exact .inl rfl
          | true =>
            right
            have x' := lexB_iff.mp q1
            have : lexB a b = false := lexB_no.mpr (by omega)
            rw [this]; rfl
      · refine ((h2.perm.map (kOf H)).trans ?_).trans (List.mergeSort_perm _ _).symm
        rw [i1]
    rw [← e1, List.map_map]
    exact (rps_map fun x hx => (i2 x (h2.perm.mem_iff.mp hx)).2).mono s
end Pv
set_option Elab.async false
set_option linter.all false
set_option maxRecDepth 100000
/-! PvB: in a law's own block: a list that stood still changes again; a list goes from name to name. -/
namespace Pv
open PySem L2
/-! ### data in which a list does not stand -/
def tagQ : D → Nat
  | .non => 1
  | .bl _ => 2
  | .int _ => 3
  | .str _ => 4
  | .tup _ => 5
  | .lst _ => 6
  | .dct _ => 7
  | .obj _ _ => 8
  | _ => 0
def apart : List D → List D → Bool
  | [], [] => false
  | x :: xs, y :: ys => (tagQ x != 0 && tagQ y != 0 && tagQ x != tagQ y) || apart xs ys
  | _, _ => true
mutual
def farD (ds : List D) : D → Bool
  | .non => true
  | .bl _ => true
  | .int _ => true
  | .str _ => true
  | .tup xs => farDs ds xs
  | .lst xs => apart ds xs && farDs ds xs
  | .dct [] => true
  | .obj _ fs => farF ds fs
  | _ => false
def farDs (ds : List D) : List D → Bool
  | [] => true
  | x :: xs => farD ds x && farDs ds xs
def farF (ds : List D) : List (Str × D) → Bool
  | [] => true
  | x :: xs => farP ds x && farF ds xs
def farP (ds : List D) : Str × D → Bool
  | (_, d) => farD ds d
end
theorem farDs_all {es : List D} : ∀ {ds : List D}, farDs es ds = true → ∀ d ∈ ds, farD es d = true
  | d :: ds, h, e, he => by
    rw [farDs] at h
    rcases List.mem_cons.mp he with z | z
    · rw [z]; exact (and2 h).1
    · exact farDs_all (and2 h).2 e z
theorem farF_all {es : List D} : ∀ {fs : List (Str × D)}, farF es fs = true → ∀ d ∈ fs.map (·.2), farD es d = true
  | [], _, _, h => by simp at h
  | (x, d) :: fs, h, e, he => by
    rw [farF, farP] at h
    rcases List.mem_cons.mp he with z | z
    · rw [z]; exact (and2 h).1
    · exact farF_all (and2 h).2 e z
theorem tag_eq {T : Txt} {F : Hp} {v : V} {d e : D} (h : Rp T F v d) (h' : Rp T F v e) (n : tagQ d ≠ 0) (n' : tagQ e ≠ 0) : tagQ d = tagQ e := by
  cases h <;> cases h' <;> first
    | rfl
    | exact absurd rfl n
    | exact absurd rfl n'
    | simp_all [tagQ]
theorem apart_no {T : Txt} {F : Hp} : ∀ {xs : List V} {ds es : List D}, Rps T F xs ds → Rps T F xs es → apart ds es = false
  | _, _, _, .nil, .nil => rfl
  | _, _, _, .cons (d := d) h r, .cons (d := e) h' r' => by
    unfold apart
    rw [apart_no r r', Bool.or_false]
    cases q : (tagQ d != 0 && tagQ e != 0 && tagQ d != tagQ e) with
    | false => rfl
    | true =>
      simp only [Bool.and_eq_true, bne_iff_ne, ne_eq] at q
      exact absurd (tag_eq h h' q.1.1 q.1.2) q.2
theorem rp_far {T : Txt} {F F' : Hp} {l : Addr} {ys : List V} {es : List D} (ht : ∀ a o, F a = some o → a ≠ l → F' a = some o) (hl : F l = some (.lst ys)) (rl : Rps T F ys es) : ∀ (d : D) {v : V}, farD es d = true → Rp T F v d → Rp T F' v d
  | .non, _, _, .non => .non
  | .bl _, _, _, .bl _ => .bl _
  | .int _, _, _, .int _ => .int _
  | .str _, _, _, .str _ => .str _
  | .tup ds, _, n, .tup h r => .tup (ht _ _ h (fun z => by rw [z, hl] at h; cases h)) (rps_of r fun v d hd rv => rp_far ht hl rl d (farDs_all (by rw [farD] at n; exact n) d hd) rv)
  | .lst ds, _, n, .lst h r => .lst (ht _ _ h (fun z => by
      rw [z, hl] at h
      cases h
      rw [farD, apart_no rl r] at n
      cases n)) (rps_of r fun v d hd rv => rp_far ht hl rl d (farDs_all (by rw [farD] at n; exact (and2 n).2) d hd) rv)
  | .dct [], _, _, .dct0 h => .dct0 (ht _ _ h (fun z => by rw [z, hl] at h; cases h))
  | .obj c ds, _, n, .obj hc h hm r => .obj hc (ht _ _ h (fun z => by rw [z, hl] at h; cases h)) hm (rps_of r fun v d hd rv => rp_far ht hl rl d (farF_all (by rw [farD] at n; exact n) d hd) rv)
termination_by d => sizeOf d
decreasing_by
  all_goals simp_wf
  · have := List.sizeOf_lt_of_mem hd; omega
  · have := List.sizeOf_lt_of_mem hd; omega
  · have := sizeOf_fld hd; omega
/-- what may be kept where a list changes again -/
def calmS (es : List D) : Option SV → Bool
  | none => true
  | some (.val d) => farD es d
  | some (.deal _ _ _ _) => true
  | some (.own ds) => farDs es ds
  | _ => false
section
variable {C : Ctx} {τ α β : Type} {φ : τ → Slots} {ψ : α → τ → Slots} {χ : β → τ → Slots} {ρ : τ → Slots} {rest : List Stmt} {pos : Pos}
theorem jb_thaw (i : Nat) (P : τ → Slots) (q : τ → Bool) {f : τ → List D} {k : τ → R (Fl α β × τ)} (hq : ∀ s, q s = true → (P s).all (calmS (f s)) = true) (hF : ∀ a o, C.F0 a = some o → ∃ ob xs, o = .frz ob (.lst xs)) (hH : ∀ a o, C.H0 a = some o → ∃ ob xs, o = .frz ob (.lst xs)) (hM : ∀ a, ¬ C.M a)
    (hP : ∀ s, SlotsLe (P s) ((φ s).set i none)) (hl : ∀ s, (P s).length = (φ s).length) (hk : JB C (fun s => (P s).set i (some (.own (f s)))) rest ψ χ ρ k)
    (hi : ∀ s, (φ s)[i]?.join = some (.val (.lst (f s))) := by intro _; rfl) (hloose : C.loose = true := by rfl) :
    JB C φ rest ψ χ ρ (fun s => (chk (q s && farDs (f s) (f s)) ()).bind fun _ => k s) := fun g s σ F H Dn st hs => by
  obtain ⟨hc, hs⟩ := hs.bind1.chk
  obtain ⟨c0, c2⟩ := and2 hc
  have c1 := hq s c0
  obtain ⟨v, hv, hr⟩ := st.env.valAt (hi s)
  cases hr with
  | @lst l xs _ hl1 rr =>
    let F2 : Hp := fun a => if a = l then none else F a
    have f2 : ∀ {a o}, F2 a = some o → a ≠ l ∧ F a = some o := fun {a o} h => by
      by_cases c : a = l
      · rw [show F2 a = none from if_pos c] at h; cases h
      · rw [show F2 a = F a from if_neg c] at h
        exact ⟨c, h⟩
    have s2 : ∀ {a o}, F a = some o → a ≠ l → F2 a = some o := fun {a o} h n => by
      rw [show F2 a = F a from if_neg n]
      exact h
    have new : C.H0 l = none ∧ C.F0 l = none := by
      refine ⟨?_, ?_⟩
      · cases q : C.H0 l with
        | none => rfl
        | some o =>
          obtain ⟨ob, u, rfl⟩ := hH l o q
          have z := st.step.keep l _ q (hM l)
          rw [st.sub _ _ hl1] at z
          cases z
      · cases q : C.F0 l with
        | none => rfl
        | some o =>
          obtain ⟨ob, u, rfl⟩ := hF l o q
          rw [st.step.fz _ _ q] at hl1
          cases hl1
    have ht : ∀ a o, F a = some o → a ≠ l → F2 a = some o := fun a o h hno => s2 h hno
    have lst : ∀ {ds : List D} {vs : List V}, farDs (f s) ds = true → Rps C.T F vs ds → Rps C.T F2 vs ds := fun {ds vs} n r => rps_of r fun v d hd rv => rp_far ht hl1 rr d (farDs_all n d hd) rv
    have st2 : St8 C ((P s).set i (some (.own (f s)))) σ F2 H := by
      refine ⟨⟨fun a o h => s2 (st.step.fz a o h) (fun z => by rw [z, new.2] at h; cases h), fun a o h => st.step.new a o (f2 h).2, st.step.keep, st.step.dom⟩, fun a o h => st.sub a o (f2 h).2, ?_, by rw [List.length_set, hl]; exact st.len⟩
      obtain ⟨A, h1, h2⟩ := id ((st.env.setAny (i := i) (v := (σ[i]?.join))).le (hP s))
      have hlen : i < (P s).length := by
        rw [hl]
        have := hi s
        by_cases c : i < (φ s).length
        · exact c
        · rw [List.getElem?_eq_none (by simpa using c)] at this; cases this
      have eσ : σ.set i (σ[i]?.join) = σ := by
        have : σ[i]?.join = some (.ref l) := by rw [hv]; rfl
        rw [this]
        obtain ⟨hlt, e⟩ := List.getElem?_eq_some_iff.mp hv
        rw [← e, List.set_getElem_self]
      rw [eσ] at h1 
      have ai : A i = [] := by
        have q := h1 i
        cases z : (P s)[i]?.join with
        | none => rw [z] at q; exact q
        | some sv =>
          have := hP s i sv z
          rw [join_set_self (by rw [← hl]; exact hlen)] at this
          cases this
      refine ⟨fun j => if j = i then [l] else A j, fun j => ?_, fun j k a ha hb => ?_⟩
      · by_cases c : j = i
        · subst c
          rw [if_pos rfl, join_set_self hlen]
          exact ⟨l, xs, rfl, by rw [hv]; rfl, st.sub _ _ hl1, lst c2 rr, if_pos rfl, .inl new.1⟩
        · rw [if_neg c, join_set_ne (Ne.symm c)]
          have q := h1 j
          have hcalm : calmS (f s) ((P s)[j]?.join) = true := by
            cases z : (P s)[j]? with
            | none => rfl
            | some sv =>
              obtain ⟨hlt, e⟩ := List.getElem?_eq_some_iff.mp z
              have := List.all_eq_true.mp c1 _ (List.getElem_mem hlt)
              rw [e] at this
              exact this
          cases z : (P s)[j]?.join with
          | none => rw [z] at q; exact q
          | some sv =>
            rw [z] at q hcalm
            cases sv with
            | val d =>
              obtain ⟨q1, x, q2, q3⟩ := q
              exact ⟨q1, x, q2, rp_far ht hl1 rr d hcalm q3⟩
            | own ds =>
              obtain ⟨l', ys, a1, a2, a3, a4, a5, a6⟩ := q
              refine ⟨l', ys, a1, a2, a3, lst hcalm a4, ?_, a6⟩
              show (if l' = l then none else F l') = none
              split
              · rfl
              · exact a5
            | deal l1 l2 cs b =>
              obtain ⟨b1, b2, b3, b4, b5, b6, b7⟩ := q
              refine ⟨b1, b2, b3, b4, ?_, ?_, b7⟩
              · show (if l1 = l then none else F l1) = none
                split
                · rfl
                · exact b5
              · show (if l2 = l then none else F l2) = none
                split
                · rfl
                · exact b6
            | _ => cases hcalm
      · have nl : ∀ j, j ≠ i → l ∉ A j := fun j hj hm => by
          obtain ⟨_, e, _⟩ := (h1 j).own_some l hm
          rw [hl1] at e
          cases e
        by_cases c : j = i
        · by_cases c' : k = i
          · rw [c, c']
          · rw [if_pos c] at ha
            rw [if_neg c'] at hb
            have z : a = l := by simpa using ha
            subst z
            exact absurd hb (nl k c')
        · by_cases c' : k = i
          · rw [if_neg c] at ha
            rw [if_pos c'] at hb
            have z : a = l := by simpa using hb
            subst z
            exact absurd ha (nl j c)
          · rw [if_neg c] at ha
            rw [if_neg c'] at hb
            exact h2 j k a ha hb
  
    refine hk g s σ F2 H Dn st2 (Srv.mono hs fun fl s' z => ?_)
    cases fl with
    | nx a => exact fun σ' F' H' e' st' => z σ' F' H' (by unfold Ctx.Fx at e' ⊢; rw [if_pos hloose] at e' ⊢; exact e') st'
    | bk a => exact fun σ' F' H' e' st' => z σ' F' H' (by unfold Ctx.Fx at e' ⊢; rw [if_pos hloose] at e' ⊢; exact e') st'
    | rt r => exact fun v σ' F' H' e' rv st' => z v σ' F' H' (by unfold Ctx.Fx at e' ⊢; rw [if_pos hloose] at e' ⊢; exact e') rv st'
/-- something of one's own goes from name to name -/
def ownS : SV → Bool
  | .own _ => true
  | .owk _ => true
  | .owt _ => true
  | _ => false
theorem jb_move (i j : Nat) {sv : τ → SV} {x y : Str} {p1 p2 : Pos} {k : τ → R (Fl α β × τ)} (hk : JB C (fun s => ((φ s).set j none).set i (some (sv s))) rest ψ χ ρ k)
    (hj : ∀ s, (φ s)[j]?.join = some (sv s) := by intro _; rfl) (ho : ∀ s, ownS (sv s) = true := by intro _; rfl) (hlen : ∀ s, i < (φ s).length := by intro _; exact Nat.le_of_ble_eq_true rfl)
    (hN : C.X.N[j]? = some y := by rfl) (hv : Vis C.X.env.scope y := by first | exact Or.inl rfl | exact Or.inr (Or.inl rfl) | exact Or.inr (Or.inr rfl)) (hd : (y == ("__debug__" : Str)) = false := by decide) (hcd : (y == ("__classdict__" : Str)) = false := by decide)
    (hi : C.X.N[i]? = some x := by rfl) (hx : Loc C.X.env.scope x := by first | exact Or.inl rfl | exact Or.inr rfl) (hs : swapsWith (.Name y p2) (some (.Name x p1)) pos.line C.X.env = pure false := by rfl)
    (hf : C.X.fn x = true ∨ C.X.env.scope.names.lookup x = some .local := by first | exact .inl rfl | exact .inr rfl) :
    JB C φ (.Assign [.Name x p1] (.Name y p2) pos :: rest) ψ χ ρ k := fun g s σ F H Dn st h => by
  refine ⟨_, pss_cons (ps_set g.nd hi hx (pe_var hN hv hd hcd) hs hf) ps_wp, ?_⟩
  obtain ⟨A, h1, h2⟩ := id st.env
  have qj := h1 j
  rw [hj s] at qj
  obtain ⟨v, hv⟩ : ∃ v, σ[j]?.join = some v := by
    have o := ho s
    cases z : sv s with
    | own ds => rw [z] at qj; obtain ⟨l, xs, _, e, _⟩ := qj; exact ⟨_, e⟩
    | owk ds => rw [z] at qj; obtain ⟨l, xs, _, e, _⟩ := qj; exact ⟨_, e⟩
    | owt ds => rw [z] at qj; obtain ⟨l, xs, _, e, _⟩ := qj; exact ⟨_, e⟩
    | _ => rw [z] at o; cases o
  have hv' : σ[j]? = some (some v) := by
    cases z : σ[j]? with
    | none => rw [z] at hv; cases hv
    | some w => rw [z] at hv; exact congrArg some hv
  refine ⟨v, hv', ?_⟩
  refine hk g s _ F H Dn ⟨st.step, st.sub, ⟨fun n => if n = i then A j else if n = j then [] else A n, fun n => ?_, fun n m a ha hb => ?_⟩, by simp only [List.length_set]; exact st.len⟩ h
  · by_cases c : n = i
    · subst c
      rw [join_set_self (by rw [List.length_set]; exact hlen s), join_set_self (Nat.lt_of_lt_of_le (hlen s) st.len), if_pos rfl]
      rw [hv] at qj
      exact qj
    · rw [join_set_ne (Ne.symm c), join_set_ne (Ne.symm c), if_neg c]
      by_cases c' : n = j
      · subst c'
        rw [if_pos rfl]
        by_cases hlt : n < (φ s).length
        · rw [join_set_self hlt]; rfl
        · rw [List.getElem?_eq_none (by simpa using hlt)]; rfl
      · rw [if_neg c', join_set_ne (Ne.symm c')]
        exact h1 n
  · have key : ∀ {n a}, a ∈ (if n = i then A j else if n = j then [] else A n) → (n = i ∧ a ∈ A j) ∨ (n ≠ i ∧ n ≠ j ∧ a ∈ A n) := fun {n a} z => by
      by_cases c : n = i
      · rw [if_pos c] at z; exact .inl ⟨c, z⟩
      · rw [if_neg c] at z
        by_cases c' : n = j
        · rw [if_pos c'] at z; cases z
        · rw [if_neg c'] at z; exact .inr ⟨c, c', z⟩
    rcases key ha with ⟨e1, q1⟩ | ⟨e1, e1', q1⟩ <;> rcases key hb with ⟨e2, q2⟩ | ⟨e2, e2', q2⟩
    · rw [e1, e2]
    · exact absurd (h2 j m a q1 q2).symm e2'
    · exact absurd (h2 n j a q1 q2) e1'
    · exact h2 n m a q1 q2
end
end Pv
set_option linter.all false
set_option Elab.async false
/-! PvL: plain lemmas on the operations. -/
namespace Pv
open PySem L2
theorem while_pop {t : Unit → Deal → R (Bool × Deal)} {f : Unit → Deal → R (Fl Unit Unit × Deal)} {δ : Type}
    (ht : ∀ a xs i, t a (xs, i) = .ok (decide (xs.getLast? = some 0), (xs, i))) (hf : ∀ a xs i x, xs.getLast? = some x → f a (xs, i) = .ok (.nx (), xs.dropLast, i)) :
    ∀ (n : Nat) (xs : List Int) (i : Int), xs.length < n → ∃ ys, whileL (δ := δ) t f n () (xs, i) = .ok (.nx (), (ys, i)) ∧ ys.length ≤ xs.length
  | 0, _, _, h => absurd h (Nat.not_lt_zero _)
  | n + 1, xs, i, h => by
    unfold whileL
    rw [ht]
    by_cases c : xs.getLast? = some 0
    · obtain ⟨ys, e, l⟩ := while_pop ht hf n xs.dropLast i (by
        have : xs ≠ [] := by rintro rfl; cases c
        have := List.length_pos_iff.mpr this
        rw [List.length_dropLast]; omega)
      refine ⟨ys, ?_, by rw [List.length_dropLast] at l; omega⟩
      simp only [R.bind_ok, c, decide_true, if_true, hf _ _ _ _ c]
      exact e
    · exact ⟨xs, by simp [c], Nat.le_refl _⟩
theorem toPs_int : ∀ xs : List Int, toPs (xs.map .int) = some (xs.map .int)
  | [] => rfl
  | x :: xs => by simp only [List.map_cons, toPs, toP, toPs_int xs]
theorem canLay_ints : ∀ xs : List Int, PyData.canLayAll0 (xs.map .int) = true
  | [] => by simp [PyData.canLayAll0]
  | x :: xs => by simp [PyData.canLayAll0, PyData.canLay0, canLay_ints xs]
theorem depth_ints : ∀ xs : List Int, (PyData.list (xs.map .int)).depth ≤ 64 := by
  intro xs
  induction xs with
  | nil => decide
  | cons x xs ih => 
    simp [PyData.depth, PyData.depthAll] at *
    first | omega | exact ih
theorem ne_nil (xs : List Int) : opNe (.lst (xs.map .int)) (.lst []) = .ok (.bl (decide (xs ≠ []))) := by
  have h1 : SeqAt.shaped (.list (xs.map .int)) = true := by
    unfold SeqAt.shaped
    simp [PyData.canLay0, canLay_ints, depth_ints]
  have h2 : SeqAt.shaped (.list []) = true := by decide
  simp only [opNe, toP, toPs_int, toPs, Option.map_some, h1, h2, Bool.and_self, chk, if_true]
  cases xs with
  | nil => simp [PyData.eqv, PyData.eqvAll]
  | cons x xs => simp [PyData.eqv, PyData.eqvAll]
theorem ix_0 (a : D) (r : List D) : opIx (.lst (a :: r)) (.int 0) = .ok a := by simp [opIx, atI, ixN, opt]
theorem ix_1 (a b : D) (r : List D) : opIx (.lst (a :: b :: r)) (.int 1) = .ok b := by
  show opt (atI (a :: b :: r) 1) = _
  have : ixN (a :: b :: r).length 1 = some 1 := by
    unfold ixN
    rw [if_pos (by decide), if_pos (by simp; omega)]
    rfl
  unfold atI
  rw [this]
  rfl
theorem ix_last (xs : List Int) : opIx (.lst (xs.map .int)) (.int (-1)) = (opt xs.getLast?).bind fun x => .ok (.int x) := by
  simp only [opIx, atI_map]
  have : atI xs (-1) = xs.getLast? := by
    unfold atI ixN
    cases xs with
    | nil => rfl
    | cons x xs =>
      have : -((x :: xs).length : Int) ≤ -1 := by simp; omega
      rw [if_neg (by decide), if_pos this, List.getLast?_eq_getElem?]
      simp only [Option.bind_some]
      congr 1
      simp
      omega
  rw [this]
  cases xs.getLast? <;> rfl
theorem eq_int (i j : Int) : opEq (.int i) (.int j) = .ok (.bl (decide (i = j))) := by
  have h : ∀ i : Int, SeqAt.shaped (.int i) = true := fun i => by simp [SeqAt.shaped, PyData.canLay0, PyData.depth]
  simp only [opEq, toP, h, Bool.and_self, chk, if_true, PyData.eqv]
  rfl
theorem div_int (i j : Int) (h : 0 < j) (h' : j < 1073741824) : opDiv (.int i) (.int j) = .ok (.int (i / j)) := by simp [opDiv, chk, h, h']
theorem mod_int (i j : Int) (h : 0 < j) : opMod (.int i) (.int j) = .ok (.int (i % j)) := by simp [opMod, chk, h]
theorem mul_int (i j : Int) (h : smallI i = true ∨ smallI j = true) : opMul (.int i) (.int j) = .ok (.int (i * j)) := by
  have : (smallI i || smallI j) = true := by rcases h with h | h <;> simp [h]
  simp [opMul, chk, this]
theorem noLst_int (i : Int) : noLst (.int i) = true := by simp [noLst]
@[simp] theorem opt_some {α : Type} (a : α) : opt (some a) = .ok a := rfl
@[simp] theorem asBool_bl (b : Bool) : asBool (.bl b) = .ok b := rfl
@[simp] theorem asInt_int (b : Int) : asInt (.int b) = .ok b := rfl
@[simp] theorem noErr_ok {α : Type} (a : α) : noErr (.ok a) = .ok a := rfl
theorem while_pop_run {α β : Type} {t : Unit → Deal → R (Bool × Deal)} {f : Unit → Deal → R (Fl Unit Unit × Deal)} {k : Unit → Deal → R (Fl α β × Deal)} {P : R (Fl α β × Deal) → Prop} (xs : List Int) (i : Int) (h : xs.length < 1000)
    (ht : ∀ a xs i, t a (xs, i) = .ok (decide (xs.getLast? = some 0), (xs, i))) (hf : ∀ a xs i x, xs.getLast? = some x → f a (xs, i) = .ok (.nx (), xs.dropLast, i)) (hk : ∀ ys : List Int, ys.length ≤ xs.length → P (k () (ys, i))) : P (flb (whileL t f 1000 () (xs, i)) k) := by
  obtain ⟨ys, e, l⟩ := while_pop (δ := β) ht hf 1000 xs i h
  rw [e]
  exact hk ys l
@[simp] theorem bInt_int (i : Int) : bInt (.int i) = .ok (.int i) := rfl
@[simp] theorem d1_one (f : D → R D) (d : D) : d1 f [d] = f d := rfl
@[simp] theorem opAdd_int (i j : Int) : opAdd (.int i) (.int j) = .ok (.int (i + j)) := rfl
@[simp] theorem opNeg_int (i : Int) : opNeg (.int i) = .ok (.int (-i)) := rfl
end Pv
namespace Pv
open PySem L2
theorem ixN_nat (n : Nat) (v : Nat) (h : v < n) : ixN n (v : Int) = some v := by
  unfold ixN
  rw [if_pos (by omega), if_pos (by omega)]
  rfl
theorem ix_nat (xs : List D) (v : Nat) (h : v < xs.length) : opIx (.lst xs) (.int v) = .ok xs[v] := by
  simp [opIx, atI, ixN_nat _ _ h, h]
theorem ix_natT (xs : List D) (v : Nat) (h : v < xs.length) : opIx (.tup xs) (.int v) = .ok xs[v] := by
  simp [opIx, atI, ixN_nat _ _ h, h]
@[simp] theorem asItems_lst (xs : List D) : asItems (.lst xs) = .ok xs := rfl
@[simp] theorem asItems_tup (xs : List D) : asItems (.tup xs) = .ok xs := rfl
@[simp] theorem bLen_lst (xs : List D) : bLen (.lst xs) = .ok (.int xs.length) := rfl
@[simp] theorem bLen_tup (xs : List D) : bLen (.tup xs) = .ok (.int xs.length) := rfl
@[simp] theorem callL_one {α : Type} (f : List D → Deal → R (α × Deal)) (a : D) (dl : Deal) : callL 1 0 [] f [a] [] dl = f [a] dl := rfl
@[simp] theorem unfre_int (i : Int) : unfre (.int i) = .int i := rfl
/-- a list whose items are plain enough to be compared -/
def Cmp (d : D) : Prop := ∃ p, toP d = some p ∧ p.canLay0 = true ∧ p.depth ≤ 60
theorem toPs_cmp : ∀ {xs : List D}, (∀ d ∈ xs, Cmp d) → ∃ ps, toPs xs = some ps ∧ PyData.canLayAll0 ps = true ∧ PyData.depthAll ps ≤ 60 ∧ ps.length = xs.length
  | [], _ => ⟨[], rfl, by simp [PyData.canLayAll0], by simp [PyData.depthAll], rfl⟩
  | x :: xs, h => by
    obtain ⟨p, e1, c1, d1⟩ := h x (List.mem_cons_self ..)
    obtain ⟨ps, e2, c2, d2, l2⟩ := toPs_cmp fun d hd => h d (List.mem_cons_of_mem _ hd)
    refine ⟨p :: ps, by simp [toPs, e1, e2], by simp [PyData.canLayAll0, c1, c2], ?_, by simp [l2]⟩
    simp [PyData.depthAll]
    omega
theorem ne_nilC {xs : List D} (h : ∀ d ∈ xs, Cmp d) : opNe (.lst xs) (.lst []) = .ok (.bl (decide (xs ≠ []))) := by
  obtain ⟨ps, e, c, d, l⟩ := toPs_cmp h
  have h1 : SeqAt.shaped (.list ps) = true := by
    unfold SeqAt.shaped
    simp [PyData.canLay0, c, PyData.depth]
    omega
  have h2 : SeqAt.shaped (.list []) = true := by decide
  simp only [opNe, toP, e, toPs, Option.map_some, h1, h2, Bool.and_self, chk, if_true]
  cases xs with
  | nil => cases ps with
    | nil => simp [PyData.eqv, PyData.eqvAll]
    | cons p ps => simp at l
  | cons x xs => cases ps with
    | nil => simp at l
    | cons p ps => simp [PyData.eqv, PyData.eqvAll]
end Pv
namespace Pv
open PySem L2
theorem while_run {γ τ α β : Type} {t : γ → τ → R (Bool × τ)} {f : γ → τ → R (Fl γ γ × τ)} {k : γ → τ → R (Fl α β × τ)} {P : R (Fl α β × τ) → Prop} (Inv : γ → τ → Prop) (ms : γ → τ → Nat)
    (h : ∀ a s, Inv a s → (t a s = .ok (false, s) ∧ P (k a s)) ∨ (t a s = .ok (true, s) ∧ ∃ a' s', f a s = .ok (.nx a', s') ∧ Inv a' s' ∧ ms a' s' < ms a s)) :
    ∀ (n : Nat) (a : γ) (s : τ), Inv a s → ms a s < n → P (flb (whileL t f n a s) k)
  | 0, _, _, _, hn => absurd hn (Nat.not_lt_zero _)
  | n + 1, a, s, i, hn => by
    unfold whileL
    rcases h a s i with ⟨e, p⟩ | ⟨e, a', s', e', i', l⟩
    · rw [e]; exact p
    · rw [e, R.bind_ok]
      simp only [if_true, e', R.bind_ok]
      exact while_run Inv ms h n a' s' i' (by omega)
end Pv
namespace Pv
theorem perm_pick {α : Type} : ∀ (l : List α) (n : Nat) (h : n < l.length), (l[n] :: l.eraseIdx n).Perm l
  | [], _, h => absurd h (Nat.not_lt_zero _)
  | x :: xs, 0, _ => List.Perm.refl _
  | x :: xs, n + 1, h => by
    have h' : n < xs.length := by simpa using h
    show (xs[n] :: x :: xs.eraseIdx n).Perm (x :: xs)
    exact (List.Perm.swap _ _ _).trans ((perm_pick xs n h').cons x)
end Pv
namespace Pv
open PySem L2
theorem lcL_fm {τ : Type} {f : D → τ → R (Option D × τ)} {g : D → Option D} : ∀ {ds : List D} {s : τ}, (∀ d ∈ ds, ∀ s, f d s = .ok (g d, s)) → lcL f ds s = .ok (ds.filterMap g, s)
  | [], _, _ => rfl
  | d :: ds, s, h => by
    unfold lcL
    rw [h d (List.mem_cons_self ..), R.bind_ok, lcL_fm fun d hd => h d (List.mem_cons_of_mem _ hd)]
    cases e : g d <;> simp [List.filterMap_cons, e]
theorem lcL_map {τ : Type} {f : D → τ → R (Option D × τ)} {g : D → D} {ds : List D} {s : τ} (h : ∀ d ∈ ds, ∀ s, f d s = .ok (some (g d), s)) : lcL f ds s = .ok (ds.map g, s) := by
  rw [lcL_fm (g := fun d => some (g d)) h]
  simp
theorem lcL_inv {τ : Type} {f : D → τ → R (Option D × τ)} {Inv : τ → Prop} {Q : D → Prop} : ∀ {ds : List D} {s : τ}, Inv s → (∀ d ∈ ds, ∀ s, Inv s → ∃ r s', f d s = .ok (some r, s') ∧ Q r ∧ Inv s') → ∃ rs s', lcL f ds s = .ok (rs, s') ∧ rs.length = ds.length ∧ (∀ r ∈ rs, Q r) ∧ Inv s'
  | [], s, i, _ => ⟨[], s, rfl, rfl, fun _ h => by simp at h, i⟩
  | d :: ds, s, i, h => by
    obtain ⟨r, s1, e1, q1, i1⟩ := h d (List.mem_cons_self ..) s i
    obtain ⟨rs, s2, e2, l2, q2, i2⟩ := lcL_inv (ds := ds) i1 fun d hd => h d (List.mem_cons_of_mem _ hd)
    refine ⟨r :: rs, s2, by unfold lcL; rw [e1, R.bind_ok, e2]; rfl, by simp [l2], fun x hx => ?_, i2⟩
    rcases List.mem_cons.mp hx with rfl | hx
    · exact q1
    · exact q2 x hx
theorem forL_inv {α β τ : Type} {f : D → α → τ → R (Fl α α × τ)} (Inv : Nat → α → τ → Prop) : ∀ {ds : List D} {a : α} {s : τ} (n : Nat), Inv n a s → (∀ i (h : i < ds.length) a s, Inv (n + i) a s → ∃ a' s', f ds[i] a s = .ok (.nx a', s') ∧ Inv (n + i + 1) a' s') → ∃ a' s', forL (γ := β) f ds a s = .ok (.nx a', s') ∧ Inv (n + ds.length) a' s'
  | [], a, s, n, i, _ => ⟨a, s, rfl, i⟩
  | d :: ds, a, s, n, i, h => by
    obtain ⟨a1, s1, e1, i1⟩ := h 0 (by simp) a s i
    obtain ⟨a2, s2, e2, i2⟩ := forL_inv (β := β) (f := f) Inv (ds := ds) (n + 1) i1 fun j hj a s ij => by
      obtain ⟨a', s', e, i'⟩ := h (j + 1) (by simp; omega) a s (by rwa [show n + (j + 1) = n + 1 + j by omega])
      refine ⟨a', s', e, by rwa [show n + 1 + j + 1 = n + (j + 1) + 1 by omega]⟩
    refine ⟨a2, s2, ?_, by rw [show n + (d :: ds).length = n + 1 + ds.length by simp; omega]; exact i2⟩
    unfold forL
    rw [show f d a s = _ from e1]
    exact e2
theorem cutL_le {α : Type} (xs : List α) (lo hi : Option Int) : (cutL xs lo hi).length ≤ xs.length := by
  unfold cutL
  rw [List.length_take, List.length_drop]
  omega
@[simp] theorem ar1_one {ω : Type} (z : ω) (f : D → ω) (d : D) : ar1 z f [d] = f d := rfl
@[simp] theorem ar2_two {ω : Type} (z : ω) (f : D → D → ω) (d e : D) : ar2 z f [d, e] = f d e := rfl
@[simp] theorem partName_d (d : D) : partName d = some [d] := rfl
theorem asInts_map : ∀ xs : List Int, asInts (xs.map .int) = some xs
  | [] => rfl
  | x :: xs => by simp [asInts, asInts_map xs]
end Pv
namespace Pv
open PySem L2
theorem forL_run {α β γ τ : Type} {f : D → α → τ → R (Fl α α × τ)} {k : α → τ → R (Fl γ β × τ)} {P : R (Fl γ β × τ) → Prop} (Inv : Nat → α → τ → Prop) {ds : List D} {a : α} {s : τ} (i0 : Inv 0 a s)
    (h : ∀ i (h : i < ds.length) a s, Inv i a s → ∃ a' s', f ds[i] a s = .ok (.nx a', s') ∧ Inv (i + 1) a' s') (hk : ∀ a s, Inv ds.length a s → P (k a s)) : P (flb (forL f ds a s) k) := by
  obtain ⟨a', s', e, i⟩ := forL_inv (β := β) (f := f) Inv 0 i0 (by simpa using h)
  rw [e]
  exact hk a' s' (by simpa using i)
def keepI (p : Int → Bool) : D → Option D
  | .int i => if p i = true then some (.int i) else none
  | _ => none
@[simp] theorem keepI_int (p : Int → Bool) (i : Int) : keepI p (.int i) = if p i = true then some (.int i) else none := rfl
theorem ints_fm (xs : List Int) (p : Int → Bool) : (xs.map D.int).filterMap (keepI p) = (xs.filter p).map D.int := by
  induction xs with
  | nil => rfl
  | cons x xs ih =>
    by_cases c : p x = true
    · simp [c] at ih ⊢; exact ih
    · simp [c] at ih ⊢; exact ih
@[simp] theorem opRev_lst (xs : List D) : opRev (.lst xs) = .ok (.lst xs.reverse) := rfl
@[simp] theorem opGe_int (i j : Int) : opGe (.int i) (.int j) = .ok (.bl (decide (j ≤ i))) := rfl
@[simp] theorem opCut_scr (ns : List Int) (a b : Option Int) : opCut (.scr ns) a b = .ok (.lst ((cutL ns a b).map .int)) := rfl
theorem pow_18 : opPow (.int 10) (.int 18) = .ok (.int 1000000000000000000) := by
  simp [opPow, chk]
end Pv
set_option linter.all false
set_option Elab.async false
/-! PvR: data that can be shown and compared. -/
namespace Pv
open PySem L2
theorem textFrom_le : ∀ (ts : List Str) (k : Nat) (acc : Str) (n : Nat), (∀ t ∈ ts, t.length ≤ n) → (textFrom k acc ts).length ≤ acc.length + ts.length * (n + 2)
  | [], k, acc, n, _ => by show acc.length ≤ _; omega
  | t :: r, k, acc, n, h => by
    have ih := textFrom_le r (k + 1) (acc ++ (if k > 0 then ", " else "" : String) ++ t) n fun t ht => h t (List.mem_cons_of_mem _ ht)
    have e : (acc ++ (if k > 0 then ", " else "" : String) ++ t).length = acc.length + (if k > 0 then 2 else 0) + t.length := by
      rw [strLen_append, strLen_append]
      split <;> rfl
    have ht := h t (List.mem_cons_self ..)
    show (textFrom (k + 1) (acc ++ (if k > 0 then ", " else "" : String) ++ t) r).length ≤ _
    rw [List.length_cons, Nat.add_mul]
    rw [e] at ih
    have : (if k > 0 then 2 else 0) ≤ 2 := by split <;> omega
    omega
theorem listText_le (ts : List Str) (n : Nat) (h : ∀ t ∈ ts, t.length ≤ n) : (listText ts).length ≤ 2 + ts.length * (n + 2) := by
  have := textFrom_le ts 0 "[" n h
  unfold listText
  rw [strLen_append]
  have e1 : ((("[" : String) : Str)).length = 1 := rfl
  have e2 : ((("]" : String) : Str)).length = 1 := rfl
  omega
theorem piled_le : ∀ (ts : List Str) (n : Nat), (∀ t ∈ ts, t.length ≤ n) → piled ts ≤ ts.length * (n + 2)
  | [], _, _ => by simp [piled]
  | t :: r, n, h => by
    rw [piled_cons, List.length_cons, Nat.add_mul]
    have := piled_le r n fun t ht => h t (List.mem_cons_of_mem _ ht)
    have := h t (List.mem_cons_self ..)
    omega
theorem tupleText_le (ts : List Str) (n : Nat) (h : ∀ t ∈ ts, t.length ≤ n) : (tupleText ts).length ≤ 3 + ts.length * (n + 2) := by
  unfold tupleText
  rw [strLen_append, strLen_append]
  have e1 : ((("(" : String) : Str)).length = 1 := rfl
  have e3 : (((if ts.length == 1 then ",)" else ")" : String) : Str)).length ≤ 2 := by split <;> decide
  rw [e1]
  by_cases c : ts = []
  · subst c
    have e0 : ((Str.ofString ", ").join []).length = 0 := rfl
    have e4 : (Str.ofString (if (([] : List Str).length == 1) = true then ",)" else ")")).length = 1 := by decide +kernel
    omega
  · have := join_length_add ts c
    have := piled_le ts n h
    omega
theorem int_text_le {i : Int} (h : i.natAbs < 10 ^ 18) : (Str.ofString (toString i)).length ≤ 19 := by
  have pos : ∀ v : Int, 0 ≤ v → v < 10 ^ 18 → (Str.ofString (toString v)).length ≤ 18 := fun v h0 h1 => PyProof.Rows.toString_length_le h0 (by decide) h1
  by_cases c : i < 0
  · rw [PyProof.Rows.len_text_neg c]
    have := pos (0 - i) (by omega) (by omega)
    omega
  · have := pos i (by omega) (by omega)
    omega
/-- it can be shown in n signs, and compared -/
def Sh (k n : Nat) (d : D) : Prop := ∃ p, toP d = some p ∧ p.showable = true ∧ p.canLay0 = true ∧ p.depth ≤ k ∧ p.shown.length ≤ n
theorem Sh.mono {k n k' n' : Nat} {d : D} (h : Sh k n d) (hk : k ≤ k') (hn : n ≤ n') : Sh k' n' d := by
  obtain ⟨p, h1, h2, h3, h4, h5⟩ := h
  exact ⟨p, h1, h2, h3, Nat.le_trans h4 hk, Nat.le_trans h5 hn⟩
theorem Sh.non {k n : Nat} (hn : 4 ≤ n) : Sh k n .non := ⟨.none, rfl, rfl, rfl, Nat.zero_le _, hn⟩
theorem Sh.bl {k n : Nat} (b : Bool) (hn : 5 ≤ n) : Sh k n (.bl b) := ⟨.bool b, rfl, rfl, rfl, Nat.zero_le _, by cases b; exact hn; exact Nat.le_trans (by decide) hn⟩
theorem Sh.int {k n : Nat} {i : Int} (h : i.natAbs < 10 ^ 18) (hn : 19 ≤ n) : Sh k n (.int i) := by
  refine ⟨.int i, rfl, ?_, rfl, Nat.zero_le _, Nat.le_trans ?_ hn⟩
  · show decide (i.natAbs.log2 < 1920) = true
    rw [decide_eq_true_eq]
    have h64 : i.natAbs < 2 ^ 64 := Nat.lt_of_lt_of_le h (by decide)
    by_cases c : i.natAbs = 0
    · rw [c]; decide
    · exact Nat.lt_of_lt_of_le ((Nat.log2_lt c).mpr h64) (by decide)
  · show (Str.ofString (toString i)).length ≤ 19
    exact int_text_le h
theorem Sh.str {k n : Nat} {s : Str} (h : PyData.strOk s = true) (hn : (reprText s).length ≤ n) : Sh k n (.str s) := ⟨.str s, rfl, rfl, h, Nat.zero_le _, hn⟩
theorem Sh.all {k n : Nat} : ∀ {ds : List D}, (∀ d ∈ ds, Sh k n d) → ∃ ps, toPs ds = some ps ∧ PyData.showableAll ps = true ∧ PyData.canLayAll0 ps = true ∧ PyData.depthAll ps ≤ k ∧ (∀ t ∈ PyData.shownAll ps, t.length ≤ n) ∧ (PyData.shownAll ps).length = ds.length
  | [], _ => ⟨[], rfl, by simp [PyData.showableAll], by simp [PyData.canLayAll0], by simp [PyData.depthAll], by simp [PyData.shownAll], by simp [PyData.shownAll]⟩
  | d :: ds, h => by
    obtain ⟨p, h1, h2, h3, h4, h5⟩ := h d (List.mem_cons_self ..)
    obtain ⟨ps, g1, g2, g3, g4, g5, g6⟩ := Sh.all fun d hd => h d (List.mem_cons_of_mem _ hd)
    refine ⟨p :: ps, by simp [toPs, h1, g1], by simp [PyData.showableAll, h2, g2], by simp [PyData.canLayAll0, h3, g3], by simp [PyData.depthAll]; omega, ?_, by simp [PyData.shownAll, g6]⟩
    intro t ht
    simp only [PyData.shownAll, List.mem_cons] at ht
    rcases ht with rfl | ht
    · exact h5
    · exact g5 t ht
theorem Sh.lst {k n m : Nat} {ds : List D} (h : ∀ d ∈ ds, Sh k n d) (hm : 2 + ds.length * (n + 2) ≤ m) : Sh (k + 1) m (.lst ds) := by
  obtain ⟨ps, g1, g2, g3, g4, g5, g6⟩ := Sh.all h
  refine ⟨.list ps, by simp [toP, g1], by simpa [PyData.showable] using g2, by simpa [PyData.canLay0] using g3, by simp [PyData.depth]; omega, ?_⟩
  have := listText_le _ n g5
  rw [g6] at this
  simpa [PyData.shown] using Nat.le_trans this hm
theorem Sh.tup {k n m : Nat} {ds : List D} (h : ∀ d ∈ ds, Sh k n d) (hm : 3 + ds.length * (n + 2) ≤ m) : Sh (k + 1) m (.tup ds) := by
  obtain ⟨ps, g1, g2, g3, g4, g5, g6⟩ := Sh.all h
  refine ⟨.tuple ps, by simp [toP, g1], by simpa [PyData.showable] using g2, by simpa [PyData.canLay0] using g3, by simp [PyData.depth]; omega, ?_⟩
  have := tupleText_le _ n g5
  rw [g6] at this
  simpa [PyData.shown] using Nat.le_trans this hm
def shw (d : D) : Str := match toP d with
  | some p => p.shown
  | none => ⟨#[]⟩
theorem Sh.repr {k n : Nat} {d : D} (h : Sh k n d) (hk : k ≤ 60) (hn : n ≤ 1000000) : bRepr d = .ok (.str (shw d)) := by
  obtain ⟨p, h1, h2, h3, h4, h5⟩ := h
  have : reprOk p = true := by
    unfold reprOk
    rw [h2, PyData.hasDict_of_canLay p h3]
    simp
    omega
  simp [bRepr, shw, h1, opt, chk, this]
theorem Sh.shw_len {k n : Nat} {d : D} (h : Sh k n d) : (shw d).length ≤ n := by
  obtain ⟨p, h1, h2, h3, h4, h5⟩ := h
  simp [shw, h1, h5]
mutual
theorem eqv_self : ∀ p : PyData, p.canLay0 = true → PyData.eqv p p = true
  | .none, _ => by simp [PyData.eqv]
  | .bool b, _ => by simp [PyData.eqv]
  | .int b, _ => by simp [PyData.eqv]
  | .str b, _ => by simp [PyData.eqv]
  | .list ps, h => by
    rw [PyData.canLay0] at h
    rw [PyData.eqv]; exact eqvs_self ps h
  | .tuple ps, h => by
    rw [PyData.canLay0] at h
    rw [PyData.eqv]; exact eqvs_self ps h
  | .dict _, h => by simp [PyData.canLay0] at h
theorem eqvs_self : ∀ p : List PyData, PyData.canLayAll0 p = true → PyData.eqvAll p p = true
  | [], _ => by simp [PyData.eqvAll]
  | p :: ps, h => by
    simp only [PyData.canLayAll0, Bool.and_eq_true] at h
    simp only [PyData.eqvAll, eqv_self p h.1, eqvs_self ps h.2, Bool.and_self]
end
theorem Sh.cmp {k n : Nat} {d : D} (h : Sh k n d) (hk : k ≤ 60) : Cmp d := by
  obtain ⟨p, h1, h2, h3, h4, h5⟩ := h
  exact ⟨p, h1, h3, Nat.le_trans h4 hk⟩
theorem str_ne (x y : Str) : opNe (.str x) (.str y) = .ok (.bl (!decide (x = y))) := rfl
theorem str_eq (x y : Str) : opEq (.str x) (.str y) = .ok (.bl (decide (x = y))) := rfl
theorem ne_self {d : D} (h : Cmp d) : opNe d d = .ok (.bl false) := by
  obtain ⟨p, h1, h3, h4⟩ := h
  have : SeqAt.shaped p = true := by unfold SeqAt.shaped; simp [h3]; omega
  unfold opNe
  split
  · simp
  · simp only [h1, this, Bool.and_self, chk, if_true, eqv_self p h3, Bool.not_true]
theorem eq_self' {d : D} (h : Cmp d) : opEq d d = .ok (.bl true) := by
  obtain ⟨p, h1, h3, h4⟩ := h
  have : SeqAt.shaped p = true := by unfold SeqAt.shaped; simp [h3]; omega
  unfold opEq
  split
  · simp
  · simp only [h1, this, Bool.and_self, chk, if_true, eqv_self p h3]
/-- two shown things are the same if the things are -/
theorem repr_ne_self {k n : Nat} {d : D} (h : Sh k n d) (hk : k ≤ 60) (hn : n ≤ 1000000) : bRepr d = .ok (.str (shw d)) ∧ opNe (.str (shw d)) (.str (shw d)) = .ok (.bl false) ∧ opEq (.str (shw d)) (.str (shw d)) = .ok (.bl true) := ⟨h.repr hk hn, by simp [str_ne], by simp [str_eq]⟩
end Pv
set_option linter.all false
set_option Elab.async false
/-! PvN: the mirrors in a plain form; loops. -/
namespace Pv
open PySem L2 SrtO
theorem bind_as {α β γ : Type} (r : R α) (f : α → R β) (g : β → R γ) : (r.bind f).bind g = r.bind fun a => (f a).bind g := by cases r <;> rfl
theorem flb_bind {α α' β τ ω : Type} (r : R ω) (f : ω → R (Fl α β × τ)) (k : α → τ → R (Fl α' β × τ)) : flb (r.bind f) k = r.bind fun a => flb (f a) k := by cases r <;> rfl
theorem finish_bind {α β τ ω : Type} (r : R ω) (f : ω → R (Fl α β × τ)) : Pv.finish (r.bind f) = r.bind fun a => Pv.finish (f a) := by cases r <;> rfl
theorem finish1_bind {α β ω : Type} (r : R ω) (f : ω → R (Fl α β × Unit)) : Pv.finish1 (r.bind f) = r.bind fun a => Pv.finish1 (f a) := by cases r <;> rfl
theorem finishI_bind {α β ω : Type} (r : R ω) (f : ω → R (Fl α β × Unit)) (fs : α → List (Str × D)) : Pv.finishI (r.bind f) fs = r.bind fun a => Pv.finishI (f a) fs := by cases r <;> rfl
theorem flb_as {α α' α'' β τ : Type} (r : R (Fl α β × τ)) (f : α → τ → R (Fl α' β × τ)) (k : α' → τ → R (Fl α'' β × τ)) : flb (flb r f) k = flb r fun a s => flb (f a s) k := by
  cases r with
  | ok p => obtain ⟨q, s⟩ := p; cases q <;> rfl
  | _ => rfl
theorem if_tt {α : Type} (a b : α) : (if true = true then a else b) = a := rfl
theorem if_ff {α : Type} (a b : α) : (if false = true then a else b) = b := rfl
theorem not_tt : (!true) = false := rfl
theorem not_ff : (!false) = true := rfl
theorem tl0 : (([] : List D).length ≤ 1000000) = True := eq_true (by decide)
theorem tl1 (a : D) : ([a].length ≤ 1000000) = True := eq_true (by simp)
theorem tl2 (a b : D) : ([a, b].length ≤ 1000000) = True := eq_true (by simp)
theorem tl3 (a b c : D) : ([a, b, c].length ≤ 1000000) = True := eq_true (by simp)
theorem tl4 (a b c d : D) : ([a, b, c, d].length ≤ 1000000) = True := eq_true (by simp)
theorem tl5 (a b c d e : D) : ([a, b, c, d, e].length ≤ 1000000) = True := eq_true (by simp)
theorem tl6 (a b c d e f : D) : ([a, b, c, d, e, f].length ≤ 1000000) = True := eq_true (by simp)
theorem if_T {α : Type} (a b : α) {h : Decidable True} : (@ite α True h a b) = a := if_pos trivial
theorem ixT0 (a : D) (r : List D) : opIx (.tup (a :: r)) (.int 0) = .ok a := ix_natT (a :: r) 0 (by simp)
theorem ixT1 (a b : D) (r : List D) : opIx (.tup (a :: b :: r)) (.int 1) = .ok b := ix_natT (a :: b :: r) 1 (by simp)
theorem ixT2 (a b c : D) (r : List D) : opIx (.tup (a :: b :: c :: r)) (.int 2) = .ok c := ix_natT (a :: b :: c :: r) 2 (by simp)
theorem ixT3 (a b c d : D) (r : List D) : opIx (.tup (a :: b :: c :: d :: r)) (.int 3) = .ok d := ix_natT (a :: b :: c :: d :: r) 3 (by simp)
theorem ixL0 (a : D) (r : List D) : opIx (.lst (a :: r)) (.int 0) = .ok a := ix_nat (a :: r) 0 (by simp)
theorem two_two (a b : D) : two [a, b] = .ok (a, b) := rfl
theorem three_three (a b c : D) : three [a, b, c] = .ok (a, b, c) := rfl
theorem opSub_int (i j : Int) : opSub (.int i) (.int j) = .ok (.int (i - j)) := rfl
theorem opGt_int (i j : Int) : opGt (.int i) (.int j) = .ok (.bl (decide (j < i))) := rfl
theorem opLt_int (i j : Int) : opLt (.int i) (.int j) = .ok (.bl (decide (i < j))) := rfl
theorem opLe_int (i j : Int) : opLe (.int i) (.int j) = .ok (.bl (decide (i ≤ j))) := rfl
theorem bMax2_int (i j : Int) : d2 bMax2 [.int i, .int j] = .ok (.int (if j > i then j else i)) := rfl
theorem bMin2_int (i j : Int) : d2 bMin2 [.int i, .int j] = .ok (.int (if j < i then j else i)) := rfl
theorem ne_int (i j : Int) : opNe (.int i) (.int j) = .ok (.bl (decide (i ≠ j))) := by
  have h : ∀ i : Int, SeqAt.shaped (.int i) = true := fun i => by simp [SeqAt.shaped, PyData.canLay0, PyData.depth]
  simp only [opNe, toP, h, Bool.and_self, chk, if_true, PyData.eqv]
  by_cases c : i = j <;> simp [c]
theorem is_non : opIs .non .non = .ok (.bl true) := rfl
theorem is_int (i : Int) : opIs (.int i) .non = .ok (.bl false) := rfl
theorem isnot_non : opIsNot .non .non = .ok (.bl false) := rfl
theorem isnot_int (i : Int) : opIsNot (.int i) .non = .ok (.bl true) := rfl
theorem bTuple_lst (xs : List D) : bTuple (.lst xs) = .ok (.tup xs) := rfl
theorem bTuple_tup (xs : List D) : bTuple (.tup xs) = .ok (.tup xs) := rfl
theorem bList_lst (xs : List D) : bList (.lst xs) = .ok (.lst xs) := rfl
theorem bList_tup (xs : List D) : bList (.tup xs) = .ok (.lst xs) := rfl
theorem opRev_lst' (xs : List D) : opRev (.lst xs) = .ok (.lst xs.reverse) := rfl
theorem unfre_bl (b : Bool) : unfre (.bl b) = .bl b := rfl
theorem unfre_tup (b : List D) : unfre (.tup b) = .tup b := rfl
theorem unfre_lst (b : List D) : unfre (.lst b) = .lst b := rfl
theorem unfre_fre (b : List D) : unfre (.fre b) = .lst b := rfl
theorem unfre_non : unfre .non = .non := rfl
theorem unfre_str (s : Str) : unfre (.str s) = .str s := rfl
theorem d2_two (f : D → D → R D) (a b : D) : d2 f [a, b] = f a b := rfl
theorem cut_tL (xs : List D) (n : Nat) : opCut (.tup xs) none (some (n : Int)) = .ok (.tup (xs.take n)) := by
  simp only [opCut, cutL, HT.sIx_none, HT.sIx_nat, List.drop_zero, Nat.sub_zero]
  congr 2
  rw [List.take_eq_take_min]
  simp [Nat.min_comm]
theorem cut_dR (xs : List D) (n : Nat) : opCut (.tup xs) (some (n : Int)) none = .ok (.tup (xs.drop n)) := by
  simp only [opCut, cutL, HT.sIx_none, HT.sIx_nat]
  congr 2
  by_cases c : n ≤ xs.length
  · rw [Nat.min_eq_left c, List.take_of_length_le (by simp)]
  · rw [Nat.min_eq_right (by omega)]
    simp [List.drop_eq_nil_of_le (show xs.length ≤ n by omega)]
theorem cut_lastT (xs : List D) : opCut (.tup xs) none (some (-1)) = .ok (.tup xs.dropLast) := by
  simp only [opCut, cutL, HT.sIx_none]
  have : HT.sIx xs.length xs.length (some (-1)) = xs.length - 1 := by
    show (if (-1 : Int) < 0 then ((-1 : Int) + (xs.length : Int)).toNat else min (-1 : Int).toNat xs.length) = _
    rw [if_pos (by decide)]
    omega
  rw [this, List.drop_zero, Nat.sub_zero, List.dropLast_eq_take]
theorem forL_cons {α β τ : Type} {f : D → α → τ → R (Fl α α × τ)} (x : D) (xs : List D) (a : α) (s : τ) : forL (γ := β) f (x :: xs) a s = (f x a s).bind fun p => match p.1 with
    | .nx a' => forL f xs a' p.2
    | .bk a' => .ok (.nx a', p.2)
    | .rt r => .ok (.rt r, p.2) := rfl
theorem forL_append {α β τ : Type} {f : D → α → τ → R (Fl α α × τ)} : ∀ (xs ys : List D) (a : α) (s : τ) {a' : α} {s' : τ}, forL (γ := β) f xs a s = .ok (.nx a', s') → (∀ x ∈ xs, ∀ a s b s', f x a s ≠ .ok (.bk b, s')) → forL (γ := β) f (xs ++ ys) a s = forL f ys a' s'
  | [], ys, a, s, _, _, h, _ => by cases h; rfl
  | x :: xs, ys, a, s, a', s', h, nb => by
    rw [List.cons_append, forL_cons]
    rw [forL_cons] at h
    cases q : f x a s with
    | ok p =>
      obtain ⟨p, s1⟩ := p
      rw [q] at h
      cases p with
      | nx a1 => exact forL_append xs ys a1 s1 h fun x hx => nb x (List.mem_cons_of_mem _ hx)
      | rt d => simp at h
      | bk b => exact absurd q (nb x (List.mem_cons_self ..) a s b s1)
    | err c d => rw [q] at h; cases h
    | bad => rw [q] at h; cases h
/-- items told with their places, from n on -/
def enF {α : Type} (enc : α → D) (n : Nat) (xs : List α) : List D := (xs.zipIdx n).map fun q => .tup [.int (q.2 : Nat), enc q.1]
theorem enD_enF {α : Type} (enc : α → D) (xs : List α) : enD (xs.map enc) = enF enc 0 xs := by
  unfold enD enF
  rw [List.zipIdx_map, List.map_map]
  rfl
theorem enF_cons {α : Type} (enc : α → D) (n : Nat) (x : α) (xs : List α) : enF enc n (x :: xs) = .tup [.int (n : Nat), enc x] :: enF enc (n + 1) xs := by simp [enF]
theorem forL_enfind {α β γ τ : Type} {f : D → γ → τ → R (Fl γ γ × τ)} {enc : α → D} {q : α → Bool} {g : Nat → α → D} {a : γ} {s : τ} : ∀ (xs : List α) (n : Nat),
    (∀ i, ∀ x ∈ xs, f (.tup [.int (i : Nat), enc x]) a s = if q x = true then .ok (.rt (g i x), s) else .ok (.nx a, s)) →
    (∃ i, ∃ h : i < xs.length, xs.findIdx? q = some i ∧ forL (γ := β) f (enF enc n xs) a s = .ok (.rt (g (n + i) xs[i]), s)) ∨ (xs.findIdx? q = none ∧ forL (γ := β) f (enF enc n xs) a s = .ok (.nx a, s))
  | [], n, h => .inr ⟨rfl, rfl⟩
  | x :: xs, n, h => by
    rw [enF_cons]
    unfold forL
    rw [h n x (List.mem_cons_self ..)]
    by_cases c : q x = true
    · refine .inl ⟨0, by simp, by simp [List.findIdx?_cons, c], by simp [c]⟩
    · rw [if_neg c]
      rcases forL_enfind (β := β) xs (n + 1) (fun i y hy => h i y (List.mem_cons_of_mem _ hy)) with ⟨i, hi, e1, e2⟩ | ⟨e1, e2⟩
      · refine .inl ⟨i + 1, by simpa using hi, by simp [List.findIdx?_cons, c, e1], ?_⟩
        show forL f (enF enc (n + 1) xs) a s = _
        rw [e2, show n + (i + 1) = n + 1 + i by omega]
        rfl
      · exact .inr ⟨by simp [List.findIdx?_cons, c, e1], e2⟩
/-- a machine -/
structure Mt where
  k : Nat
  n : Nat
  st : List (List Nat)
def Mt.Ok (m : Mt) : Prop := 0 < m.k ∧ 0 < m.n ∧ m.st.length = m.n ∧ ∀ r ∈ m.st, r.length = m.k ∧ ∀ x ∈ r, x < m.n
def nD (x : Nat) : D := .int (x : Int)
def Mt.given (m : Mt) : D := .lst (m.st.map fun r => .lst (r.map nD))
def Mt.fields (m : Mt) : List (Str × D) := [("commands", nD m.k), ("states", nD m.n), ("steps", .tup (m.st.map fun r => .tup (r.map nD))), ("_found", .dct [])]
def Mt.obj (m : Mt) : D := .obj "Machine" m.fields
theorem Mt.at_commands (m : Mt) : attrD (Str.ofString "Machine") (Str.ofString "commands") m.obj = .ok (nD m.k) := rfl
theorem Mt.at_states (m : Mt) : attrD (Str.ofString "Machine") (Str.ofString "states") m.obj = .ok (nD m.n) := rfl
theorem Mt.at_steps (m : Mt) : attrD (Str.ofString "Machine") (Str.ofString "steps") m.obj = .ok (.tup (m.st.map fun r => .tup (r.map nD))) := rfl
theorem asBools_map {α : Type} (f : α → Bool) : ∀ xs : List α, asBools (xs.map fun x => D.bl (f x)) = some (xs.map f)
  | [] => rfl
  | x :: xs => by simp [asBools, asBools_map f xs]
theorem bAll_map {α : Type} (f : α → Bool) (xs : List α) : bAll (.lst (xs.map fun x => D.bl (f x))) = .ok (.bl (xs.all f)) := by
  simp only [bAll, asBools_map, opt_some, R.bind_ok]
  congr 2
  simp [List.all_map]
theorem bAny_map {α : Type} (f : α → Bool) (xs : List α) : bAny (.lst (xs.map fun x => D.bl (f x))) = .ok (.bl (xs.any f)) := by
  simp only [bAny, asBools_map, opt_some, R.bind_ok]
  congr 2
  simp [List.any_map]
theorem chk_len {α β : Type} (f : α → β) (xs : List α) (n : Nat) (h : xs.length ≤ n) {γ : Type} (c : γ) : chk (decide ((xs.map f).length ≤ n)) c = .ok c := by simp [chk, h]
theorem chk_le {α : Type} (xs : List α) (n : Nat) (h : xs.length ≤ n) {γ : Type} (c : γ) : chk (decide (xs.length ≤ n)) c = .ok c := by simp [chk, h]
theorem chk_lt {α : Type} (xs : List α) (n : Nat) (h : xs.length < n) {γ : Type} (c : γ) : chk (decide (xs.length < n)) c = .ok c := by simp [chk, h]
/-- a comprehension over told things -/
theorem lc_map {α τ : Type} {f : D → τ → R (Option D × τ)} {enc : α → D} {g : α → D} {xs : List α} {s : τ} (h : ∀ x ∈ xs, ∀ s, f (enc x) s = .ok (some (g x), s)) : lcL f (xs.map enc) s = .ok (xs.map g, s) := by
  induction xs generalizing s with
  | nil => rfl
  | cons x xs ih =>
    rw [List.map_cons]
    unfold lcL
    rw [h x (List.mem_cons_self ..), R.bind_ok, ih fun y hy => h y (List.mem_cons_of_mem _ hy)]
    rfl
theorem lc_filter {α τ : Type} {f : D → τ → R (Option D × τ)} {enc : α → D} {q : α → Bool} {g : α → D} {xs : List α} {s : τ} (h : ∀ x ∈ xs, ∀ s, f (enc x) s = .ok (if q x = true then some (g x) else none, s)) : lcL f (xs.map enc) s = .ok ((xs.filter q).map g, s) := by
  induction xs generalizing s with
  | nil => rfl
  | cons x xs ih =>
    rw [List.map_cons]
    unfold lcL
    rw [h x (List.mem_cons_self ..), R.bind_ok, ih fun y hy => h y (List.mem_cons_of_mem _ hy)]
    by_cases c : q x = true <;> simp [c]
theorem rgD_nat (n : Nat) : rgD 0 (n : Int) = (List.range n).map nD := by
  simp [rgD, nD]
theorem forL_run' {α α' β γ τ : Type} {f : D → α → τ → R (Fl α α × τ)} {k : α → τ → R (Fl γ β × τ)} {P : R (Fl γ β × τ) → Prop} {enc : α' → D} (Inv : List α' → α → τ → Prop) {xs : List α'} {a : α} {s : τ} (i0 : Inv [] a s)
    (h : ∀ pre x post a s, xs = pre ++ x :: post → Inv pre a s → ∃ a' s', f (enc x) a s = .ok (.nx a', s') ∧ Inv (pre ++ [x]) a' s') (hk : ∀ a s, Inv xs a s → P (k a s)) : P (flb (forL f (xs.map enc) a s) k) := by
  have key : ∀ (post pre : List α') (a : α) (s : τ), xs = pre ++ post → Inv pre a s → ∃ a' s', forL (γ := β) f (post.map enc) a s = .ok (.nx a', s') ∧ Inv xs a' s' := by
    intro post
    induction post with
    | nil => intro pre a s e i; exact ⟨a, s, rfl, by rw [e, List.append_nil]; exact i⟩
    | cons x post ih =>
      intro pre a s e i
      obtain ⟨a1, s1, e1, i1⟩ := h pre x post a s e i
      obtain ⟨a2, s2, e2, i2⟩ := ih (pre ++ [x]) a1 s1 (by rw [e]; simp) i1
      refine ⟨a2, s2, ?_, i2⟩
      rw [List.map_cons, forL_cons, e1]
      exact e2
  obtain ⟨a', s', e, i⟩ := key xs [] a s rfl i0
  rw [e]
  exact hk a' s' i
theorem enF_run {α α' β γ τ : Type} {f : D → α → τ → R (Fl α α × τ)} {k : α → τ → R (Fl γ β × τ)} {P : R (Fl γ β × τ) → Prop} {enc : α' → D} (Inv : List α' → α → τ → Prop) {xs : List α'} {a : α} {s : τ} (i0 : Inv [] a s)
    (h : ∀ pre x post a s, xs = pre ++ x :: post → Inv pre a s → ∃ a' s', f (.tup [.int (pre.length : Nat), enc x]) a s = .ok (.nx a', s') ∧ Inv (pre ++ [x]) a' s') (hk : ∀ a s, Inv xs a s → P (k a s)) : P (flb (forL f (enF enc 0 xs) a s) k) := by
  have key : ∀ (post pre : List α') (a : α) (s : τ), xs = pre ++ post → Inv pre a s → ∃ a' s', forL (γ := β) f (enF enc pre.length post) a s = .ok (.nx a', s') ∧ Inv xs a' s' := by
    intro post
    induction post with
    | nil => intro pre a s e i; exact ⟨a, s, rfl, by rw [e, List.append_nil]; exact i⟩
    | cons x post ih =>
      intro pre a s e i
      obtain ⟨a1, s1, e1, i1⟩ := h pre x post a s e i
      obtain ⟨a2, s2, e2, i2⟩ := ih (pre ++ [x]) a1 s1 (by rw [e]; simp) i1
      refine ⟨a2, s2, ?_, i2⟩
      rw [enF_cons, forL_cons, e1]
      rw [List.length_append] at e2
      exact e2
  obtain ⟨a', s', e, i⟩ := key xs [] a s rfl i0
  rw [show (0 : Nat) = ([] : List α').length from rfl, e]
  exact hk a' s' i
theorem asPairs_map : ∀ ps : List (Int × Int), asPairs (ps.map pairD) = some ps
  | [] => rfl
  | p :: ps => by simp [asPairs, pairD, asPairs_map ps]
theorem sort_asc {ps hs : List (Int × Int)} (h : hs.Pairwise fun p q => p.1 < q.1) (hp : ps.Perm hs) : ps.mergeSort leP = hs := by
  have tr : ∀ a b c : Int × Int, leP a b = true → leP b c = true → leP a c = true := fun a b c x y => by
    unfold leP at x y ⊢
    simp only [Bool.not_eq_true'] at x y ⊢
    have x' := lexB_no.mp x
    have y' := lexB_no.mp y
    refine lexB_no.mpr ?_
    omega
  have tt : ∀ a b : Int × Int, (leP a b || leP b a) = true := fun a b => by
    unfold leP
    rw [Bool.or_eq_true]
    cases q1 : lexB b a with
    | false => exact .inl rfl
    | true =>
      right
      have x' := lexB_iff.mp q1
      have : lexB a b = false := lexB_no.mpr (by omega)
      rw [this]; rfl
  refine List.Perm.eq_of_pairwise (le := fun p q => leP p q = true) (fun p q _ _ x y => ?_) (List.pairwise_mergeSort tr tt ps) (h.imp fun {a b} x => ?_) ((List.mergeSort_perm _ _).trans hp)
  · unfold leP at x y
    simp only [Bool.not_eq_true'] at x y
    exact lexB_anti x y
  · unfold leP
    have : lexB b a = false := lexB_no.mpr (by omega)
    rw [this]; rfl
theorem sorted_lst {ps hs : List (Int × Int)} (h : hs.Pairwise fun p q => p.1 < q.1) (hp : ps.Perm hs) : bSorted (.lst (ps.map pairD)) = .ok (.lst (hs.map pairD)) := by
  simp only [bSorted, asItems_lst, R.bind_ok, asPairs_map, opt_some, sort_asc h hp]
theorem sorted_tup {ps hs : List (Int × Int)} (h : hs.Pairwise fun p q => p.1 < q.1) (hp : ps.Perm hs) : bSorted (.tup (ps.map pairD)) = .ok (.lst (hs.map pairD)) := by
  simp only [bSorted, asItems_tup, R.bind_ok, asPairs_map, opt_some, sort_asc h hp]
/-- a list or a tuple of things -/
def sqD (b : Bool) (xs : List D) : D := if b = true then .lst xs else .tup xs
@[simp] theorem asItems_sq (b : Bool) (xs : List D) : asItems (sqD b xs) = .ok xs := by cases b <;> rfl
theorem bTuple_sq (b : Bool) (xs : List D) : bTuple (sqD b xs) = .ok (.tup xs) := by cases b <;> rfl
theorem sorted_sq (b : Bool) {ps hs : List (Int × Int)} (h : hs.Pairwise fun p q => p.1 < q.1) (hp : ps.Perm hs) : bSorted (sqD b (ps.map pairD)) = .ok (.lst (hs.map pairD)) := by
  cases b
  · exact sorted_tup h hp
  · exact sorted_lst h hp
theorem forL_find {α β γ τ : Type} {f : D → γ → τ → R (Fl γ γ × τ)} {enc : α → D} (q : α → Bool) (g : α → D) {a : γ} {s : τ} : ∀ (xs : List α),
    (∀ x ∈ xs, f (enc x) a s = if q x = true then .ok (.rt (g x), s) else .ok (.nx a, s)) →
    forL (γ := β) f (xs.map enc) a s = match xs.find? q with | some x => .ok (.rt (g x), s) | none => .ok (.nx a, s)
  | [], _ => rfl
  | x :: xs, h => by
    rw [List.map_cons, forL_cons, h x (List.mem_cons_self ..)]
    by_cases c : q x = true
    · simp [c]
    · rw [if_neg c, List.find?_cons_of_neg c]
      exact forL_find q g xs fun y hy => h y (List.mem_cons_of_mem _ hy)
theorem part2 (a b : D) : partTup 2 (.tup [a, b]) = some [a, b] := rfl
theorem part3 (a b c : D) : partTup 3 (.tup [a, b, c]) = some [a, b, c] := rfl
theorem asFre_fre (xs : List D) : asFre (.fre xs) = .ok xs := rfl
theorem dealOf_ok (dl : Deal) : dealOf (.lst [.lst (dl.1.map .int), .int dl.2]) = .ok dl := by simp [dealOf, asLst, two, asInts_map]
theorem callL_id {α : Type} (n : Nat) (f : List D → Deal → R (α × Deal)) (ds : List D) (dl : Deal) (h : ds.length = n) : callL n 0 [] f ds [] dl = f ds dl := by
  unfold callL argsM
  simp [h]
theorem callM_id {α : Type} (n : Nat) (f : List D → R α) (ds : List D) (h : ds.length = n) : callM n 0 [] f ds [] = f ds := by
  unfold callM argsM
  simp [h]
theorem len_le {α : Type} {xs : List α} {n : Nat} (h : xs.length ≤ n) : (xs.length ≤ n) = True := eq_true h
theorem ne_nilCT {xs : List D} (h : ∀ d ∈ xs, Cmp d) : opNe (.tup xs) (.tup []) = .ok (.bl (decide (xs ≠ []))) := by
  obtain ⟨ps, e, c, d, l⟩ := toPs_cmp h
  have h1 : SeqAt.shaped (.tuple ps) = true := by
    unfold SeqAt.shaped
    simp [PyData.canLay0, c, PyData.depth]
    omega
  have h2 : SeqAt.shaped (.tuple []) = true := by decide
  simp only [opNe, toP, e, toPs, Option.map_some, h1, h2, Bool.and_self, chk, if_true]
  cases xs with
  | nil => cases ps with
    | nil => simp [PyData.eqv, PyData.eqvAll]
    | cons p ps => simp at l
  | cons x xs => cases ps with
    | nil => simp at l
    | cons p ps => simp [PyData.eqv, PyData.eqvAll]
theorem eq_nilCT {xs : List D} (h : ∀ d ∈ xs, Cmp d) : opEq (.tup xs) (.tup []) = .ok (.bl (decide (xs = []))) := by
  obtain ⟨ps, e, c, d, l⟩ := toPs_cmp h
  have h1 : SeqAt.shaped (.tuple ps) = true := by
    unfold SeqAt.shaped
    simp [PyData.canLay0, c, PyData.depth]
    omega
  have h2 : SeqAt.shaped (.tuple []) = true := by decide
  simp only [opEq, toP, e, toPs, Option.map_some, h1, h2, Bool.and_self, chk, if_true]
  cases xs with
  | nil => cases ps with
    | nil => simp [PyData.eqv, PyData.eqvAll]
    | cons p ps => simp at l
  | cons x xs => cases ps with
    | nil => simp at l
    | cons p ps => simp [PyData.eqv, PyData.eqvAll]
theorem Cmp.tup {xs : List D} (h : ∀ d ∈ xs, ∃ p, toP d = some p ∧ p.canLay0 = true ∧ p.depth ≤ 50) : Cmp (.tup xs) := by
  have : ∃ ps, toPs xs = some ps ∧ PyData.canLayAll0 ps = true ∧ PyData.depthAll ps ≤ 50 := by
    induction xs with
    | nil => exact ⟨[], rfl, by simp [PyData.canLayAll0], by simp [PyData.depthAll]⟩
    | cons x xs ih =>
      obtain ⟨p, e1, c1, d1⟩ := h x (List.mem_cons_self ..)
      obtain ⟨ps, e2, c2, d2⟩ := ih fun d hd => h d (List.mem_cons_of_mem _ hd)
      exact ⟨p :: ps, by simp [toPs, e1, e2], by simp [PyData.canLayAll0, c1, c2], by simp [PyData.depthAll]; omega⟩
  obtain ⟨ps, e, c, d⟩ := this
  exact ⟨.tuple ps, by simp [toP, e], by simpa [PyData.canLay0] using c, by simp [PyData.depth]; omega⟩
theorem callM0 {α : Type} (f : List D → R α) : callM 0 0 [] f [] [] = f [] := rfl
theorem callL0 {α : Type} (f : List D → Deal → R (α × Deal)) (dl : Deal) : callL 0 0 [] f [] [] dl = f [] dl := rfl
theorem callM1 {α : Type} (f : List D → R α) (a0 : D) : callM 1 0 [] f [a0] [] = f [a0] := rfl
theorem callL1 {α : Type} (f : List D → Deal → R (α × Deal)) (a0 : D) (dl : Deal) : callL 1 0 [] f [a0] [] dl = f [a0] dl := rfl
theorem callM2 {α : Type} (f : List D → R α) (a0 a1 : D) : callM 2 0 [] f [a0, a1] [] = f [a0, a1] := rfl
theorem callL2 {α : Type} (f : List D → Deal → R (α × Deal)) (a0 a1 : D) (dl : Deal) : callL 2 0 [] f [a0, a1] [] dl = f [a0, a1] dl := rfl
theorem callM3 {α : Type} (f : List D → R α) (a0 a1 a2 : D) : callM 3 0 [] f [a0, a1, a2] [] = f [a0, a1, a2] := rfl
theorem callL3 {α : Type} (f : List D → Deal → R (α × Deal)) (a0 a1 a2 : D) (dl : Deal) : callL 3 0 [] f [a0, a1, a2] [] dl = f [a0, a1, a2] dl := rfl
theorem callM4 {α : Type} (f : List D → R α) (a0 a1 a2 a3 : D) : callM 4 0 [] f [a0, a1, a2, a3] [] = f [a0, a1, a2, a3] := rfl
theorem callL4 {α : Type} (f : List D → Deal → R (α × Deal)) (a0 a1 a2 a3 : D) (dl : Deal) : callL 4 0 [] f [a0, a1, a2, a3] [] dl = f [a0, a1, a2, a3] dl := rfl
theorem callM5 {α : Type} (f : List D → R α) (a0 a1 a2 a3 a4 : D) : callM 5 0 [] f [a0, a1, a2, a3, a4] [] = f [a0, a1, a2, a3, a4] := rfl
theorem callL5 {α : Type} (f : List D → Deal → R (α × Deal)) (a0 a1 a2 a3 a4 : D) (dl : Deal) : callL 5 0 [] f [a0, a1, a2, a3, a4] [] dl = f [a0, a1, a2, a3, a4] dl := rfl
theorem callM6 {α : Type} (f : List D → R α) (a0 a1 a2 a3 a4 a5 : D) : callM 6 0 [] f [a0, a1, a2, a3, a4, a5] [] = f [a0, a1, a2, a3, a4, a5] := rfl
theorem callL6 {α : Type} (f : List D → Deal → R (α × Deal)) (a0 a1 a2 a3 a4 a5 : D) (dl : Deal) : callL 6 0 [] f [a0, a1, a2, a3, a4, a5] [] dl = f [a0, a1, a2, a3, a4, a5] dl := rfl
theorem perm_map {α : Type} {enc : α → D} {l1 l2 : List D} (h : l1.Perm l2) : ∀ {xs : List α}, l2 = xs.map enc → ∃ ps : List α, l1 = ps.map enc ∧ ps.Perm xs := by
  induction h with
  | nil =>
    intro xs e
    exact ⟨[], rfl, by cases xs with | nil => exact .nil | cons x xs => simp at e⟩
  | cons x _ ih =>
    intro xs e
    cases xs with
    | nil => simp at e
    | cons a xs =>
      simp only [List.map_cons, List.cons.injEq] at e
      obtain ⟨ps, e1, e2⟩ := ih e.2
      exact ⟨a :: ps, by simp [e.1, e1], e2.cons a⟩
  | swap x y l =>
    intro xs e
    match xs, e with
    | a :: b :: xs, e =>
      simp only [List.map_cons, List.cons.injEq] at e
      exact ⟨b :: a :: xs, by simp [e.1, e.2.1, e.2.2], .swap ..⟩
  | trans _ _ ih1 ih2 =>
    intro xs e
    obtain ⟨ps, e1, e2⟩ := ih2 e
    obtain ⟨qs, e3, e4⟩ := ih1 e1
    exact ⟨qs, e3, e4.trans e2⟩
theorem ix_lastT (xs : List D) (x : D) : opIx (.tup (xs ++ [x])) (.int (-1)) = .ok x := by
  show opt (atI (xs ++ [x]) (-1)) = _
  have : ixN (xs ++ [x]).length (-1) = some xs.length := by
    unfold ixN
    rw [if_neg (by decide), if_pos (by simp; omega)]
    congr 1
    simp only [List.length_append, List.length_cons, List.length_nil]
    omega
  unfold atI
  rw [this]
  simp
theorem cut_allR (xs : List D) : opCut (.tup xs) (some 1) none = .ok (.tup xs.tail) := by
  have := cut_dR xs 1
  rw [show ((1 : Nat) : Int) = 1 from rfl] at this
  rw [this, List.drop_one]
theorem add_lst (xs ys : List D) (h : xs.length + ys.length ≤ 1000000) : opAdd (.lst xs) (.lst ys) = .ok (.lst (xs ++ ys)) := by simp [opAdd, chk, h]
theorem add_tup (xs ys : List D) (h : xs.length + ys.length ≤ 1000000) : opAdd (.tup xs) (.tup ys) = .ok (.tup (xs ++ ys)) := by simp [opAdd, chk, h]
theorem tl7 (a b c d e f g : D) : ([a, b, c, d, e, f, g].length ≤ 1000000) = True := eq_true (by simp)
end Pv
set_option linter.all false
namespace PySem
namespace SupX
open PySem.W PySem.Calls PyProof.Rows PySem.HandSPX
theorem sup_mk {P : Program} {K : Frag} {mg : Str → Option Value} {x qual : Str} {C fI : Addr} {nm q N bs bm sn sub ab col dd k0 k1 k2 k3 k5}
 {oc : Value} {od : Option Addr} {doc pm : Value} {an : Option Addr} {cda cc : Addr} {ct : Value} {osl : Array (Option Value)} {z : Str} {jj : Nat} {p1 p2 r1 r2 r3 r4 r5 r6 q1 q2 q3 q4 : Pos}
 {ccl cl : Value} {cdd cld : Option Addr} {ccs csl : Array (Option Value)} {vs : Array Value} {file : Str} {tf : Tok}
 (gC : mg x = some (.ref C))
 (cls : K.lookup C = some (excClassObj nm q C N bs bm true sn sub ab col dd k0 k1 k2 k3 k5 "ValueError.__new__")) (cls2 : refsVE bm = true)
 (sa : findIn K (.ref C) "__setattr__" = some (some (.builtin "object.__setattr__")))
 (ga : findIn K (.ref C) "__getattribute__" = some (some (.builtin "BaseException.__getattribute__")))
 (gg : findIn K (.ref C) "__getattr__" = some none)
 (noN : findIn K (.ref C) "at" = some none)
 (iC : findIn K (.ref C) "__init__" = some (some (.ref fI)))
 (tC : typeIn K (.ref fI) = some (.type "function"))
 (kC : keepIn K (.ref C) = true)
 (exC : subIn K (.ref C) (.type "BaseException") = some true)
 (tyC : typeIn K (.ref C) = some (.type "type"))
 (hdC : hasDictIn K C = true)
 (supm : ks_superIn K C C "__init__" = some (some (.builtin "ValueError.__init__")))
 (subS : mroIn K C (.ref C) = some true)
 (subV : subIn K (.ref C) (.type "ValueError") = some true)
 (opq : nsIn K cStatics "thirdparty.any" = some none)
 (noS : mg "super" = none)
 (top : (P.main.scope.names.lookup ("super" : Str)).isSome = false)
 (f1 : K.lookup fI = some ⟨oc, od, .func (ksFn "__init__" qual (iA p1 p2) (iB z jj r1 r2 r3 r4 r5 r6 q1 q2 q3 q4) iS .none .none doc pm an (.ref cda) ct cc), osl⟩) (f2 : codeIn K (.ref cda) qual = true)
 (f3 : K.lookup cda = some ⟨ccl, cdd, .fields vs, ccs⟩) (f4 : vs[2]? = some (.str file tf)) (f5 : ((P.main.file : Str) == file) = true) (f6 : K.lookup cc = some ⟨cl, cld, .cell (some (.ref C)), csl⟩)
 (f7 : ∀ env : Env, ∃ pl : Sem Bool, eval (.Call (.Attribute (.Call (.Name "super" r1) [] [] r2) "__init__" r3) [.Constant (.str z) jj r4] [] r5) env = (do
      let ov ← attributeBase (.Call (.Name "super" r1) [] [] r2) "__init__" env (eval (.Call (.Name "super" r1) [] [] r2) env)
      standAt r3.atName
      let (f, first) ← holding [ov] (getMethod ov "__init__" pl)
      callWith r5 f first (backTo r5 (starEach [.Constant (.str z) jj r4] env)) []))
 : SupTxt P K mg x qual C fI :=
  ⟨gC, ⟨_, _, _, _, _, _, _, _, _, _, _, _, _, _, _, cls, cls2⟩, sa, ga, gg, noN, iC, tC, kC, exC, tyC, hdC, supm, subS, subV, opq, noS, top, ⟨_, _, _, _, _, _, _, _, _, _, _, _, _, _, _, _, _, _, _, _, _, _, _, _, _, _, _, _, _, _, _, _, f1, f2, f3, f4, f5, f6, f7⟩⟩
end SupX
end PySem
set_option Elab.async false
set_option linter.all false
set_option maxRecDepth 100000
set_option maxHeartbeats 2000000
/-! PvF: sorted({e for x in xs}), e a whole number. -/
namespace Pv
open PySem PySem.Spec PyProof.Rows L2 PpSet
section
variable {X : Cx}
theorem addI_ok {pins : List (Addr × Obj)} {σ : L2.St} {H : Hp} {s : Shared} {E : Value → Shared → Prop} {D : Addr} {S : Int → Bool} {n : Nat} {y : Int} {u : Value} {Q : Value → Shared → Prop} (I : Inv X pins σ H s) (hD : H D = some (SetO X.w D S n)) (room : n + 1 < scanBound) (ru : L2.RelV (.int y) u)
    (h : ∀ s', Inv X pins σ (upd H D (SetO X.w D (fun j => S j || decide (j = y)) (if S y = true then n else n + 1))) s' → Q .none s') : wpAny (model X.prog X.w) X.A (call (.builtin "set.add") [.ref D, u]) Q E s := by
  obtain ⟨tk, rfl⟩ := ru
  refine setR_add (setO_get I hD) room fun h2 sb new => h _ (I.write (e := D) (t' := s.toks + 1) (by rw [hD]; trivial) (.inl rfl) (fun b u hb hu => (sb.2 b hb).trans hu) ?_ (setO_new new))
  have ⟨o, _, _, _, ho, _⟩ := new
  exact ⟨o, ho⟩
/-- what is left to be shown of {elt for target in iter if ..} -/
def tScI (w : World) (wi : TI) (g : TG) (tt : TT) (te : TE) (vs : List Nat) : TE := fun σ H Q => wi σ H fun J H1 => ∀ D, H1 D = none → ∃ W : Nat → Nat → Hp → Prop, (∃ m, W 0 m (upd H1 D (SetO w D (fun _ => false) 0))) ∧ ∀ i m H, W i m H → (J.stop i H ∧ Q (.ref D) H) ∨
  (J.go i H ∧ ∃ Nx : Hp → Prop, (∀ H', Nx H' → ∃ m', m' < m ∧ W (i + 1) m' H') ∧ ∀ x H', J.yld i H x H' → g x (L2.wipe σ vs) H' fun σ2 H2 => L2.wipe σ2 vs = L2.wipe σ vs ∧ tt σ2 H2 fun b H3 => if b = true then te σ2 H3 fun y H4 => ∃ (c : Int) (S : Int → Bool) (n : Nat), y = .int c ∧
    H4 D = some (SetO w D S n) ∧ n + 1 < scanBound ∧ Nx (upd H4 D (SetO w D (fun j => S j || decide (j = c)) (if S c = true then n else n + 1))) else Nx H3)
theorem sc_coreI {pins : List (Addr × Obj)} {s : Shared} {σ : L2.St} {H : Hp} {Q : VK} {elt tg iter : Expr} {ifs : List Expr} {scope : Scope} {own : List (PySem.Str × Nat)} {pos pos' : Pos} {wi : TI} {g : TG} {tt : TT} {te : TE} {use : Option (Value → Sem Unit)} {Qf : Value → Shared → Prop}
    (hc : X.calm = true) (hN : X.N.Nodup) (I : Inv X pins σ H s) (hi : PI X tg iter wi) (ok : BlkOk X.N X.env.scope scope own)
    (hg : ∀ (s : Shared) (H : Hp) (C : Addr) (cl : List (PySem.Str × Addr)) (fp : List Addr), PG (X.blk s H scope (compEnvC scope cl C X.env) fp) tg g) (ht : ∀ (s : Shared) (H : Hp) (C : Addr) (cl : List (PySem.Str × Addr)) (fp : List Addr), PTs (X.blk s H scope (compEnvC scope cl C X.env) fp) ifs tt)
    (he : ∀ (s : Shared) (H : Hp) (C : Addr) (cl : List (PySem.Str × Addr)) (fp : List Addr), PE (X.blk s H scope (compEnvC scope cl C X.env) fp) elt te) (hs : ∀ x, foldedSetIterable iter X.env x = pure x)
    (h : tScI X.w wi g tt te (own.map (·.2)) σ H Q)
    (hRR : ∀ D C s' m H', Inv X pins σ H' s' → Q (.ref D) H' → s'.heap.Ns C m → FpOk X pins H' C → compPost (model X.prog X.w) X.A X.xe use Qf (.ref D) C (.ok .next) s') :
    wpAny (model X.prog X.w) X.A (comprehension (.SetComp elt [⟨tg, iter, ifs, 0⟩] scope pos) scope X.env pos' (newSet (.type "set")) false (eval iter X.env) use) Qf X.xe s := by
  have hfree : ∀ y ∈ scope.names, y.2 = .free → ∃ c, X.env.cells.lookup y.1 = some c := fun y hy e => by
    rcases ok.free y hy e with k | k
    · exact I.ok.has _ (.inl k)
    · exact I.ok.has _ (.inr k)
  refine wpAny_comprehension_free (use := use) rfl hs (closure_ok hfree) ok.kind (fun y hy e => by rw [ok.uniq y hy, e])
    (thn (hi.run pins s σ H _ I h) fun xv q1s hx => thn hx fun itv q2s h2 => ?_)
  obtain ⟨it, fp, tn, J, G2, e, J2, T, w2, f2, q⟩ := h2
  subst e
  refine newSet_ok (newEnv_comp ?_)
  generalize hD : q2s.heap.objs.size = D
  have hDn : G2 D = none := J2.hok.fresh (Nat.le_of_eq hD)
  obtain ⟨W, ⟨m0, w0⟩, turn⟩ := q D hDn
  -- the new list
  generalize e3s : ({ q2s with heap := q2s.heap.push { cls := .type "set", dict := none, data := .set #[] 0 (.fresh 0 0 (!X.w.params.followText "set-order")) } } : Shared) = q3s
  have J3 : Inv X pins σ (upd G2 D (SetO X.w D (fun _ : Int => false) 0)) q3s := by
    rw [← e3s]
    refine J2.laid (t' := q2s.toks) (fun b o e => Heap.get?_push_of_some _ e) (Nat.le_of_eq hD) ?_
    rw [← hD]
    exact setO_new (setR_fresh X.w)
  have e3h : q3s.heap = q2s.heap.push { cls := .type "set", dict := none, data := .set #[] 0 (.fresh 0 0 (!X.w.params.followText "set-order")) } := by rw [← e3s]
  have sz : ∀ b ∈ fp, b < q2s.heap.objs.size := fun b hb => by
    obtain ⟨o, e, _⟩ := T.obj _ _ w2 b hb
    exact Heap.lt_size e
  have f3 : ∀ b ∈ fp, FpOk X pins (upd G2 D (SetO X.w D (fun _ : Int => false) 0)) b ∧ b < q3s.heap.objs.size := fun b hb => by
    have hlt := sz b hb
    refine ⟨⟨?_, (f2 b hb).2⟩, by rw [e3h, Heap.size_push]; exact Nat.lt_succ_of_lt hlt⟩
    rw [upd_ne (by rw [← hD]; exact Nat.ne_of_lt hlt)]
    exact (f2 b hb).1
  have w3 : tn 0 q3s.heap := T.keep _ _ _ w2 fun b _ o e => by rw [e3h]; exact Heap.get?_push_of_some _ e
  have J4 := block_start J3 ok hN f3
  have pg := hg q3s (upd G2 D (SetO X.w D (fun _ : Int => false) 0)) q3s.heap.objs.size (cellsFrom (q3s.heap.objs.size + 1) scope.names (cloFrom X.env.cells scope.names [])) fp
  have pt := ht q3s (upd G2 D (SetO X.w D (fun _ : Int => false) 0)) q3s.heap.objs.size (cellsFrom (q3s.heap.objs.size + 1) scope.names (cloFrom X.env.cells scope.names [])) fp
  have pe := he q3s (upd G2 D (SetO X.w D (fun _ : Int => false) 0)) q3s.heap.objs.size (cellsFrom (q3s.heap.objs.size + 1) scope.names (cloFrom X.env.cells scope.names [])) fp
  show codeAny _ _ (.compStart (.SetComp elt [⟨tg, iter, ifs, 0⟩] scope pos) 0 (.ref it) (.ref D) (compEnvC scope (cellsFrom (q3s.heap.objs.size + 1) scope.names (cloFrom X.env.cells scope.names [])) q3s.heap.objs.size X.env)) (compPost (model X.prog X.w) X.A X.xe use Qf (.ref D) q3s.heap.objs.size) { q3s with heap := pushCells (q3s.heap.push { cls := .type "dict", data := .dict #[] }) scope.names }
  have nfp : ∀ b ∈ fp, (upd G2 D (SetO X.w D (fun _ : Int => false) 0)) b = none := fun b hb => (f3 b hb).1.1
  generalize hce : compEnvC scope (cellsFrom (q3s.heap.objs.size + 1) scope.names (cloFrom X.env.cells scope.names [])) q3s.heap.objs.size X.env = ce at J4 pg pt pe ⊢
  have cL : ce.locals = q3s.heap.objs.size := by subst hce; rfl
  generalize hH3 : upd G2 D (SetO X.w D (fun _ : Int => false) 0) = G3 at J3 J4 pg pt pe w0 nfp f3
  generalize e4s : ({ q3s with heap := pushCells (q3s.heap.push { cls := .type "dict", data := .dict #[] }) scope.names } : Shared) = q4s at J4 ⊢
  have w4 : tn 0 q4s.heap := T.keep _ _ _ w3 fun b _ o e => by rw [← e4s]; exact pushCells_keeps _ _ _ _ (Heap.get?_push_of_some _ e)
  have stat : ∀ {σ' : L2.St} {H' : Hp} {s' : Shared}, Inv (X.blk q3s G3 scope ce fp) [] σ' H' s' → (∀ b ∈ fp, H' b = none) → ∀ b ∈ fp, FpOk (X.blk q3s G3 scope ce fp) [] H' b := fun {σ' H' s'} I' hn b hb =>
    ⟨hn b hb, (I'.ok.exf b hb).1, I'.ok.exfs b hb, .inl hb, fun x c e => (I'.ok.exf b hb).2 x c e, fun p hp => absurd (show p ∈ ([] : List (Addr × Obj)) ++ [] from hp) (by simp)⟩
  have loop : codeAny (model X.prog X.w) X.A (.compLoop (.SetComp elt [⟨tg, iter, ifs, 0⟩] scope pos) 0 (.ref it) (.ref D) ce) (compPost (model X.prog X.w) X.A X.xe use Qf (.ref D) q3s.heap.objs.size) q4s := by
    refine compLoopS_any (fun n s' => ∃ i H', Inv (X.blk q3s G3 scope ce fp) [] (wipe σ (own.map (·.2))) H' s' ∧ tn i s'.heap ∧ (∀ b ∈ fp, H' b = none) ∧ W i n H') ?_ m0 ⟨0, G3, J4, w4, nfp, w0⟩
    rintro n q5s ⟨i, G5, J5, w5x, n5, w5⟩
    rcases turn i n G5 w5 with ⟨stop, qq⟩ | ⟨go, Nx, hNx, step⟩
    · have td := T.done (X.blk q3s G3 scope ce fp) rfl rfl rfl hc i [] q5s _ G5 (fun _ _ => False) J5 (stat J5 n5) w5x stop
      refine thnF td fun r q6s ⟨hr, J6⟩ => ?_
      subst hr
      -- back in the def's context
      have J7 : Inv X pins σ G5 q6s := J3.call' (ch := fp) J6.os J6.base J6.hok J6.bare fun b hb => ⟨(f3 b hb).1.2.2.2.1, (f3 b hb).1.2.1, (f3 b hb).1.2.2.2.2.1, (f3 b hb).1.2.2.2.2.2⟩
      have nC : G5 q3s.heap.objs.size = none := by
        have z : G5 ce.locals = none := J6.free
        rw [cL] at z
        exact z
      obtain ⟨m, hn, _⟩ := J6.loc
      have hn : q6s.heap.Ns ce.locals m := hn
      rw [cL] at hn
      exact hRR D q3s.heap.objs.size q6s m G5 J7 qq hn (J3.fpOk (Nat.le_refl _) nC)
    · have ti := T.item (X.blk q3s G3 scope ce fp) rfl rfl rfl hc i [] q5s _ G5 (fun _ _ => False) J5 (stat J5 n5) w5x go
      refine thnF ti fun r q6s ⟨u, hr, h6⟩ => ?_
      subst hr
      refine thnF h6 fun _ q7s ⟨x, G7, J7, r7, y7, w7, n7⟩ => ?_
      have J7x := J7.pinned (stat J7 n7) (T.obj _ _ w7)
      refine thnF (pg.run _ q7s _ G7 x u _ J7x r7 (step x G7 y7)) fun _ q8s ⟨σ8, G8, J8, hw8, q8⟩ => ?_
      refine thnF (pt.run _ q8s σ8 G8 _ J8 q8) fun b q9s ⟨G9, J9, q9⟩ => ?_
      -- the turn's end
      have fin : ∀ {s' : Shared} {H' : Hp}, Inv (X.blk q3s G3 scope ce fp) ([] ++ pinsAt fp q7s.heap) σ8 H' s' → Nx H' → ∃ m, m < n ∧ ∃ i H', Inv (X.blk q3s G3 scope ce fp) [] (wipe σ (own.map (·.2))) H' s' ∧ tn i s'.heap ∧ (∀ b ∈ fp, H' b = none) ∧ W i m H' := fun {s' H'} I' nx => by
        obtain ⟨m', hm, w'⟩ := hNx H' nx
        have pin' : ∀ b ∈ fp, ∀ o, q7s.heap.get? b = some o → s'.heap.get? b = some o ∧ H' b = none := fun b hb o e =>
          let z := I'.pin (b, o) (List.mem_append_right _ (List.mem_append_right _ (mem_pinsAt hb e)))
          ⟨z.1, z.2.1⟩
        have hl : (wipe σ (own.map (·.2))).length = σ8.length := by rw [← hw8, wipe_length]
        refine ⟨m', hm, i + 1, H', (I'.unpinned (pins := [])).weak hl (fun j v e => ?_), T.keep _ _ _ w7 fun b hb o e => (pin' b hb o e).1, fun b hb => ?_, w'⟩
        · rw [← hw8] at e
          exact (wipe_some e).1
        · obtain ⟨o, e, _⟩ := T.obj _ _ w7 b hb
          exact (pin' b hb o e).2
      cases b with
      | false =>
        simp only [Bool.false_eq_true, if_false] at q9 ⊢
        exact fin J9 q9
      | true =>
        simp only [if_true] at q9 ⊢
        refine thnF (pe.run _ q9s σ8 G9 _ J9 q9) fun z q10s ⟨yv, G10, J10, r10, cb, S0, n0, ey, hD10, hz10, nx⟩ => ?_
        subst ey
        exact addI_ok (X := X.blk q3s G3 scope ce fp) J10 hD10 hz10 r10 fun q11s J11 => fin J11 nx
  exact codeAny_compStart_set loop (T.self X.A 0 _ _ _ w4 loop)

theorem pe_scI {elt tg iter : Expr} {ifs : List Expr} {scope : Scope} {own : List (Str × Nat)} {pos : Pos} {wi : TI} {g : TG} {tt : TT} {te : TE} (hc : X.calm = true) (hN : X.N.Nodup) (hi : PI X tg iter wi) (ok : BlkOk X.N X.env.scope scope own)
    (hg : ∀ (s : Shared) (H : Hp) (Cc : Addr) (cl : List (Str × Addr)) (fp : List Addr), PG (X.blk s H scope (compEnvC scope cl Cc X.env) fp) tg g) (ht : ∀ (s : Shared) (H : Hp) (Cc : Addr) (cl : List (Str × Addr)) (fp : List Addr), PTs (X.blk s H scope (compEnvC scope cl Cc X.env) fp) ifs tt)
    (he : ∀ (s : Shared) (H : Hp) (Cc : Addr) (cl : List (Str × Addr)) (fp : List Addr), PE (X.blk s H scope (compEnvC scope cl Cc X.env) fp) elt te) (hs : ∀ x, foldedSetIterable iter X.env x = pure x) :
    PE X (.SetComp elt [⟨tg, iter, ifs, 0⟩] scope pos) (tScI X.w wi g tt te (own.map (·.2))) := by
  refine ⟨fun pins s σ H Q I h => ?_⟩
  rw [eval_SetComp]
  refine sc_coreI hc hN I hi ok hg ht he hs h fun D Cc s' m H' J q hn f => ⟨m, hn, fun h2 sb => ?_⟩
  obtain ⟨f0, f1, f2, f3, f4, f5⟩ := f
  exact ⟨.ref D, H', J.turned (t' := s'.toks) (fun b o hb e => (sb.2 b hb).trans e) f0 f1 f3 f4 f5, rfl, q⟩
end
section
variable {C : Ctx} {τ α β : Type} {φ : τ → Slots}
/-- whole numbers, each once, rising -/
def insU (x : Int) : List Int → List Int
  | [] => [x]
  | y :: l => if x < y then x :: y :: l else if x = y then y :: l else y :: insU x l
def sortU (ns : List Int) : List Int := ns.foldr insU []
theorem mem_insU (x k : Int) : ∀ l : List Int, k ∈ insU x l ↔ k = x ∨ k ∈ l
  | [] => by simp [insU]
  | y :: l => by
    unfold insU
    split
    · simp
    · split
      · rename_i _ e
        subst e
        simp
      · simp only [List.mem_cons, mem_insU x k l]
        constructor
        · rintro (h | h | h)
          · exact .inr (.inl h)
          · exact .inl h
          · exact .inr (.inr h)
        · rintro (h | h | h)
          · exact .inr (.inl h)
          · exact .inl h
          · exact .inr (.inr h)
theorem insU_asc (x : Int) : ∀ {l : List Int}, l.Pairwise (· < ·) → (insU x l).Pairwise (· < ·)
  | [], _ => List.pairwise_singleton ..
  | y :: l, h => by
    obtain ⟨h1, h2⟩ := List.pairwise_cons.mp h
    unfold insU
    split
    · rename_i c
      refine List.pairwise_cons.mpr ⟨fun z hz => ?_, h⟩
      rcases List.mem_cons.mp hz with rfl | hz
      · exact c
      · have := h1 z hz; omega
    · split
      · exact h
      · refine List.pairwise_cons.mpr ⟨fun z hz => ?_, insU_asc x h2⟩
        rcases (mem_insU x z l).mp hz with rfl | hz
        · omega
        · exact h1 z hz
theorem mem_sortU (k : Int) : ∀ ns : List Int, k ∈ sortU ns ↔ k ∈ ns
  | [] => by simp [sortU]
  | n :: ns => by
    show k ∈ insU n (sortU ns) ↔ _
    rw [mem_insU, mem_sortU k ns, List.mem_cons]
theorem sortU_asc : ∀ ns : List Int, (sortU ns).Pairwise (· < ·)
  | [] => .nil
  | n :: ns => insU_asc n (sortU_asc ns)
theorem asc_same : ∀ {a b : List Int}, a.Pairwise (· < ·) → b.Pairwise (· < ·) → (∀ k, k ∈ a ↔ k ∈ b) → a = b
  | [], [], _, _, _ => rfl
  | [], y :: b, _, _, h => absurd ((h y).mpr (List.mem_cons_self ..)) (by simp)
  | x :: a, [], _, _, h => absurd ((h x).mp (List.mem_cons_self ..)) (by simp)
  | x :: a, y :: b, ha, hb, h => by
    obtain ⟨a1, a2⟩ := List.pairwise_cons.mp ha
    obtain ⟨b1, b2⟩ := List.pairwise_cons.mp hb
    have e : x = y := by
      rcases List.mem_cons.mp ((h x).mp (List.mem_cons_self ..)) with e | e
      · exact e
      · rcases List.mem_cons.mp ((h y).mpr (List.mem_cons_self ..)) with e' | e'
        · exact e'.symm
        · have := a1 y e'
          have := b1 x e
          omega
    subst e
    rw [asc_same a2 b2 fun k => ⟨fun hk => ?_, fun hk => ?_⟩]
    · rcases List.mem_cons.mp ((h k).mp (List.mem_cons_of_mem _ hk)) with e | e
      · have := a1 k hk; omega
      · exact e
    · rcases List.mem_cons.mp ((h k).mpr (List.mem_cons_of_mem _ hk)) with e | e
      · have := b1 k hk; omega
      · exact e
theorem sc_it {J : It} {len : Nat} {G : Hp → Prop} {Y : Nat → Hp → V → Hp → Prop} {w : World} (wk : Walk J len G Y) {g : TG} {tt : TT} {te : TE} {vs : List Nat} {σ : L2.St} {H1 : Hp} {D : Addr} {Qd : Hp → Prop} (Pv : Nat → Hp → Prop) (h0 : Pv 0 (upd H1 D (SetO w D (fun _ => false) 0))) (hG : ∀ i H, i ≤ len → Pv i H → G H)
    (hs : ∀ i x H H', i < len → Pv i H → Y i H x H' → g x (L2.wipe σ vs) H' fun σ2 H2 => L2.wipe σ2 vs = L2.wipe σ vs ∧ tt σ2 H2 fun b H3 =>
      if b = true then te σ2 H3 fun y H4 => ∃ (c : Int) (S : Int → Bool) (n : Nat), y = .int c ∧ H4 D = some (SetO w D S n) ∧ n + 1 < scanBound ∧ Pv (i + 1) (upd H4 D (SetO w D (fun j => S j || decide (j = c)) (if S c = true then n else n + 1))) else Pv (i + 1) H3) (hd : ∀ H, Pv len H → Qd H) :
    ∃ W : Nat → Nat → Hp → Prop, (∃ m, W 0 m (upd H1 D (SetO w D (fun _ => false) 0))) ∧ ∀ i m H, W i m H → (J.stop i H ∧ Qd H) ∨ (J.go i H ∧ ∃ Nx : Hp → Prop, (∀ H', Nx H' → ∃ m', m' < m ∧ W (i + 1) m' H') ∧ ∀ x H', J.yld i H x H' → g x (L2.wipe σ vs) H' fun σ2 H2 => L2.wipe σ2 vs = L2.wipe σ vs ∧ tt σ2 H2 fun b H3 =>
      if b = true then te σ2 H3 fun y H4 => ∃ (c : Int) (S : Int → Bool) (n : Nat), y = .int c ∧ H4 D = some (SetO w D S n) ∧ n + 1 < scanBound ∧ Nx (upd H4 D (SetO w D (fun j => S j || decide (j = c)) (if S c = true then n else n + 1))) else Nx H3) := by
  refine ⟨fun i m H => m = len - i ∧ i ≤ len ∧ Pv i H, ⟨len, by simp, Nat.zero_le _, h0⟩, fun i m H ⟨em, hi, hp⟩ => ?_⟩
  subst em
  have hg := hG i H hi hp
  by_cases lt : i < len
  · exact .inr ⟨wk.goes i H lt hg, Pv (i + 1), fun H' p' => ⟨len - (i + 1), by omega, rfl, lt, p'⟩, fun x H' y => hs i x H H' lt hp (wk.yields i H x H' lt hg y)⟩
  · have e : i = len := by omega
    subst e
    exact .inl ⟨wk.stops H hg, hd H hp⟩
theorem noErr_any {τ' γ ω : Type} {r : R (γ × τ')} {f : γ × τ' → R ω} {K : R ω → Prop} (hb : ¬ K .bad) (h : K ((noErr r).bind f)) : ∃ a s, r = .ok (a, s) ∧ K (f (a, s)) := by
  cases r with
  | ok q => exact ⟨q.1, q.2, rfl, h⟩
  | err c d => exact (hb h).elim
  | bad => exact (hb h).elim
theorem lcL_noErr {parts : D → Option (List D)} {mt : List D → τ → R (Bool × τ)} {me : List D → τ → R (D × τ)} {c : Str} {e : D} : ∀ (ds : List D) (s : τ), lcL (lcT parts mt me) ds s ≠ .err c e
  | [], s, h => nomatch h
  | d :: ds, s, h => by
    have h' : ((lcT parts mt me d s).bind fun q => (lcL (lcT parts mt me) ds q.2).bind fun r => .ok (q.1.toList ++ r.1, r.2)) = .err c e := h
    cases q : lcT parts mt me d s with
    | ok p =>
      rw [q] at h'
      cases q2 : lcL (lcT parts mt me) ds p.2 with
      | ok r => rw [show ((R.ok p).bind fun q => (lcL (lcT parts mt me) ds q.2).bind fun r => R.ok (q.1.toList ++ r.1, r.2)) = (lcL (lcT parts mt me) ds p.2).bind fun r => R.ok (p.1.toList ++ r.1, r.2) from rfl, q2] at h'; cases h'
      | err c2 e2 => exact lcL_noErr ds p.2 q2
      | bad => rw [show ((R.ok p).bind fun q => (lcL (lcT parts mt me) ds q.2).bind fun r => R.ok (q.1.toList ++ r.1, r.2)) = (lcL (lcT parts mt me) ds p.2).bind fun r => R.ok (p.1.toList ++ r.1, r.2) from rfl, q2] at h'; cases h'
    | err c2 e2 =>
      unfold lcT at q
      cases q3 : ((opt (parts d)).bind fun xs => (mt xs s).bind fun b => if b.1 = true then (me xs b.2).bind fun r => .ok (some r.1, r.2) else .ok (none, b.2)) with
      | ok p => rw [q3] at q; cases q
      | err _ _ => rw [q3] at q; cases q
      | bad => rw [q3] at q; cases q
    | bad => rw [q] at h'; cases h'
/-- the end of a comprehension of whole numbers -/
def intsE (r : List D × τ) : R (List Int × τ) := (opt (asInts r.1)).bind fun ns => .ok (ns, r.2)
theorem St8.uner {e : Slots} {σ : L2.St} {F H : Hp} {D : Addr} {o : HO} (st : St8 C e σ F (er D H)) (hD : H D = some o) : St8 C e σ F H := by
  have nF : F D = none := by
    cases q : F D with
    | none => rfl
    | some u =>
      have := st.sub _ _ q
      rw [er_same] at this
      cases this
  refine ⟨⟨st.step.fz, st.step.new, fun a u h m => (er_some (st.step.keep a u h m)).2, fun a h => ?_⟩, fun a u h => (er_some (st.sub a u h)).2, ?_, st.len⟩
  · exact st.step.dom a (er_none h)
  · obtain ⟨A, h1, h2⟩ := id st.env
    refine ⟨A, fun i => (h1 i).conv (Same.refl F) fun a ha => ?_, h2⟩
    obtain ⟨⟨u, e1, nt⟩, e2, _⟩ := (h1 i).own_some a ha
    obtain ⟨n, e3⟩ := er_some e1
    exact ⟨by rw [e3, e1], e2, fun z => z⟩
theorem sc_sem {is : List Nat} {parts : D → Option (List D)} {elt tg iter : Expr} {ifs : List Expr} {scope : Scope} (own : List (Str × Nat)) {mi : τ → R (List D × τ)} {mt : List D → τ → R (Bool × τ)} {me : List D → τ → R (D × τ)} (hi : JI C φ tg iter mi) (hg : ∀ b : Blk, JG (blkCtx C scope b) tg is parts)
    (ht : ∀ (b : Blk) (xs : List D), JTs (blkCtx C scope b) (fun s => setMany (wipeE (φ s) (own.map (·.2))) is xs) ifs (mt xs)) (he : ∀ (b : Blk) (xs : List D), JE (blkCtx C scope b) (fun s => setMany (wipeE (φ s) (own.map (·.2))) is xs) elt (me xs))
    (hn : ∀ s, ((own.map (·.2)).all fun i => ((φ s)[i]?.join).isNone) = true) (hsub : ∀ i ∈ is, i ∈ own.map (·.2)) (hlen : ∀ s s', (φ s).length = (φ s').length) (g : Good C) (s : τ) (σ : L2.St) (F H : Hp) (Q : VK) (st : St8 C (φ s) σ F H)
    (h : Srv C ((mi s).bind fun q => (chk (decide (q.1.length ≤ 60)) q.1).bind fun ds => (lcL (lcT parts mt me) ds q.2).bind intsE) (fun ns s' => ∀ D S n F' H', Same F F' → H' D = some (SetO C.X.w D S n) → n ≤ 60 → (∀ j, S j = decide (j ∈ ns)) → St8 C (φ s') σ F' (er D H') → Q (.ref D) H')) :
    tScI C.X.w (wpI C.X tg iter) (gU C scope tg) (tU C scope ifs) (eU C scope elt) (own.map (·.2)) σ H Q := by
  refine hi g s σ F H _ st (h.bind.mono fun ds s1 h1 J F1 H1 e1 st1 gv => fun D hD => ?_)
  obtain ⟨cl, hK⟩ := h1.bind1.chk
  have cl' : ds.length ≤ 60 := of_decide_eq_true cl
  obtain ⟨G, Y, w, hG, hY⟩ := gv
  have hbig : 100 < scanBound := by decide
  let P : List Int → τ → Prop := fun ns s' => ∀ D S n F' H', Same F F' → H' D = some (SetO C.X.w D S n) → n ≤ 60 → (∀ j, S j = decide (j ∈ ns)) → St8 C (φ s') σ F' (er D H') → Q (.ref D) H'
  refine sc_it w (g := gU C scope tg) (tt := tU C scope ifs) (te := eU C scope elt) (vs := own.map (·.2)) (σ := σ) (H1 := H1) (D := D) (Qd := Q (.ref D)) (fun i H' => ∃ si Fi S n out, Same F1 Fi ∧ H' D = some (SetO C.X.w D S n) ∧ St8 C (φ si) σ Fi (er D H') ∧ n ≤ i ∧ (∀ j, S j = decide (j ∈ out)) ∧
    Srv C ((lcL (lcT parts mt me) (ds.drop i) si).bind intsE) (fun rest s' => P (out ++ rest) s')) ?_ ?_ ?_ ?_
  · exact ⟨s1, F1, _, 0, [], Same.refl F1, upd_same, by rw [er_upd hD]; exact st1, Nat.le_refl _, fun j => by simp, hK⟩
  · rintro i H' _ ⟨si, Fi, S, n, out, q1, q2, q3, _⟩
    exact hG H' (q1.trans fun a o h => (er_some (q3.sub a o h)).2)
  · rintro i x H' H2 hi' ⟨si, Fi, S, n, out, q1, q2, q3, q4, q5, q6⟩ y
    obtain ⟨F3, d, gr, sub, hd, rd⟩ := hY i Fi H' x H2 hi' q1 (fun a o h => (er_some (q3.sub a o h)).2) y
    obtain ⟨gr', sub', hD2⟩ := gr.er q2 q3.sub sub
    have st3 : St8 C (φ si) σ F3 (er D H2) := q3.grow gr' sub'
    have ed : ds.drop i = d :: ds.drop (i + 1) := by
      obtain ⟨hlt, hv⟩ := List.getElem?_eq_some_iff.mp hd
      rw [List.drop_eq_getElem_cons hlt, hv]
    rw [ed] at q6
    have q6' : Srv C ((lcT parts mt me d si).bind fun q => ((lcL (lcT parts mt me) (ds.drop (i + 1)) q.2).bind fun r => .ok (q.1.toList ++ r.1, r.2)).bind intsE) (fun rest s' => P (out ++ rest) s') := by
      have e : ((lcT parts mt me d si).bind fun q => ((lcL (lcT parts mt me) (ds.drop (i + 1)) q.2).bind fun r => .ok (q.1.toList ++ r.1, r.2)).bind intsE) = (lcL (lcT parts mt me) (d :: ds.drop (i + 1)) si).bind intsE := by
        show _ = ((lcT parts mt me d si).bind fun q => (lcL (lcT parts mt me) (ds.drop (i + 1)) q.2).bind fun r => .ok (q.1.toList ++ r.1, r.2)).bind intsE
        cases lcT parts mt me d si <;> rfl
      rw [e]
      exact q6
    obtain ⟨a, s4, ef, q7⟩ := noErr_any (K := fun r => Srv C r (fun rest s' => P (out ++ rest) s')) (fun z => z) q6'
    cases ep : parts d with
    | none => rw [ep] at ef; cases ef
    | some xs =>
      rw [ep] at ef
      have ef1 : ((mt xs si).bind fun b => if b.1 = true then (me xs b.2).bind fun r => .ok (some r.1, r.2) else .ok (none, b.2)) = .ok (a, s4) := ef
      cases hL : lcL (lcT parts mt me) (ds.drop (i + 1)) s4 with
      | bad => rw [hL] at q7; exact q7.elim
      | err c e => exact absurd hL (lcL_noErr _ _)
      | ok r =>
        rw [hL] at q7
        have q8 : Srv C (intsE (a.toList ++ r.1, r.2)) (fun rest s' => P (out ++ rest) s') := q7
        cases et : mt xs si with
        | bad => rw [et] at ef1; cases ef1
        | err c e => rw [et] at ef1; cases ef1
        | ok bq =>
          obtain ⟨bv, s5⟩ := bq
          rw [et] at ef1
          intro sh H0 Cc cl0 fp
          have stw : St8 (blkCtx C scope ⟨sh, H0, Cc, cl0, fp, F3, H2, D⟩) (wipeE (φ si) (own.map (·.2))) (L2.wipe σ (own.map (·.2))) F3 H2 := by
            have z := st3.into (scope := scope) (b := ⟨sh, H0, Cc, cl0, fp, F3, H2, D⟩) rfl rfl hD2
            exact ⟨z.step, z.sub, z.env.wipe _, by rw [wipeE_len, L2.wipe_length]; exact z.len⟩
          refine hg ⟨sh, H0, Cc, cl0, fp, F3, H2, D⟩ (g.blk scope _) _ _ F3 H2 x d xs _ stw rd ep fun σ2 sb st6 => ⟨wipe_eq sb hsub, ?_⟩
          intro sh' H0' Cc' cl0' fp'
          refine ht ⟨sh', H0', Cc', cl0', fp', F3, H2, D⟩ xs (g.blk scope _) si σ2 F3 H2 _ (st6.other rfl rfl rfl) ?_
          rw [et]
          intro F7 H7 e7 st7
          cases bv with
          | false =>
            have ef2 : R.ok (none, s5) = R.ok (a, s4) := ef1
            cases ef2
            refine iteF ?_
            obtain ⟨k1, k2, k3⟩ := st3.outof rfl rfl hD2 st7
            exact ⟨_, F7, S, n, out, (q1.trans gr.fz).trans e7, k1, turn_back k3 (hn _) hsub sb (by rw [hlen _ si]; exact st3.len), by omega, q5, by rw [hL]; exact q8⟩
          | true =>
            have ef2 : ((me xs s5).bind fun r => .ok (some r.1, r.2)) = R.ok (a, s4) := ef1
            cases em : me xs s5 with
            | bad => rw [em] at ef2; cases ef2
            | err c e => rw [em] at ef2; cases ef2
            | ok rq =>
              obtain ⟨rv, s6⟩ := rq
              rw [em] at ef2
              cases ef2
              have q9 : Srv C ((opt (asInts (rv :: r.1))).bind fun ns => .ok (ns, r.2)) (fun rest s' => P (out ++ rest) s') := q8
              obtain ⟨c, ns, erv, ens, q10⟩ : ∃ c ns, rv = .int c ∧ asInts r.1 = some ns ∧ P (out ++ (c :: ns)) r.2 := by
                cases rv with
                | int c =>
                  cases en : asInts r.1 with
                  | none => rw [show asInts (Pv.D.int c :: r.1) = (asInts r.1).map (c :: ·) from rfl, en] at q9; exact q9.elim
                  | some ns => rw [show asInts (Pv.D.int c :: r.1) = (asInts r.1).map (c :: ·) from rfl, en] at q9; exact ⟨c, ns, rfl, rfl, q9⟩
                | _ => exact q9.elim
              subst erv
              refine iteT ?_
              intro sh2 H02 Cc2 cl02 fp2
              refine he ⟨sh2, H02, Cc2, cl02, fp2, F3, H2, D⟩ xs (g.blk scope _) s5 σ2 F7 H7 _ (st7.other rfl rfl rfl) ?_
              rw [em]
              intro vv F8 H8 e8 r8 st8
              obtain ⟨k1, k2, k3⟩ := st3.outof rfl rfl hD2 st8
              cases r8
              refine ⟨c, S, n, rfl, k1, by omega, s6, F8, _, _, out ++ [c], ((q1.trans gr.fz).trans e7).trans e8, upd_same, ?_, by split <;> omega, fun j => ?_, ?_⟩
              · have ee : ∀ o, er D (upd H8 D o) = er D H8 := fun o => by
                  funext b
                  by_cases cc : b = D
                  · rw [cc, er_same, er_same]
                  · rw [er_ne cc, er_ne cc, upd_ne cc]
                rw [ee]
                exact turn_back k3 (hn _) hsub sb (by rw [hlen _ si]; exact st3.len)
              · rw [q5 j]
                simp
              · rw [hL]
                show Srv C ((opt (asInts r.1)).bind fun ns => .ok (ns, r.2)) _
                rw [ens]
                show P ((out ++ [c]) ++ ns) r.2
                rw [List.append_assoc]
                exact q10
  · rintro H' ⟨si, Fi, S, n, out, q1, q2, q3, q4, q5, q6⟩
    rw [List.drop_length] at q6
    have z : P (out ++ []) si := q6
    rw [List.append_nil] at z
    exact z D S n Fi H' (e1.trans q1) q2 (by omega) q5 q3
/-- sorted({elt for target in iter if ..}) -/
theorem je_sortedSc {is : List Nat} {parts : D → Option (List D)} {elt tg iter : Expr} {ifs : List Expr} {scope : Scope} {p pos pos2 : Pos} (own : List (Str × Nat)) {mi : τ → R (List D × τ)} {mt : List D → τ → R (Bool × τ)} {me : List D → τ → R (D × τ)} (hm : C.T.mg "sorted" = none) (hi : JI C φ tg iter mi) (hg : ∀ b : Blk, JG (blkCtx C scope b) tg is parts)
    (ht : ∀ (b : Blk) (xs : List D), JTs (blkCtx C scope b) (fun s => setMany (wipeE (φ s) (own.map (·.2))) is xs) ifs (mt xs)) (he : ∀ (b : Blk) (xs : List D), JE (blkCtx C scope b) (fun s => setMany (wipeE (φ s) (own.map (·.2))) is xs) elt (me xs))
    (hn : ∀ s, ((own.map (·.2)).all fun i => ((φ s)[i]?.join).isNone) = true := by intro _; rfl)
    (ok : blkC C.X.N C.X.env.scope scope own = true := by rfl) (hsub : ∀ i ∈ is, i ∈ own.map (·.2) := by decide) (hh : C.hot = false := by rfl) (hs : ∀ x, foldedSetIterable iter C.X.env x = pure x := by intro _; rfl) (hlen : ∀ s s', (φ s).length = (φ s').length := by intro _ _; rfl)
    (hgl : Gl C.X "sorted" := by rfl) (hst : starEach [.SetComp elt [⟨tg, iter, ifs, 0⟩] scope pos2] C.X.env = (false, eval (.SetComp elt [⟨tg, iter, ifs, 0⟩] scope pos2) C.X.env) :: starEach [] C.X.env := by rfl) (hpl : (backTo pos (starEach [] C.X.env)).any (·.1) = false := by rfl) :
    JE C φ (.Call (.Name "sorted" p) [.SetComp elt [⟨tg, iter, ifs, 0⟩] scope pos2] [] pos) (fun s => ((mi s).bind fun q => (chk (decide (q.1.length ≤ 60)) q.1).bind fun ds => (lcL (lcT parts mt me) ds q.2).bind intsE).bind fun r => .ok (.lst ((sortU r.1).map .int), r.2)) := fun gd s σ F H Q st h => by
  refine ⟨_, pe_callB (cr_sortedSet (gd.calm hh)) hgl (by rw [gd.mg]; exact hm) (by decide +kernel) (pa_cons (pe_scI (wi := wpI C.X tg iter) (g := gU C scope tg) (tt := tU C scope ifs) (te := eU C scope elt) (gd.calm hh) gd.nd pi_wp (blkOk_by ok)
    (fun s H Cc cl fp => ⟨fun pins s1 σ1 H1 v u Q1 I1 r q => pg_wp.run pins s1 σ1 H1 v u Q1 I1 r (q s H Cc cl fp)⟩) (fun s H Cc cl fp => ⟨fun pins s1 σ1 H1 Q1 I1 q => pts_wp.run pins s1 σ1 H1 Q1 I1 (q s H Cc cl fp)⟩)
    (fun s H Cc cl fp => ⟨fun pins s1 σ1 H1 Q1 I1 q => pe_wp.run pins s1 σ1 H1 Q1 I1 (q s H Cc cl fp)⟩) hs) pa_nil hst) (by decide) (by decide) hst hpl, ?_⟩
  show tScI C.X.w (wpI C.X tg iter) (gU C scope tg) (tU C scope ifs) (eU C scope elt) (own.map (·.2)) σ H (fun v H1 => rSortedSet C.X.w [v] H1 Q)
  refine sc_sem own hi hg ht he hn hsub hlen gd s σ F H _ st (h.bind.mono fun ns s1 h1 D S n F1 H1 e1 hD hn60 hS st1 => ?_)
  refine ⟨D, S, n, rfl, hD, by omega, fun ms q asc mem _ hq => ?_⟩
  have em : ms = sortU ns := asc_same asc (sortU_asc ns) fun k => by rw [mem, hS, decide_eq_true_eq, mem_sortU]
  subst em
  have st2 := st1.uner hD
  have gr := grow_new (o := .lst ((sortU ns).map V.int)) st2.sub hq
  exact (show ∀ v F' H', Same F F' → Rp C.T F' v (.lst ((sortU ns).map .int)) → St8 C (φ s1) σ F' H' → Q v H' from h1) _ _ _ (e1.trans gr.fz) (.lst upd_same (Rps.ints _)) (st2.new hq)
end
end Pv
set_option Elab.async false
set_option linter.all false
set_option maxRecDepth 100000
/-! PvQ: defs with keyword-only parameters that have defaults. -/
namespace Pv
open PySem PySem.Spec PyProof.Rows L2
def DefAtK (T : Txt) (x qual : Str) (st : Stmt) (kws : List (Str × V)) : Prop := ∃ f fd, FunD T.K x qual (defArgs st) (defBody st) (defScope st) [] kws f fd ∧ T.mg x = some (.ref f)
theorem fun_ofK {K : PySem.W.Frag} {x qual : Str} {st : Stmt} {kws : List (Str × V)} {f : Addr} {fd : FuncData} (F : FunD K x qual (defArgs st) (defBody st) (defScope st) [] kws f fd) : Fun K x qual st f fd := by
  obtain ⟨oc, od, dV, kV, doc, pmv, an, cdv, ct, osl, rfl, lk, hcd, hD, hK⟩ := F.ex
  rcases hD with ⟨_, rfl⟩ | ⟨e, _⟩
  · exact ⟨⟨oc, od, kV, doc, pmv, an, cdv, ct, osl, rfl, lk, hcd⟩, F.kp⟩
  · exact absurd rfl e
/-- the values written, those of the keywords, and what stands for the ones left out -/
def callK {α : Type} (n m : Nat) (dfl : List D) (pm : List Nat) (f : List D → R α) (ds es : List D) : R α := if ds.length = n ∧ es.length = m then f (argsM pm ds (es ++ dfl)) else .bad
section
variable {T : Txt} {x qual : Str} {st : Stmt} {ps ks : List Str} {pm : List Nat} {n k j : Nat} {kws : List (Str × V)}
theorem mk_calleeK {mm : List D → R D} (hd : DefAtK T x qual st kws) (hfn : ∀ f fd, Fun T.K x qual st f fd → FnG T.P T.w T.K T.mg T.base (L2.CX T.P T.w) j f fd ps (SpD T k mm)) (hk : n + pm.length = k) (ms : List (Str × V)) (dfl : List D) (h0 : kws ≠ []) (hms : ∀ q ∈ ms, q ∈ kws) (hdf : ∀ F : Hp, Rps T F (ms.map (·.2)) dfl)
    (hb : ∀ (Dd : Addr) (doc pmv : Value) (an : Option Addr) (cdv ct : Value) (us mv ws : List Value), us.length = n → mv.length = ms.length → ws.length = ks.length →
      KwChain Dd ((ms.map (·.1)).zip mv) (bindArgs (PySem.W.fnOf x qual (defArgs st) (defBody st) (defScope st) .none (.ref Dd) doc pmv an cdv ct) ⟨us, ks.zip ws⟩) (ps.zip (us ++ pm.map fun i => (ws ++ mv).getD i .none))) :
    CalleeD T x n ks j (callK n ks.length dfl pm mm) := by
  obtain ⟨f, fd, F, hm⟩ := hd
  have Fn := fun_ofK F
  obtain ⟨oc, od, dV, kV, doc, pmv, an, cdv, ct, osl, rfl, lk, hcd, hD, hK⟩ := F.ex
  rcases hD with ⟨_, rfl⟩ | ⟨e, _⟩
  · rcases hK with e | ⟨Dd, rfl, hq⟩
    · exact absurd e h0
    · obtain ⟨mv, hl, rk, hks⟩ := kwd_vals (ms := ms) fun q hm => hq q (hms q hm)
      have kb : KBn T.K (PySem.W.fnOf x qual (defArgs st) (defBody st) (defScope st) .none (.ref Dd) doc pmv an cdv ct) ps n ks (fun us ws => us ++ pm.map fun i => (ws ++ mv).getD i .none) (fun vs zs => vs ++ pm.map fun i => (zs ++ ms.map (·.2)).getD i .non) :=
        ⟨fun s us ws X l1 l2 => BindsTo.of_looks fun M => KwChain.looks X hks (hb Dd doc pmv an cdv ct us mv ws l1 hl l2), fun r rz => r.append (vals_pm (rz.append rk) pm)⟩
      refine ⟨k, mm, _, ⟨f, _, ps, _, hfn f _ Fn, hm, F.kp, kb⟩, fun G vs zs ds es r rz l1 l2 => ⟨argsM pm ds (es ++ dfl), r.append (rps_pm (rz.append (hdf G)) pm), ?_, ?_⟩, fun ds es h => ?_⟩
      · unfold argsM
        rw [List.length_append, List.length_map]
        omega
      · exact (if_pos ⟨l1, l2⟩).symm
      · by_cases c : ds.length = n ∧ es.length = ks.length
        · exact c
        · exact absurd (if_neg c) h
  · exact absurd rfl e
end
end Pv
set_option Elab.async false
set_option linter.all false
set_option maxRecDepth 100000
set_option maxHeartbeats 2000000
/-! PvO: index, insert; dicts of one's own with tuples for keys. -/
namespace Pv
open PySem PySem.Spec PyProof.Rows L2
theorem mt_tupIndexF {X : Cx} : MtR X "tuple.index" (fun x xs H Q => ∃ (p : Addr) (ys : List V) (y : V) (j : Nat) (z : V), x = .ref p ∧ xs = [y] ∧ SqT X.K H p ys ∧ flatV y = true ∧ ys.all flatV = true ∧ ys[j]? = some z ∧ eqV z y = true ∧ (∀ (m : Nat) (z' : V), m < j → ys[m]? = some z' → eqV z' y = false) ∧ Q (.int (j : Nat)) H) := by
  intro pins s σ H x xs v us Q I rx rxs h
  obtain ⟨p, ys, y, j, z, rfl, rfl, hq, fy, fys, hz, hzj, hno, q⟩ := h
  cases rx
  obtain ⟨uy, rfl, ry⟩ := vals1 rxs
  obtain ⟨its, rv, pl, _⟩ := I.tuple hq
  obtain ⟨⟨cls, dd, dt, sl⟩, ho, hc, n, hd⟩ := pl
  simp only at hc hd
  subst hc hd
  obtain ⟨u, hu, ru⟩ := rv.get hz
  obtain ⟨hjl, hje⟩ := List.getElem?_eq_some_iff.mp hu
  have hj : j < its.toArray.size := by simpa using hjl
  refine call_meets PySem.F.slot_tuple_index ⟨_, ho, rfl⟩ PySem.F.entry_tuple_index (PySem.F.args_tuple_index_2 _ _) (TI.tuple_indexAt p its.toArray n dd sl uy (eqU y) j hj ?_ ?_) ⟨ho, fun w hw => mem_eqAt ry fy rv fys w (by simpa using hw), ?_⟩
  · rw [show its.toArray[j] = u by simpa using hje, eqU_of ru (flat_at fys hz)]
    exact hzj
  · intro m hm hmj
    have hml : m < its.length := by simpa using hm
    have hmy : m < ys.length := by rw [rv.length]; exact hml
    obtain ⟨u2, hu2, ru2⟩ := rv.get (List.getElem?_eq_getElem hmy)
    obtain ⟨_, hme⟩ := List.getElem?_eq_some_iff.mp hu2
    rw [show its.toArray[m] = u2 by simpa using hme, eqU_of ru2 (flat_at fys (List.getElem?_eq_getElem hmy))]
    exact hno m _ hmj (List.getElem?_eq_getElem hmy)
  · exact ⟨.int (j : Nat), H, I.tok _, ⟨_, rfl⟩, q⟩
/-- t.index(e), t a tuple whose object is known -/
theorem pe_tupIdx {X : Cx} {o e : Expr} {to : TE} {t : TA} {r : V → List V → Hp → VK → Prop} {apos cpos : Pos} (hm : MtR X "tuple.index" r) (ho : PE X o to) (ha : PA X (e :: []) t) (hbase : attributeBase o "index" X.env (eval o X.env) = eval o X.env)
    (hfew : ((backTo cpos (starEach (e :: []) X.env)).all (fun x => !x.1) && (backToKw cpos (keywordEach [] X.env)).all (fun x => x.1.isSome) && decide ((e :: []).length + ([] : List Keyword).length + (if ([] : List Keyword).isEmpty then 0 else 1) < 30)) = true)
    (hline : (apos.endLine == cpos.line) = true) (hs : starEach (e :: []) X.env = (false, eval e X.env) :: starEach [] X.env) (hplain : (backTo cpos (starEach [] X.env)).any (·.1) = false) :
    PE X (.Call (.Attribute o "index" apos) (e :: []) [] cpos) (fun σ H Q => to σ H fun x H1 => (∃ p ob xs, x = .ref p ∧ H1 p = some (.frz ob (.tup xs)) ∧ ob.cls = .type "tuple" ∧ ob.dict = none) ∧ t σ H1 fun vs H2 => r x vs H2 Q) := by
  refine ⟨fun pins s σ H Q I h => ?_⟩
  refine wpAny_Call_method_late hbase hfew hline rfl (thn (ho.run pins s σ H _ I h) fun v s1 ⟨x, H1, I1, r1, ty, q1⟩ => ?_)
  obtain ⟨p, ob, xs, rfl, hH, hc, hd⟩ := ty
  obtain ⟨hob, _⟩ := I1.hok p _ hH
  cases r1
  refine ⟨"tuple", "tuple.index", F.plainAttrs_tuple, F.slot_tuple_index, F.type_tuple_index, ⟨ob, hob, hc⟩, fun b z => by cases z; exact ⟨ob, hob, hd⟩, ?_⟩
  have hA := ha.run cpos pins s1 σ H1 _ I1 q1
  rw [hs] at hA ⊢
  refine Calls.callWith_builtin (by show (false || (backTo cpos (starEach [] X.env)).any (·.1)) = false; rw [hplain] <;> rfl) (Calls.evalArgs_plain ?_)
  exact thn hA fun us s2 ⟨vs, H2, I2, r2, q2⟩ => hm pins s2 σ H2 (.ref p) vs (.ref p) us Q I2 rfl r2 q2
/-- the first place of b -/
def idxF (b : D) (ds : List D) : R D := (chk (flatD b && ds.all flatD) ()).bind fun _ => (opt (ds.findIdx? fun y => eqF y b)).bind fun j => .ok (.int (j : Nat))
def sqQ : D → Bool
  | .lst _ => true
  | .tpN _ => true
  | _ => false
def mIndex : D → D → R D
  | .lst ds, b => idxF b ds
  | .tpN ds, b => idxF b ds
  | _, _ => .bad
section
variable {C : Ctx} {τ α β : Type} {φ : τ → Slots} {ψ : α → τ → Slots} {χ : β → τ → Slots} {ρ : τ → Slots} {rest : List Stmt} {pos pos2 p : Pos}
theorem idx_at {T : Txt} {F : Hp} {xs : List V} {ds : List D} {vy : V} {b : D} {K : D → Prop} (rr : Rps T F xs ds) (rb : Rp T F vy b) (h : Srv1 C (idxF b ds) K) :
    ∃ (j : Nat) (z : V), flatV vy = true ∧ xs.all flatV = true ∧ xs[j]? = some z ∧ eqV z vy = true ∧ (∀ (m : Nat) (z' : V), m < j → xs[m]? = some z' → eqV z' vy = false) ∧ K (.int (j : Nat)) := by
  obtain ⟨c, h2⟩ := (show Srv1 C ((chk (flatD b && ds.all flatD) ()).bind fun _ => _) K from h).bind.chk
  obtain ⟨j, ej, k⟩ := h2.bind.opt
  obtain ⟨hj, e1, e2⟩ := List.findIdx?_eq_some_iff_getElem.mp ej
  obtain ⟨v, hv, rv⟩ := rr.get (List.getElem?_eq_getElem hj)
  have fl := (and2 c).2
  have at' : ∀ {m : Nat} {d : D}, ds[m]? = some d → flatD d = true := fun {m d} e => List.all_eq_true.mp fl d (List.mem_of_getElem? e)
  refine ⟨j, v, flat_rp rb (and2 c).1, flats_rp rr fl, hv, by rw [eqF_rp rv rb (at' (List.getElem?_eq_getElem hj)) (and2 c).1]; exact e1, fun m z hm hz => ?_, k⟩
  obtain ⟨d, hd, rd⟩ := rr.get' hz
  rw [eqF_rp rd rb (at' hd) (and2 c).1]
  obtain ⟨hml, rfl⟩ := List.getElem?_eq_some_iff.mp hd
  have := e2 m hm
  simpa using this
/-- a.index(b) -/
theorem je_index {a b : Expr} {ap cp : Pos} {ma mb : τ → R (D × τ)} (ha : JE C φ a ma) (hb : JE C φ b mb)
    (hbase : attributeBase a "index" C.X.env (eval a C.X.env) = eval a C.X.env := by rfl)
    (hfew : ((backTo cp (starEach (b :: []) C.X.env)).all (fun x => !x.1) && (backToKw cp (keywordEach [] C.X.env)).all (fun x => x.1.isSome) && decide ((b :: []).length + ([] : List Keyword).length + (if ([] : List Keyword).isEmpty then 0 else 1) < 30)) = true := by rfl)
    (hline : (ap.endLine == cp.line) = true := by rfl) (hst : starEach (b :: []) C.X.env = (false, eval b C.X.env) :: starEach [] C.X.env := by rfl) (hpl : (backTo cp (starEach [] C.X.env)).any (·.1) = false := by rfl) :
    JE C φ (.Call (.Attribute a "index" ap) [b] [] cp) (fun s => (ma s).bind fun p => (chk (sqQ p.1) ()).bind fun _ => (mb p.2).bind fun q => (mIndex p.1 q.1).bind fun d => .ok (d, q.2)) := fun gd s σ F H Q st h => by
  have h := h.bind
  have lst : ∀ {r : V → List V → Hp → VK → Prop}, MtR C.X "list.index" r → PE C.X (.Call (.Attribute a "index" ap) [b] [] cp) (tBM C.X.K "list" r (wpE C.X a) (tCons (wpE C.X b) tNil)) := fun hm => pe_bm PySem.F.plainAttrs_list PySem.F.slot_list_index PySem.F.type_list_index hm pe_wp (pa_cons pe_wp pa_nil hst) hbase hfew hline hst hpl
  cases e : ma s with
  | bad => rw [e] at h; exact h.elim
  | err c d =>
    refine ⟨_, lst mt_index, ha gd s σ F H _ st ?_⟩
    rw [e] at h ⊢
    exact h
  | ok p =>
    obtain ⟨dx, s1⟩ := p
    rw [e] at h
    obtain ⟨hq, h'⟩ := (show Srv C ((chk (sqQ dx) ()).bind fun _ => (mb s1).bind fun q => (mIndex dx q.1).bind fun d => .ok (d, q.2)) (fun d s' => ∀ v F' H', Same F F' → Rp C.T F' v d → St8 C (φ s') σ F' H' → Q v H') from h).bind1.chk
    by_cases ht : ∃ ds, dx = .tpN ds
    · obtain ⟨ds, rfl⟩ := ht
      refine ⟨_, pe_tupIdx mt_tupIndexF pe_wp (pa_cons pe_wp pa_nil hst) hbase hfew hline hst hpl, ha gd s σ F H _ st ?_⟩
      rw [e]
      intro vx F1 H1 e1 r1 st1
      cases r1 with
      | @tpN l o xs _ hl hc hd rr =>
        refine ⟨⟨l, o, xs, rfl, st1.sub _ _ hl, hc, hd⟩, ?_⟩
        refine hb gd s1 σ F1 H1 _ st1 (h'.bind.mono fun dy s2 h2 vy F2 H2 e2 r2 st2 => ?_)
        obtain ⟨j, z, f1, f2, f3, f4, f5, k⟩ := idx_at (rr.mono e2) r2 (show Srv1 C (idxF dy ds) _ from h2.bind1)
        exact ⟨l, xs, vy, j, z, rfl, rfl, .inl (.inr ⟨_, st2.sub _ _ (e2 _ _ hl)⟩), f1, f2, f3, f4, f5, (show ∀ v F' H', Same F F' → Rp C.T F' v (.int (j : Nat)) → St8 C (φ s2) σ F' H' → Q v H' from k) _ F2 H2 (e1.trans e2) (.int _) st2⟩
    · refine ⟨_, lst mt_index, ha gd s σ F H _ st ?_⟩
      rw [e]
      intro vx F1 H1 e1 r1 st1
      cases r1 with
      | @lst l xs ds hl rr =>
        refine ⟨.inl ⟨rfl, xs, .inl (.inl (st1.sub _ _ hl))⟩, ?_⟩
        refine hb gd s1 σ F1 H1 _ st1 (h'.bind.mono fun dy s2 h2 vy F2 H2 e2 r2 st2 => ?_)
        obtain ⟨j, z, f1, f2, f3, f4, f5, k⟩ := idx_at (rr.mono e2) r2 (show Srv1 C (idxF dy ds) _ from h2.bind1)
        exact ⟨l, xs, vy, j, z, rfl, rfl, .inl (.inl (st2.sub _ _ (e2 _ _ hl))), f1, f2, f3, f4, f5, (show ∀ v F' H', Same F F' → Rp C.T F' v (.int (j : Nat)) → St8 C (φ s2) σ F' H' → Q v H' from k) _ F2 H2 (e1.trans e2) (.int _) st2⟩
      | tpN _ _ _ _ => exact absurd ⟨_, rfl⟩ ht
      | _ => cases hq
end
/-! ### dicts of one's own with tuples for keys -/
/-- a new thing at p that nobody has and that stays -/
abbrev hidCtx (C : Ctx) (p : Addr) (F H : Hp) : Ctx := { C with W := fun _ _ _ _ => False, eh := [], M := fun a => C.Fr a ∧ a ≠ p, F0 := F, H0 := H }
theorem Good.hid {C : Ctx} (g : Good C) (p : Addr) (F H : Hp) : Good (hidCtx C p F H) := ⟨g.K, g.mg, g.pr, g.w, g.base, g.calm, g.nd, g.room, g.own, takes0⟩
/-- in: the list that is made is nobody's -/
theorem St8.intoH {C : Ctx} {e : Slots} {σ : L2.St} {F H : Hp} {bD : Addr} {oD : HO} (st : St8 C e σ F (er bD H)) (hD : H bD = some oD) : St8 (hidCtx C bD F H) e σ F H := by
  have nF : F bD = none := by
    cases q : F bD with
    | none => rfl
    | some o =>
      have := st.sub _ _ q
      rw [er_same] at this
      cases this
  refine ⟨Step.refl _ _ _, fun a o h => (er_some (st.sub a o h)).2, ?_, st.len⟩
  obtain ⟨A, h1, h2⟩ := id st.env
  refine ⟨A, fun i => (h1 i).conv (Same.refl F) fun a ha => ?_, h2⟩
  obtain ⟨⟨o, e1, nt⟩, e2, _⟩ := (h1 i).own_some a ha
  obtain ⟨n, e3⟩ := er_some e1
  exact ⟨by rw [e3, e1], e2, fun z => .inr ⟨z, n⟩⟩
/-- out: it stands as it was -/
theorem St8.outofH {C : Ctx} {e e2 : Slots} {σ σ2 : L2.St} {F F2 H H2 : Hp} {bD : Addr} {oD : HO} (st0 : St8 C e σ F (er bD H)) (hD : H bD = some oD) (st : St8 (hidCtx C bD F H) e2 σ2 F2 H2) (hnt : ∀ xs, oD ≠ .tup xs := by intro xs h; first | cases h | (unfold L2.SetO at h; cases h)) :
    H2 bD = some oD ∧ F2 bD = none ∧ St8 C e2 σ2 F2 (er bD H2) := by
  have stp : Step (fun a => C.Fr a ∧ a ≠ bD) F H F2 H2 := by
    exact st.step
  have k1 : H2 bD = some oD := stp.keep _ _ hD fun z => z.2 rfl
  have nF : F bD = none := by
    cases q : F bD with
    | none => rfl
    | some o =>
      have := st0.sub _ _ q
      rw [er_same] at this
      cases this
  have nF2 : F2 bD = none := by
    cases q : F2 bD with
    | none => rfl
    | some o =>
      rcases stp.new _ _ q with z | z | z
      · rw [nF] at z; cases z
      · exact (nw_no hD hnt z).elim
      · exact absurd rfl z.2
  have dom0 : ∀ a, H a = none → C.H0 a = none := fun a h => st0.step.dom a (er_none h)
  refine ⟨k1, nF2, ⟨st0.step.fz.trans stp.fz, fun a o h => ?_, fun a o h m => ?_, fun a h => ?_⟩, fun a o h => ?_, ?_, st.len⟩
  · rcases stp.new a o h with z | z | z
    · exact st0.step.new a o z
    · rcases z with z | ⟨z, xs, ht⟩
      · exact .inr (.inl (.inl (dom0 a z)))
      · by_cases m : C.M a
        · exact .inr (.inr m)
        · cases q : C.H0 a with
          | none => exact .inr (.inl (.inl q))
          | some u =>
            have := (er_some (st0.step.keep a u q m)).2
            rw [z] at this
            cases this
            exact .inr (.inl (.inr ⟨q, xs, ht⟩))
    · exact .inr (z.1.imp .inl id)
  · have z := st0.step.keep a o h m
    obtain ⟨n, z2⟩ := er_some z
    rw [er_ne n]
    exact stp.keep a o z2 fun y => by
      rcases y.1 with y | y
      · rw [y] at h; cases h
      · exact m y
  · by_cases c : a = bD
    · rw [c]; exact st0.step.dom _ er_same
    · rw [er_ne c] at h
      exact dom0 a (stp.dom a h)
  · have n : a ≠ bD := fun z => by rw [z, nF2] at h; cases h
    rw [er_ne n]
    exact st.sub a o h
  · obtain ⟨A, h1, h2⟩ := id st.env
    refine ⟨A, fun i => (h1 i).conv (Same.refl _) fun a ha => ?_, h2⟩
    obtain ⟨⟨o, e1, nt⟩, e3, e4⟩ := (h1 i).own_some a ha
    have e4' : H a = none ∨ (C.Fr a ∧ a ≠ bD) := e4
    have n : a ≠ bD := by
      rcases e4' with z | z
      · intro y; rw [y, hD] at z; cases z
      · exact z.2
    refine ⟨er_ne n, e3, fun _ => ?_⟩
    rcases e4' with z | z
    · exact .inl (dom0 a z)
    · exact z.1

theorem pe_disp1T {X : Cx} {k v : Expr} {pos : Pos} {tk tv : TE} (hu : X.A.units + 64 < cLine) (hk : PE X k tk) (hv : PE X v tv) : PE X (.Dict [some k] [v] pos) (fun σ H Q => ∀ p, H p = none → tk σ (upd H p (.dT [])) fun x H1 => tv σ H1 fun y H2 => H2 p = some (.dT []) ∧ ∃ b ks, x = .ref b ∧ H2 b = some (.tup (ks.map kV)) ∧ Q (.ref p) (upd H2 p (.dT [(ks, y)]))) := by
  refine ⟨fun pins s σ H Q I q => ?_⟩
  have hn := I.hok.fresh (Nat.le_refl s.heap.objs.size)
  have J := I.laid (a := s.heap.objs.size) (o := .dT []) (h' := s.heap.push { cls := .type "dict", data := .dict #[] }) (t' := s.toks) (fun _ _ q => Heap.get?_push_of_some _ q) (Nat.le_refl _) (dt_empty s.heap I.big)
  rw [arm_eval_Dict, zip_pairTrees [some k] [v] X.env pos rfl rfl, dictDisplay_pairs _ (by intro z; cases z) (by rw [pairTrees_length _ _ _ _ rfl rfl, List.length_singleton]; decide)]
  refine wpAny_bind (wpAny_standAt (wpAny_bind ?_))
  unfold subDict
  refine wpAny_bind (wpAny_alloc (wpAny_bind (wpAny_holding ?_)))
  rw [if_pos (by rw [pairTrees_length _ _ _ _ rfl rfl, List.length_singleton]; decide)]
  let Q' : List (V × V) → Hp → Prop := fun ps H2 => match ps with
    | [(x, y)] => H2 s.heap.objs.size = some (.dT []) ∧ ∃ b ks, x = .ref b ∧ H2 b = some (.tup (ks.map kV)) ∧ Q (.ref s.heap.objs.size) (upd H2 s.heap.objs.size (.dT [(ks, y)]))
    | _ => False
  refine wpAny_bind (thn ((pps_cons hk hv pps_nil).run pins _ σ _ Q' J (q _ hn)) fun ws s2 ⟨ps, H2, J2, rel, hq⟩ => ?_)
  match ps, rel, hq with
  | [], _, hq => exact hq.elim
  | _ :: _ :: _, _, hq => exact hq.elim
  | [(x, y)], rel, hq =>
    obtain ⟨e, b, ks, rfl, eb, q2⟩ := hq
    cases rel with
    | @cons _ w2 _ ws' hr rr =>
      cases rr
      obtain ⟨u, r⟩ := w2
      obtain ⟨r1, r2⟩ := hr
      obtain rfl : u = Value.ref b := r1
      obtain ⟨z, hd, xs, rel, dd⟩ := dt_of J2.hok e
      have hrel := rel
      cases rel
      refine wpAny_holding (wpAny_bind ?_)
      rw [List.forIn_cons]
      refine wpAny_bind (wpAny_bind (wpAny_dictSet_heap (hsz := by simp [sizeLine_eq]) (show X.A.units < cLine by omega) (key_of J2.hok eb) dd fun h2 dd' hs => wpAny_pure ?_))
      dsimp only
      rw [List.forIn_nil]
      refine wpAny_pure (wpAny_pure (wpAny_pure (wpAny_pure ⟨.ref s.heap.objs.size, upd H2 s.heap.objs.size (.dT [(ks, y)]), ?_, rfl, q2⟩)))
      obtain ⟨ob, es, ep, hq, g2, g3, g4, _, g5⟩ := dd'
      have kt : KT (upd H2 s.heap.objs.size (.dT [(ks, y)])) [(ks, y)] [(ks, b, r)] := .cons ⟨rfl, by rw [upd_ne (ne_of eb e (fun z => nomatch z))]; exact eb, r2⟩ .nil
      exact d_write J2 (by rw [e]; exact True.intro) hs ⟨ob, hq⟩ ⟨by rw [List.length_singleton]; rw [sizeLine_eq]; omega, hd, _, kt, ob, es, ep, hq, g2, g3, g4, g5⟩
section
variable {C : Ctx} {τ α β : Type} {φ : τ → Slots} {ψ : α → τ → Slots} {χ : β → τ → Slots} {ρ : τ → Slots} {rest : List Stmt} {pos pos2 p : Pos}
theorem SlotsOk.owtAt {T : Txt} {Fr : Addr → Prop} {F H : Hp} {e : Slots} {σ : L2.St} {i : Nat} {kd : List (List Key × D)} (h : SlotsOk T Fr F H e σ) (hi : e[i]?.join = some (.owt kd)) :
    ∃ l kv, σ[i]? = some (some (.ref l)) ∧ H l = some (.dT kv) ∧ kv.map (·.1) = kd.map (·.1) ∧ Rps T F (kv.map (·.2)) (kd.map (·.2)) ∧ F l = none ∧ Fr l := by
  obtain ⟨A, h1, _⟩ := h
  have q := h1 i
  rw [hi] at q
  obtain ⟨l, xs, _, ev, h1, hn, h2, h3, h4⟩ := q
  refine ⟨l, xs, ?_, h1, hn, h2, h3, h4⟩
  cases z : σ[i]? with
  | none => rw [z] at ev; cases ev
  | some o => rw [z] at ev; rw [show o = some (V.ref l) from ev]
/-- x[a] = e -/
theorem jb_putT (i : Nat) {f : τ → List (List Key × D)} {x : Str} {a e : Expr} {p1 p2 : Pos} {ma me : τ → R (D × τ)} {k : List (List Key × D) → τ → R (Fl α β × τ)} (he : JE C φ e me) (ha : JE C φ a ma) (hk : ∀ kd, JB C (fun s => (φ s).set i (some (.owt kd))) rest ψ χ ρ (k kd)) (hh : C.hot = false := by rfl)
    (hi : ∀ s, (φ s)[i]?.join = some (.owt (f s)) := by intro _; rfl) (hN : C.X.N[i]? = some x := by rfl) (hv : Vis C.X.env.scope x := by first | exact Or.inl rfl | exact Or.inr (Or.inl rfl) | exact Or.inr (Or.inr rfl)) (hd : (x == ("__debug__" : Str)) = false := by decide) (hcd : (x == ("__classdict__" : Str)) = false := by decide)
    (hs : swapsWith e (some (.Subscript (.Name x p1) a p2)) pos.line C.X.env = pure false := by rfl) :
    JB C φ (.Assign [.Subscript (.Name x p1) a p2] e pos :: rest) ψ χ ρ (fun s => (me s).bind fun p => (ma p.2).bind fun q => (opt (keyT q.1)).bind fun ky => (chk (decide ((f q.2).length < 1000000)) ()).bind fun _ => k (putG (f q.2) ky p.1) q.2) := fun g s σ F H Dn st h => by
  have hu := g.u64 hh
  refine ⟨_, pss_cons (ps_dput (by omega) (pe_var hN hv hd hcd) pe_wp pe_wp hs) ps_wp, ?_⟩
  refine he g s σ F H _ st (h.bind.mono fun d s1 h1 v F1 H1 ee r1 st1 => ?_)
  obtain ⟨l, kv, e1, e2, _⟩ := st1.env.owtAt (hi s1)
  refine ⟨.ref l, e1, ?_⟩
  refine ha g s1 σ F1 H1 _ st1 (h1.bind.mono fun d2 s2 h2 v2 F2 H2 ee2 r2 st2 => ?_)
  obtain ⟨ky, hky, h3⟩ := h2.bind1.opt
  obtain ⟨c, h4⟩ := h3.bind1.chk
  obtain ⟨l', kv', q1, q2, q3, q4, q5, q6⟩ := st2.env.owtAt (hi s2)
  rw [e1] at q1
  cases q1
  have hl : kv'.length < sizeLine := Nat.lt_of_lt_of_le (by rw [← List.length_map (f := Prod.fst), q3, List.length_map]; exact of_decide_eq_true c) (sz_small (Nat.le_refl _))
  obtain ⟨z1, z2⟩ := putG_rel (k := ky) (r1.mono ee2) q3 q4
  obtain ⟨bk, rfl, hbk⟩ := keyT_rp r2 hky
  refine ⟨l, _, rfl, .t q2 (st2.sub _ _ hbk) hl, ?_⟩
  refine hk _ g s2 _ F2 _ Dn ⟨⟨st2.step.fz, st2.step.new, fun a o ha hm => ?_, fun a ha => ?_⟩, fun a o ha => ?_, st2.env.upd1 (hi s2) (by rw [e1]; rfl) (fun as z => ?_) (fun _ => ⟨l, _, rfl, rfl, upd_same, z1, z2, q5, q6⟩), by rw [List.length_set]; exact st2.len⟩ (h4.mono fun f s2 => FlPost.mono (ee.trans ee2))
  · have ne : a ≠ l := fun z => by
      rcases q6 with z' | z'
      · rw [z, z'] at ha; cases ha
      · exact hm (by rw [z]; exact z')
    rw [upd_ne ne]
    exact st2.step.keep a o ha hm
  · by_cases c : a = l
    · rw [c, upd_same] at ha; cases ha
    · rw [upd_ne c] at ha
      exact st2.step.dom a ha
  · have ne : a ≠ l := fun z => by rw [z, q5] at ha; cases ha
    rw [upd_ne ne]
    exact st2.sub a o ha
  · obtain ⟨l2, _, rfl, z2, _⟩ := z
    cases z2
    rfl
/-- a in x, as a test -/
theorem jt_inT (i : Nat) {f : τ → List (List Key × D)} {x : Str} {a : Expr} {p1 : Pos} {ma : τ → R (D × τ)} (ha : JE C φ a ma) (hh : C.hot = false := by rfl)
    (hi : ∀ s, (φ s)[i]?.join = some (.owt (f s)) := by intro _; rfl) (hN : C.X.N[i]? = some x := by rfl) (hv : Vis C.X.env.scope x := by first | exact Or.inl rfl | exact Or.inr (Or.inl rfl) | exact Or.inr (Or.inr rfl)) (hd : (x == ("__debug__" : Str)) = false := by decide) (hcd : (x == ("__classdict__" : Str)) = false := by decide)
    (hm : behindInMarks .In (.Name x p1) = false := by first | exact nobehind _ (by decide) (by decide) | rfl) :
    JT C φ (.Compare a [.In] [.Name x p1] pos) (fun s => (ma s).bind fun q => (opt (keyT q.1)).bind fun ky => .ok ((valG (f q.2) ky).isSome, q.2)) := fun g s σ F H Q st h => by
  have hu := g.u64 hh
  refine ⟨_, pt_cmp (pc_din (by omega) pe_wp (pe_var hN hv hd hcd)) hm, ?_⟩
  refine ha g s σ F H _ st (h.bind.mono fun d s1 h1 v F1 H1 ee r1 st1 => ?_)
  obtain ⟨ky, hky, h2⟩ := h1.bind1.opt
  obtain ⟨l, kv, e1, e2, e3, e4, _⟩ := st1.env.owtAt (hi s1)
  refine ⟨.ref l, e1, l, valV kv ky, rfl, ?_, _, rfl, ?_⟩
  · obtain ⟨bk, rfl, hbk⟩ := keyT_rp r1 hky
    exact .t e2 (st1.sub _ _ hbk)
  · have h3 : ∀ F' H', Same F F' → St8 C (φ s1) σ F' H' → Q (valG (f s1) ky).isSome H' := h2
    rcases valG_rel (k := ky) e3 e4 with ⟨z1, z2⟩ | ⟨v', d', z1, z2, _⟩
    · rw [z1]
      rw [z2] at h3
      exact h3 F1 H1 ee st1
    · rw [z1]
      rw [z2] at h3
      exact h3 F1 H1 ee st1
/-- a not in x, as a test -/
theorem jt_notInT (i : Nat) {f : τ → List (List Key × D)} {x : Str} {a : Expr} {p1 : Pos} {ma : τ → R (D × τ)} (ha : JE C φ a ma) (hh : C.hot = false := by rfl)
    (hi : ∀ s, (φ s)[i]?.join = some (.owt (f s)) := by intro _; rfl) (hN : C.X.N[i]? = some x := by rfl) (hv : Vis C.X.env.scope x := by first | exact Or.inl rfl | exact Or.inr (Or.inl rfl) | exact Or.inr (Or.inr rfl)) (hd : (x == ("__debug__" : Str)) = false := by decide) (hcd : (x == ("__classdict__" : Str)) = false := by decide)
    (hm : behindInMarks .NotIn (.Name x p1) = false := by first | exact nobehind _ (by decide) (by decide) | rfl) :
    JT C φ (.Compare a [.NotIn] [.Name x p1] pos) (fun s => (ma s).bind fun q => (opt (keyT q.1)).bind fun ky => .ok (!(valG (f q.2) ky).isSome, q.2)) := fun g s σ F H Q st h => by
  have hu := g.u64 hh
  refine ⟨_, pt_cmp (pc_dnotin (by omega) pe_wp (pe_var hN hv hd hcd)) hm, ?_⟩
  refine ha g s σ F H _ st (h.bind.mono fun d s1 h1 v F1 H1 ee r1 st1 => ?_)
  obtain ⟨ky, hky, h2⟩ := h1.bind1.opt
  obtain ⟨l, kv, e1, e2, e3, e4, _⟩ := st1.env.owtAt (hi s1)
  refine ⟨.ref l, e1, l, valV kv ky, rfl, ?_, _, rfl, ?_⟩
  · obtain ⟨bk, rfl, hbk⟩ := keyT_rp r1 hky
    exact .t e2 (st1.sub _ _ hbk)
  · have h3 : ∀ F' H', Same F F' → St8 C (φ s1) σ F' H' → Q (!(valG (f s1) ky).isSome) H' := h2
    rcases valG_rel (k := ky) e3 e4 with ⟨z1, z2⟩ | ⟨v', d', z1, z2, _⟩
    · rw [z1]
      rw [z2] at h3
      exact h3 F1 H1 ee st1
    · rw [z1]
      rw [z2] at h3
      exact h3 F1 H1 ee st1
/-- x = {a: e}, a a tuple -/
theorem jb_newT1 (i : Nat) {x : Str} {pos' pd : Pos} {a e : Expr} {ma me : τ → R (D × τ)} {k : List (List Key × D) → τ → R (Fl α β × τ)} (ha : ∀ p F H, JE (hidCtx C p F H) φ a ma) (he : ∀ p F H, JE (hidCtx C p F H) φ e me) (hk : ∀ kd, JB C (fun s => (φ s).set i (some (.owt kd))) rest ψ χ ρ (k kd)) (hh : C.hot = false := by rfl)
    (hi : C.X.N[i]? = some x := by rfl) (hx : Loc C.X.env.scope x := by first | exact Or.inl rfl | exact Or.inr rfl) (hs : swapsWith (.Dict [some a] [e] pd) (some (.Name x pos')) pos.line C.X.env = pure false := by rfl)
    (hf : C.X.fn x = true ∨ C.X.env.scope.names.lookup x = some .local := by first | exact .inl rfl | exact .inr rfl) :
    JB C φ (.Assign [.Name x pos'] (.Dict [some a] [e] pd) pos :: rest) ψ χ ρ (fun s => (noErr (ma s)).bind fun p => (noErr (me p.2)).bind fun q => (opt (keyT p.1)).bind fun ks => k [(ks, q.1)] q.2) := fun g s σ F H Dn st h => by
  have hu := g.u64 hh
  refine ⟨_, pss_cons (ps_set g.nd hi hx (pe_disp1T hu pe_wp pe_wp) hs hf) ps_wp, fun p hp => ?_⟩
  have st0 : St8 C (φ s) σ F (er p (upd H p (.dT []))) := by rw [er_upd hp]; exact st
  obtain ⟨d, s1, em, h1⟩ := noErr_any (K := fun r => Srv C r (FlPost C F ψ χ ρ Dn)) (fun z => z) h
  refine ha p F _ (g.hid p F _) s σ F _ _ (st0.intoH upd_same) ?_
  rw [em]
  intro v F1 H1 e1 r1 st1
  obtain ⟨d2, s2, em2, h2⟩ := noErr_any (K := fun r => Srv C r (FlPost C F ψ χ ρ Dn)) (fun z => z) h1
  refine he p F _ (g.hid p F _) s1 σ F1 H1 _ st1 ?_
  rw [em2]
  intro v2 F2 H2 e2 r2 st2
  obtain ⟨k1, k2, k3⟩ := st0.outofH upd_same st2
  obtain ⟨ks, ek, h3⟩ := h2.bind1.opt
  obtain ⟨b, rfl, hb⟩ := keyT_rp (r1.mono e2) ek
  refine ⟨k1, b, ks, rfl, st2.sub _ _ hb, ?_⟩
  have eu : ∀ o, upd (er p H2) p o = upd H2 p o := fun o => by
    funext c
    by_cases cc : c = p
    · rw [cc, upd_same, upd_same]
    · rw [upd_ne cc, upd_ne cc, er_ne cc]
  have nw := k3.env.newOwn (i := i) (o := .dT [(ks, v2)]) (sv := .owt [(ks, d2)]) k3.sub er_same k3.len ⟨p, [(ks, v2)], rfl, rfl, upd_same, rfl, Rps.one r2, k2, .inl (k3.step.dom p er_same)⟩
  rw [eu] at nw
  refine hk _ g s2 _ F2 _ Dn ⟨?_, fun a o e => ?_, nw, by rw [List.length_set, List.length_set]; exact k3.len⟩ (Srv.mono h3 fun f s' => FlPost.mono (e1.trans e2))
  · have z := k3.step.trans ((grow_own (o := .dT [(ks, v2)]) er_same).weak fun _ z => z.elim)
    rw [eu] at z
    exact z
  · have n : a ≠ p := fun z => by rw [z, k2] at e; cases e
    rw [upd_ne n]
    exact st2.sub a o e
/-- x[a], x a dict of one's own -/
theorem je_getT (i : Nat) {f : τ → List (List Key × D)} {x : Str} {a : Expr} {p1 : Pos} {ma : τ → R (D × τ)} (ha : JE C φ a ma) (hh : C.hot = false := by rfl) (hpl : PlainIx a := by intro _ _; rfl)
    (hi : ∀ s, (φ s)[i]?.join = some (.owt (f s)) := by intro _; rfl) (hN : C.X.N[i]? = some x := by rfl) (hv : Vis C.X.env.scope x := by first | exact Or.inl rfl | exact Or.inr (Or.inl rfl) | exact Or.inr (Or.inr rfl)) (hd : (x == ("__debug__" : Str)) = false := by decide) (hcd : (x == ("__classdict__" : Str)) = false := by decide) :
    JE C φ (.Subscript (.Name x p1) a pos) (fun s => (ma s).bind fun q => (opt (keyT q.1)).bind fun ks => (opt (valG (f q.2) ks)).bind fun d => .ok (d, q.2)) := fun g s σ F H Q st h => by
  have hu := g.u64 hh
  obtain ⟨l, kv, e1, e2, _⟩ := st.env.owtAt (hi s)
  refine ⟨_, pe_dget (by omega) (pe_var hN hv hd hcd) pe_wp hpl, .ref l, e1, ?_⟩
  refine ha g s σ F H _ st (h.bind.mono fun d s1 h1 v F1 H1 ee r1 st1 => ?_)
  obtain ⟨ky, hky, h2⟩ := h1.bind1.opt
  obtain ⟨d', ed, h3⟩ := h2.bind1.opt
  obtain ⟨l', kv', q1, q2, q3, q4, _⟩ := st1.env.owtAt (hi s1)
  rw [e1] at q1
  cases q1
  obtain ⟨bk, rfl, hbk⟩ := keyT_rp r1 hky
  rcases valG_rel (k := ky) q3 q4 with ⟨_, z⟩ | ⟨v', d2, z1, z2, z3⟩
  · rw [ed] at z; cases z
  · rw [ed] at z2
    cases z2
    exact ⟨l, v', rfl, by rw [← z1]; exact .t q2 (st1.sub _ _ hbk), (show ∀ v F' H', Same F F' → Rp C.T F' v d' → St8 C (φ s1) σ F' H' → Q v H' from h3) v' F1 H1 ee z3 st1⟩
/-- a dict of one's own stands still from now on -/
theorem jb_freezeT (i : Nat) {f : τ → List (List Key × D)} {k : τ → R (Fl α β × τ)} (hk : JB C (fun s => (φ s).set i (some (.val (.dcT (f s))))) rest ψ χ ρ k) (hi : ∀ s, (φ s)[i]?.join = some (.owt (f s)) := by intro _; rfl) : JB C φ rest ψ χ ρ k := fun g s σ F H Dn st h => by
  obtain ⟨A, h1, h2⟩ := id st.env
  have q := h1 i
  rw [hi s] at q
  obtain ⟨l, kv, eA, ev, hH, hn, rr, hF, hfr⟩ := q
  have e6 : Same F (upd F l (.dT kv)) := fun a o e => by rw [upd_ne (ne_of_none e hF)]; exact e
  have sub7 : Same (upd F l (.dT kv)) H := fun a o e => by
    by_cases c : a = l
    · subst c
      rw [upd_same] at e
      rw [hH]
      exact e
    · rw [upd_ne c] at e
      exact st.sub a o e
  have hlen : i < (φ s).length := by
    have := hi s
    by_cases c : i < (φ s).length
    · exact c
    · rw [List.getElem?_eq_none (by simpa using c)] at this; cases this
  refine hk g s σ _ H Dn ⟨⟨st.step.fz.trans e6, fun a o ha => ?_, st.step.keep, st.step.dom⟩, sub7, ⟨fun j => if j = i then [] else A j, fun j => ?_, fun j m a ha hb => ?_⟩, by rw [List.length_set]; exact st.len⟩ (h.mono fun f s2 => FlPost.mono e6)
  · by_cases c : a = l
    · exact .inr ((show C.Fr a by rw [c]; exact hfr).imp .inl id)
    · rw [upd_ne c] at ha
      exact st.step.new a o ha
  · by_cases c : j = i
    · subst c
      rw [if_pos rfl, join_set_self hlen, ev]
      exact ⟨rfl, _, rfl, .dcT upd_same hn (rr.mono e6)⟩
    · rw [if_neg c, join_set_ne (Ne.symm c)]
      refine (h1 j).move e6 fun a ha => ⟨rfl, ?_⟩
      have n : a ≠ l := fun z => c (h2 j i a ha (by rw [eA, z]; simp))
      rw [upd_ne n]
      exact ((h1 j).own_some a ha).2.1
  · by_cases c : j = i
    · simp [c] at ha
    · by_cases c' : m = i
      · simp [c'] at hb
      · rw [if_neg c] at ha
        rw [if_neg c'] at hb
        exact h2 j m a ha hb
end
end Pv
set_option Elab.async false
set_option linter.all false
set_option maxRecDepth 100000
/-! PvU: lists in lists, all of one's own. -/
namespace Pv
open PySem PySem.Spec PyProof.Rows L2
def ers (as : List Addr) (H : Hp) : Hp := fun a => if a ∈ as then none else H a
theorem ers_nil {H : Hp} : ers [] H = H := by
  funext a; simp [ers]
theorem ers_in {as : List Addr} {H : Hp} {a : Addr} (h : a ∈ as) : ers as H a = none := if_pos h
theorem ers_ne {as : List Addr} {H : Hp} {a : Addr} (h : a ∉ as) : ers as H a = H a := if_neg h
theorem ers_some {as : List Addr} {H : Hp} {a : Addr} {o : HO} (h : ers as H a = some o) : a ∉ as ∧ H a = some o := by
  by_cases c : a ∈ as
  · rw [ers_in c] at h; cases h
  · rw [ers_ne c] at h; exact ⟨c, h⟩
theorem ers_ers {as bs : List Addr} {H : Hp} : ers as (ers bs H) = ers (as ++ bs) H := by
  funext a
  by_cases c : a ∈ as
  · rw [ers_in c, ers_in (List.mem_append.mpr (.inl c))]
  · rw [ers_ne c]
    by_cases c' : a ∈ bs
    · rw [ers_in c', ers_in (List.mem_append.mpr (.inr c'))]
    · rw [ers_ne c', ers_ne fun z => (List.mem_append.mp z).elim c c']
abbrev hidsCtx (C : Ctx) (as : List Addr) (F H : Hp) : Ctx := { C with W := fun _ _ _ _ => False, eh := [], M := fun a => C.Fr a ∧ a ∉ as, F0 := F, H0 := H }
theorem Good.hids {C : Ctx} (g : Good C) (as : List Addr) (F H : Hp) : Good (hidsCtx C as F H) := ⟨g.K, g.mg, g.pr, g.w, g.base, g.calm, g.nd, g.room, g.own, takes0⟩
theorem St8.intoHs {C : Ctx} {e : Slots} {σ : L2.St} {F H : Hp} {as : List Addr} (st : St8 C e σ F (ers as H)) : St8 (hidsCtx C as F H) e σ F H := by
  refine ⟨Step.refl _ _ _, fun a o h => (ers_some (st.sub a o h)).2, ?_, st.len⟩
  obtain ⟨A, h1, h2⟩ := id st.env
  refine ⟨A, fun i => (h1 i).conv (Same.refl F) fun a ha => ?_, h2⟩
  obtain ⟨⟨o, e1, nt⟩, e2, _⟩ := (h1 i).own_some a ha
  obtain ⟨n, e3⟩ := ers_some e1
  exact ⟨by rw [e3, e1], e2, fun z => .inr ⟨z, n⟩⟩
/-- out: what was hidden stands as it was -/
theorem St8.outofHs {C : Ctx} {e e2 : Slots} {σ σ2 : L2.St} {F F2 H H2 : Hp} {as : List Addr} (st0 : St8 C e σ F (ers as H)) (hL : ∀ a ∈ as, ∃ xs, H a = some (.lst xs)) (st : St8 (hidsCtx C as F H) e2 σ2 F2 H2) :
    (∀ a ∈ as, H2 a = H a ∧ F2 a = none) ∧ St8 C e2 σ2 F2 (ers as H2) := by
  have stp : Step (fun a => C.Fr a ∧ a ∉ as) F H F2 H2 := st.step
  have k1 : ∀ a ∈ as, H2 a = H a := fun a ha => by
    obtain ⟨xs, e⟩ := hL a ha
    rw [e]
    exact stp.keep _ _ e fun z => z.2 ha
  have nF : ∀ a ∈ as, F a = none := fun a ha => by
    cases q : F a with
    | none => rfl
    | some o =>
      have := st0.sub _ _ q
      rw [ers_in ha] at this
      cases this
  have nF2 : ∀ a ∈ as, F2 a = none := fun a ha => by
    cases q : F2 a with
    | none => rfl
    | some o =>
      obtain ⟨xs, e⟩ := hL a ha
      rcases stp.new _ _ q with z | z | z
      · rw [nF a ha] at z; cases z
      · exact (nw_no e (fun _ => nofun) z).elim
      · exact absurd ha z.2
  have dom0 : ∀ a, H a = none → C.H0 a = none := fun a h => st0.step.dom a (by
    by_cases c : a ∈ as
    · exact ers_in c
    · rw [ers_ne c]; exact h)
  refine ⟨fun a ha => ⟨k1 a ha, nF2 a ha⟩, ⟨st0.step.fz.trans stp.fz, fun a o h => ?_, fun a o h m => ?_, fun a h => ?_⟩, fun a o h => ?_, ?_, st.len⟩
  · rcases stp.new a o h with z | z | z
    · exact st0.step.new a o z
    · rcases z with z | ⟨z, xs, ht⟩
      · exact .inr (.inl (.inl (dom0 a z)))
      · by_cases m : C.M a
        · exact .inr (.inr m)
        · cases q : C.H0 a with
          | none => exact .inr (.inl (.inl q))
          | some u =>
            have := (ers_some (st0.step.keep a u q m)).2
            rw [z] at this
            cases this
            exact .inr (.inl (.inr ⟨q, xs, ht⟩))
    · exact .inr (z.1.imp .inl id)
  · have z := st0.step.keep a o h m
    obtain ⟨n, z2⟩ := ers_some z
    rw [ers_ne n]
    exact stp.keep a o z2 fun y => by
      rcases y.1 with y | y
      · rw [y] at h; cases h
      · exact m y
  · by_cases c : a ∈ as
    · exact st0.step.dom _ (ers_in c)
    · rw [ers_ne c] at h
      exact dom0 a (stp.dom a h)
  · have n : a ∉ as := fun z => by rw [nF2 a z] at h; cases h
    rw [ers_ne n]
    exact st.sub a o h
  · obtain ⟨A, h1, h2⟩ := id st.env
    refine ⟨A, fun i => (h1 i).conv (Same.refl _) fun a ha => ?_, h2⟩
    obtain ⟨⟨o, e1, nt⟩, e3, e4⟩ := (h1 i).own_some a ha
    have e4' : H a = none ∨ (C.Fr a ∧ a ∉ as) := e4
    have n : a ∉ as := by
      rcases e4' with z | z
      · intro y
        obtain ⟨xs, e⟩ := hL a y
        rw [e] at z; cases z
      · exact z.2
    refine ⟨ers_ne n, e3, fun _ => ?_⟩
    rcases e4' with z | z
    · exact .inl (dom0 a z)
    · exact z.1
/-- what an expression makes, its new lists marked -/
def JEN (C : Ctx) {τ : Type} (φ : τ → Slots) (e : Expr) (m : τ → R (D × τ)) : Prop := Good C → ∀ (s : τ) (σ : L2.St) (F H : Hp) (Q : VK), St8 C (φ s) σ F H →
  Srv C (m s) (fun d s' => ∀ v as F' H', Same F F' → Own C.T F' H' v d as → as.Nodup → St8 C (φ s') σ F' (ers as H') → Q v H') → wpE C.X e σ H Q
def JAN (C : Ctx) {τ : Type} (φ : τ → Slots) (es : List Expr) (m : τ → R (List D × τ)) : Prop := Good C → ∀ (s : τ) (σ : L2.St) (F H : Hp) (Q : List V → Hp → Prop), St8 C (φ s) σ F H →
  Srv C (m s) (fun ds s' => ∀ vs as F' H', Same F F' → Owns C.T F' H' vs ds as → as.Nodup → St8 C (φ s') σ F' (ers as H') → Q vs H') → wpA C.X es σ H Q
def JENL (C : Ctx) {τ : Type} (φ : τ → Slots) (e : Expr) (m : τ → R (List D × τ)) : Prop := Good C → ∀ (s : τ) (σ : L2.St) (F H : Hp) (Q : VK), St8 C (φ s) σ F H →
  Srv C (m s) (fun ds s' => ∀ v as F' H', Same F F' → Own C.T F' H' v (.fre ds) as → as.Nodup → St8 C (φ s') σ F' (ers as H') → Q v H') → wpE C.X e σ H Q
section
variable {C : Ctx} {τ α β : Type} {φ : τ → Slots} {ψ : α → τ → Slots} {χ : β → τ → Slots} {ρ : τ → Slots} {rest : List Stmt} {pos : Pos}
theorem jen_val {e : Expr} {m : τ → R (D × τ)} (h : JE C φ e m) : JEN C φ e m := fun g s σ F H Q st hs =>
  h g s σ F H Q st (hs.mono fun d s1 h1 v F1 H1 e1 r st1 => h1 v [] F1 H1 e1 (.val r) List.nodup_nil (by rw [ers_nil]; exact st1))
theorem jen_new {e : Expr} {m : τ → R (List D × τ)} (h : JEL C φ e m) : JEN C φ e (fun s => (m s).bind fun q => .ok (.fre q.1, q.2)) := fun g s σ F H Q st hs =>
  h g s σ F H Q st (hs.bind.mono fun ds s1 h1 l xs F1 H1 e1 hn r st1 => by
    have fl : F1 l = none := by
      cases q : F1 l with
      | none => rfl
      | some o => rw [st1.sub _ _ q] at hn; cases hn
    refine (show ∀ v as F' H', Same F F' → Own C.T F' H' v (.fre ds) as → as.Nodup → St8 C (φ s1) σ F' (ers as H') → Q v H' from h1) _ [l] F1 _ e1 (.lst upd_same fl (Owns.of r)) (by simp) ?_
    have : ers [l] (upd H1 l (.lst xs)) = H1 := by
      funext a
      by_cases c : a = l
      · rw [c, ers_in (List.Mem.head _), hn]
      · rw [ers_ne (by simpa using c), upd_ne c]
    rw [this]
    exact st1)
theorem jan_nil : JAN C φ [] (fun s => .ok ([], s)) := fun gd s σ F H Q st hs => ⟨_, pa_nil, hs [] [] F H (Same.refl F) .nil List.nodup_nil (by rw [ers_nil]; exact st)⟩
theorem jan_cons {e : Expr} {es : List Expr} {m : τ → R (D × τ)} {n : τ → R (List D × τ)} (h : JEN C φ e m) (k : ∀ as F H, JAN (hidsCtx C as F H) φ es n) (hst : starEach (e :: es) C.X.env = (false, eval e C.X.env) :: starEach es C.X.env := by rfl) :
    JAN C φ (e :: es) (fun s => (m s).bind fun p => (noErr (n p.2)).bind fun q => .ok (p.1 :: q.1, q.2)) := fun gd s σ F H Q st hs => by
  refine ⟨_, pa_cons pe_wp pa_wp hst, ?_⟩
  refine h gd s σ F H _ st (hs.bind.mono fun d s1 h1 v as F1 H1 e1 o1 nd1 st1 => ?_)
  obtain ⟨ds, s2, en, h2⟩ := noErr_any (K := fun r => Srv C r _) (fun z => z) h1
  refine k as F1 H1 (gd.hids as F1 H1) s1 σ F1 H1 _ st1.intoHs ?_
  rw [en]
  intro vs bs F2 H2 e2 o2 nd2 st2
  have hnew : ∀ b ∈ bs, H1 b = none := fun b hb => st2.step.dom b (ers_in hb)
  have hdis : ∀ a ∈ as, a ∉ bs := fun a ha hb => by
    obtain ⟨⟨xs, q⟩, _⟩ := o1.mem a ha
    rw [hnew a hb] at q; cases q
  obtain ⟨k1, k2⟩ := st1.outofHs (fun a ha => (o1.mem a ha).1) st2
  refine (show ∀ vs as F' H', Same F F' → Owns C.T F' H' vs (d :: ds) as → as.Nodup → St8 C (φ s2) σ F' (ers as H') → Q vs H' from h2) (v :: vs) (as ++ bs) F2 H2 (e1.trans e2) (.cons (o1.move e2 fun a ha => ⟨?_, (k1 a ha).2⟩) o2) ?_ ?_
  · rw [← (k1 a ha).1, ers_ne (hdis a ha)]
  · exact List.nodup_append.mpr ⟨nd1, nd2, fun a ha b hb z => hdis a ha (z ▸ hb)⟩
  · rw [← ers_ers]
    exact k2
theorem jen_ofL {e : Expr} {m : τ → R (List D × τ)} (h : JENL C φ e m) : JEN C φ e (fun s => (m s).bind fun q => .ok (.fre q.1, q.2)) := fun g s σ F H Q st hs =>
  h g s σ F H Q st (hs.bind.mono fun ds s1 h1 v as F1 H1 e1 o nd st1 => (show ∀ v as F' H', Same F F' → Own C.T F' H' v (.fre ds) as → as.Nodup → St8 C (φ s1) σ F' (ers as H') → Q v H' from h1) v as F1 H1 e1 o nd st1)
theorem jenl_lst {es : List Expr} {n : τ → R (List D × τ)} (h : JAN C φ es n) : JENL C φ (.List es pos) (fun s => (n s).bind fun q => (chk (decide (q.1.length ≤ 1000000)) q.1).bind fun ds => .ok (ds, q.2)) := fun gd s σ F H Q st hs => by
  refine ⟨_, pe_lst pa_wp, ?_⟩
  refine h gd s σ F H _ st (hs.bind.mono fun ds s1 h1 vs as F1 H1 e1 o1 nd st1 => ?_)
  obtain ⟨c, h2⟩ := h1.bind1.chk
  refine ⟨sz_small (by rw [o1.length]; exact of_decide_eq_true c), fun p hp => ?_⟩
  have hna : p ∉ as := fun z => by
    obtain ⟨⟨xs, q⟩, _⟩ := o1.mem p z
    rw [hp] at q; cases q
  have fp : F1 p = none := by
    cases q : F1 p with
    | none => rfl
    | some o =>
      have := (ers_some (st1.sub _ _ q)).2
      rw [hp] at this; cases this
  refine (show ∀ v as F' H', Same F F' → Own C.T F' H' v (.fre ds) as → as.Nodup → St8 C (φ s1) σ F' (ers as H') → Q v H' from h2) (.ref p) (p :: as) F1 _ e1 (.lst upd_same fp (o1.move (Same.refl _) fun a ha => ⟨upd_ne fun z => hna (z ▸ ha), (o1.mem a ha).2⟩)) (List.nodup_cons.mpr ⟨hna, nd⟩) ?_
  have : ers (p :: as) (upd H1 p (.lst vs)) = ers as H1 := by
    funext a
    by_cases c : a = p
    · rw [c, ers_in (List.Mem.head _), ers_ne hna, hp]
    · by_cases c' : a ∈ as
      · rw [ers_in c', ers_in (List.Mem.tail _ c')]
      · rw [ers_ne c', ers_ne (by simp [c, c']), upd_ne c]
  rw [this]
  exact st1
/-- what was hidden goes to a slot -/
theorem St8.newTree {e : Slots} {σ : L2.St} {F H : Hp} {i : Nat} {v : V} {d : D} {as : List Addr} (st : St8 C e σ F (ers as H)) (o : Own C.T F H v d as) (nd : as.Nodup) : St8 C (e.set i (some (.tree d))) (σ.set i (some v)) F H := by
  have fr : ∀ a ∈ as, C.Fr a := fun a ha => .inl (st.step.dom a (ers_in ha))
  refine ⟨⟨st.step.fz, st.step.new, fun a u h m => (ers_some (st.step.keep a u h m)).2, fun a h => st.step.dom a ?_⟩, fun a u h => (ers_some (st.sub a u h)).2, ?_, by rw [List.length_set, List.length_set]; exact st.len⟩
  · by_cases c : a ∈ as
    · exact ers_in c
    · rw [ers_ne c]; exact h
  · obtain ⟨A, h1, h2⟩ := id st.env
    have out : ∀ j a, a ∈ A j → a ∉ as := fun j a ha => by
      obtain ⟨⟨u, e1, _⟩, _⟩ := (h1 j).own_some a ha
      exact (ers_some e1).1
    have h1' : ∀ j, SlotOk C.T C.Fr F H (e[j]?.join) (σ[j]?.join) (A j) := fun j => (h1 j).move (Same.refl F) fun a ha => ⟨(ers_ne (out j a ha)).symm, ((h1 j).own_some a ha).2.1⟩
    by_cases hei : i < e.length
    · refine ⟨fun j => if j = i then as else A j, fun j => ?_, fun j k a ha hb => ?_⟩
      · by_cases c : j = i
        · subst c
          rw [join_set_self hei, join_set_self (Nat.lt_of_lt_of_le hei st.len), if_pos rfl]
          exact ⟨v, rfl, o, nd, fr⟩
        · rw [join_set_ne (Ne.symm c), join_set_ne (Ne.symm c), if_neg c]
          exact h1' j
      · by_cases c : j = i
        · by_cases c' : k = i
          · rw [c, c']
          · rw [if_pos c] at ha
            rw [if_neg c'] at hb
            exact absurd ha (out k a hb)
        · by_cases c' : k = i
          · rw [if_neg c] at ha
            rw [if_pos c'] at hb
            exact absurd hb (out j a ha)
          · rw [if_neg c] at ha
            rw [if_neg c'] at hb
            exact h2 j k a ha hb
    · rw [List.set_eq_of_length_le (by omega)]
      refine ⟨A, fun j => ?_, h2⟩
      by_cases c : j = i
      · subst c
        have z := h1' j
        rw [List.getElem?_eq_none (by omega)] at z ⊢
        exact z
      · rw [join_set_ne (Ne.symm c)]
        exact h1' j
/-- x = e -/
theorem jb_setTree (i : Nat) {x : Str} {e : Expr} {pos' : Pos} {me : τ → R (List D × τ)} {k : List D → τ → R (Fl α β × τ)} (he : JENL C φ e me) (hk : ∀ ds, JB C (fun s => (φ s).set i (some (.tree (.fre ds)))) rest ψ χ ρ (k ds))
    (hi : C.X.N[i]? = some x := by rfl) (hx : Loc C.X.env.scope x := by first | exact Or.inl rfl | exact Or.inr rfl) (hs : swapsWith e (some (.Name x pos')) pos.line C.X.env = pure false := by rfl)
    (hf : C.X.fn x = true ∨ C.X.env.scope.names.lookup x = some .local := by first | exact .inl rfl | exact .inr rfl) :
    JB C φ (.Assign [.Name x pos'] e pos :: rest) ψ χ ρ (fun s => (me s).bind fun p => k p.1 p.2) := fun g s σ F H Dn st h => by
  refine ⟨_, pss_cons (ps_set g.nd hi hx pe_wp hs hf) ps_wp, ?_⟩
  refine he g s σ F H _ st (h.bind.mono fun d s1 h1 v as F1 H1 e1 o nd st1 => ?_)
  exact hk d g s1 _ F1 _ Dn (st1.newTree o nd) (h1.mono fun f s2 => FlPost.mono e1)
theorem Owns.put {T : Txt} {F H : Hp} {es : List D} : ∀ {vs : List V} {ds : List D} {as : List Addr} {j : Nat}, Owns T F H vs ds as → as.Nodup → ds[j]? = some (.fre es) →
    ∃ l ys bs, vs[j]? = some (.ref l) ∧ H l = some (.lst ys) ∧ l ∈ as ∧ Owns T F H ys es bs ∧ l ∉ bs ∧
      ∀ ys' es', Owns T F (upd H l (.lst ys')) ys' es' bs → Owns T F (upd H l (.lst ys')) vs (ds.set j (.fre es')) as
  | _, _, _, j, .nil, _, h => by simp at h
  | _, _, _, 0, .cons (as := as1) (bs := bs1) o r, nd, h => by
    have e := Option.some.inj h
    subst e
    obtain ⟨n1, n2, n3⟩ := List.nodup_append.mp nd
    cases o with
    | val r => exact (not_fre r).elim
    | @lst l ys _ cs hl nf q =>
      obtain ⟨m1, m2⟩ := List.nodup_cons.mp n1
      refine ⟨l, ys, cs, rfl, hl, List.mem_append.mpr (.inl (List.Mem.head _)), q, m1, fun ys' es' z => .cons (.lst upd_same nf z) (r.move (Same.refl _) fun a ha => ⟨upd_ne fun y => n3 l (List.Mem.head _) a ha y.symm, (r.mem a ha).2⟩)⟩
  | _, _, _, j + 1, .cons (as := as1) (bs := bs1) o r, nd, h => by
    obtain ⟨n1, n2, n3⟩ := List.nodup_append.mp nd
    obtain ⟨l, ys, cs, h1, h2, h3, h4, h5, h6⟩ := Owns.put (j := j) r n2 (by simpa using h)
    exact ⟨l, ys, cs, by simpa using h1, h2, List.mem_append.mpr (.inr h3), h4, h5, fun ys' es' z => .cons (o.move (Same.refl _) fun a ha => ⟨upd_ne fun y => n3 a ha l h3 y, (o.mem a ha).2⟩) (h6 ys' es' z)⟩
theorem SlotsOk.treeAt {T : Txt} {Fr : Addr → Prop} {F H : Hp} {e : Slots} {σ : L2.St} {i : Nat} {ws : List D} (h : SlotsOk T Fr F H e σ) (hi : e[i]?.join = some (.tree (.fre ws))) :
    ∃ l xs as, σ[i]? = some (some (.ref l)) ∧ H l = some (.lst xs) ∧ F l = none ∧ Owns T F H xs ws as ∧ (l :: as).Nodup ∧ (∀ a ∈ l :: as, Fr a) ∧
      ∀ (H' : Hp) (d' : D) (a0 : Addr), a0 ∈ l :: as → (∀ a, a ≠ a0 → H' a = H a) → Own T F H' (.ref l) d' (l :: as) → SlotsOk T Fr F H' (e.set i (some (.tree d'))) σ := by
  obtain ⟨A, h1, h2⟩ := h
  have q := h1 i
  rw [hi] at q
  obtain ⟨x, e1, o, nd, fr⟩ := q
  have he : i < e.length := by
    by_cases c : i < e.length
    · exact c
    · rw [List.getElem?_eq_none (by simpa using c)] at hi; cases hi
  generalize hA : A i = AA at o nd fr
  cases o with
  | val r => exact (not_fre r).elim
  | @lst l xs _ as hl nf r =>
    have hv : σ[i]? = some (some (.ref l)) := by
      cases z : σ[i]? with
      | none => rw [z] at e1; cases e1
      | some w => rw [z] at e1; rw [show w = some (V.ref l) from e1]
    refine ⟨l, xs, as, hv, hl, nf, r, nd, fr, fun H' d' a0 ha0 hs ow => ⟨A, fun j => ?_, h2⟩⟩
    by_cases c : j = i
    · subst c
      rw [join_set_self he, e1, hA]
      exact ⟨_, rfl, ow, nd, fr⟩
    · rw [join_set_ne (Ne.symm c)]
      refine (h1 j).move (Same.refl F) fun a ha => ⟨hs a fun z => c (h2 j i a ha (by rw [hA, z]; exact ha0)), ((h1 j).own_some a ha).2.1⟩
/-- x[a].append(e), e only looks -/
theorem jb_appTree (i : Nat) {f : τ → List D} {x : Str} {a e : Expr} {p1 p2 ap cp : Pos} {ma : τ → R (D × τ)} {me : τ → Unit → R (D × Unit)} {k : List D → τ → R (Fl α β × τ)} (ha : JE C φ a ma)
    (he : ∀ s F0 H0, JE (lookCtx C F0 H0) (fun _ : Unit => view (φ s)) e (me s)) (hk : ∀ ds, JB C (fun s => (φ s).set i (some (.tree (.fre ds)))) rest ψ χ ρ (k ds)) (hpl0 : PlainIx a := by intro _ _; rfl)
    (hi : ∀ s, (φ s)[i]?.join = some (.tree (.fre (f s))) := by intro _; rfl) (hN : C.X.N[i]? = some x := by rfl) (hv : Vis C.X.env.scope x := by first | exact Or.inl rfl | exact Or.inr (Or.inl rfl) | exact Or.inr (Or.inr rfl)) (hd : (x == ("__debug__" : Str)) = false := by decide) (hcd : (x == ("__classdict__" : Str)) = false := by decide)
    (hs : swapsWith (.Call (.Attribute (.Subscript (.Name x p1) a p2) "append" ap) [e] [] cp) none pos.line C.X.env = pure false := by rfl) (hbase : attributeBase (.Subscript (.Name x p1) a p2) "append" C.X.env (eval (.Subscript (.Name x p1) a p2) C.X.env) = eval (.Subscript (.Name x p1) a p2) C.X.env := by rfl)
    (hfew : ((backTo cp (starEach (e :: []) C.X.env)).all (fun x => !x.1) && (backToKw cp (keywordEach [] C.X.env)).all (fun x => x.1.isSome) && decide ((e :: []).length + ([] : List Keyword).length + (if ([] : List Keyword).isEmpty then 0 else 1) < 30)) = true := by rfl)
    (hline : (ap.endLine == cp.line) = true := by rfl) (hst : starEach (e :: []) C.X.env = (false, eval e C.X.env) :: starEach [] C.X.env := by rfl) (hpl : (backTo cp (starEach [] C.X.env)).any (·.1) = false := by rfl) :
    JB C φ (.Expr (.Call (.Attribute (.Subscript (.Name x p1) a p2) "append" ap) [e] [] cp) pos :: rest) ψ χ ρ (fun s => (ma s).bind fun p => (asInt p.1).bind fun j => (opt (ixN (f p.2).length j)).bind fun n =>
      (opt ((f p.2)[n]?)).bind fun w => (asFre w).bind fun es => (noErr (me p.2 ())).bind fun d => (chk (noLst d.1 && decide (es.length < 1000000)) ()).bind fun _ => k ((f p.2).set n (.fre (es ++ [d.1]))) p.2) := fun g s σ F H Dn st h => by
  refine ⟨_, pss_cons (ps_expr (pe_bm PySem.F.plainAttrs_list PySem.F.slot_list_append PySem.F.type_list_append mt_append (pe_ix ix_list (pe_var hN hv hd hcd) pe_wp hpl0) (pa_cons pe_wp pa_nil hst) hbase hfew hline hst hpl) hs) ps_wp, ?_⟩
  obtain ⟨l, xs, as, e1, e2, _⟩ := st.env.treeAt (hi s)
  refine ⟨.ref l, e1, ?_⟩
  refine ha g s σ F H _ st (h.bind.mono fun d1 s1 h1 v1 F1 H1 ee r1 st1 => ?_)
  have h2 := h1.bind1
  cases r1 with
  | int j =>
    obtain ⟨n, hn, h3⟩ := (show Srv C ((opt (ixN (f s1).length j)).bind fun _ => _) _ from h2).bind1.opt
    obtain ⟨w, hw, h4⟩ := h3.bind1.opt
    cases w with
    | fre es =>
      have h5 := (show Srv C ((noErr (me s1 ())).bind fun d => _) _ from h4)
      obtain ⟨⟨d, _⟩, em, h6⟩ := noErr_srv h5.bind1
      obtain ⟨c, h7⟩ := h6.bind1.chk
      obtain ⟨c1, c2⟩ := and2 c
      obtain ⟨l1, xs1, as1, q1, q2, q3, q4, q5, q6, _⟩ := st1.env.treeAt (hi s1)
      rw [e1] at q1
      cases q1
      obtain ⟨l2, ys, bs, w1, w2, w3, w4, w5, w6⟩ := q4.put (List.nodup_cons.mp q5).2 hw
      have hn' : ixN xs1.length j = some n := by rw [q4.length]; exact hn
      obtain ⟨z1, z2, z3⟩ := ixN_seq hn'
      refine ⟨l, xs1, j, .ref l2, rfl, rfl, .inl (.inl q2), ?_, .inl ⟨rfl, ys, .inl (.inl w2)⟩, ?_⟩
      · unfold atI
        rw [hn']
        exact w1
      obtain ⟨F1', sF, s0, back⟩ := borrow_core st1
      refine he s1 F1' H1 g.look () σ F1' H1 _ s0 ?_
      rw [em]
      intro v F' H' ee2 r2 st2
      obtain ⟨F2, k1, k2, k3⟩ := back F' H' ee2 st2
      have keep : ∀ a o, H1 a = some o → H' a = some o := fun a o h => st2.step.keep a o h fun z => z
      obtain ⟨l1, xs2, as2, y1, y2, y3, y4, y5, y6, y7⟩ := k2.env.treeAt (hi s1)
      rw [e1] at y1
      cases y1
      rw [keep _ _ q2] at y2
      cases y2
      obtain ⟨l3, ys2, bs2, w1', w2', w3', w4', w5', w6'⟩ := y4.put (List.nodup_cons.mp y5).2 hw
      rw [w1] at w1'
      cases w1'
      rw [keep _ _ w2] at w2'
      cases w2'
      refine ⟨l2, ys, v, rfl, rfl, keep _ _ w2, Nat.lt_of_lt_of_le (by rw [w4.length]; exact of_decide_eq_true c2) (sz_small (Nat.le_refl _)), ?_⟩
      have rv := k3 v d c1 r2
      have hl2 : F2 l2 = none := (y4.mem l2 w3').2
      have fr2 : C.Fr l2 := y6 l2 (List.Mem.tail _ w3')
      have ne : l ≠ l2 := fun z => (List.nodup_cons.mp y5).1 (z ▸ w3')
      have ow : Own C.T F2 (upd H' l2 (.lst (ys ++ [v]))) (.ref l) (.fre ((f s1).set n (.fre (es ++ [d])))) (l :: as2) :=
        .lst (by rw [upd_ne ne]; exact keep _ _ q2) y3 (w6' _ _ (by
          have := (w4'.move (H' := upd H' l2 (.lst (ys ++ [v]))) (Same.refl F2) fun a ha => ⟨upd_ne fun z => w5' (z ▸ ha), (w4'.mem a ha).2⟩).append (Owns.of (H := upd H' l2 (.lst (ys ++ [v]))) (Rps.one rv))
          rw [List.append_nil] at this
          exact this))
      refine hk _ g s1 _ F2 _ Dn ⟨⟨k2.step.fz, k2.step.new, fun b o hb m => ?_, fun b hb => ?_⟩, fun b o hb => ?_, y7 _ _ l2 (List.Mem.tail _ w3') (fun b hb => upd_ne hb) ow, by rw [List.length_set]; exact k2.len⟩ (h7.mono fun f s2 => FlPost.mono (ee.trans k1))
      · have nb : b ≠ l2 := fun z => by
          rcases fr2 with z' | z'
          · rw [z, z'] at hb; cases hb
          · exact m (by rw [z]; exact z')
        rw [upd_ne nb]
        exact k2.step.keep b o hb m
      · by_cases cc : b = l2
        · rw [cc, upd_same] at hb; cases hb
        · rw [upd_ne cc] at hb
          exact k2.step.dom b hb
      · have nb : b ≠ l2 := fun z => by rw [z, hl2] at hb; cases hb
        rw [upd_ne nb]
        exact k2.sub b o hb
    | _ => exact h4.elim
  | _ => exact h2.elim
/-- nobody changes it any more -/
theorem jb_freezeTree (i : Nat) {f : τ → List D} {k : τ → R (Fl α β × τ)} (hk : JB C (fun s => (φ s).set i (some (.val (.lst (unfs (f s)))))) rest ψ χ ρ k) (hi : ∀ s, (φ s)[i]?.join = some (.tree (.fre (f s))) := by intro _; rfl) : JB C φ rest ψ χ ρ k := fun g s σ F H Dn st h => by
  obtain ⟨A, h1, h2⟩ := id st.env
  have q := h1 i
  rw [hi s] at q
  obtain ⟨x, e1, o, nd, fr⟩ := q
  have he : i < (φ s).length := by
    by_cases c : i < (φ s).length
    · exact c
    · have := hi s
      rw [List.getElem?_eq_none (by simpa using c)] at this; cases this
  let F1 : Hp := fun a => if a ∈ A i then H a else F a
  have s1 : Same F F1 := fun a u z => by
    show (if a ∈ A i then H a else F a) = some u
    rw [if_neg fun y => by rw [(o.mem a y).2] at z; cases z]
    exact z
  have r : Rp C.T F1 x (unf (.fre (f s))) := o.rp s1 fun a ha => if_pos ha
  refine hk g s σ F1 H Dn ⟨⟨st.step.fz.trans s1, fun a u z => ?_, st.step.keep, st.step.dom⟩, fun a u z => ?_, ⟨fun j => if j = i then [] else A j, fun j => ?_, fun j k a ha hb => ?_⟩, by rw [List.length_set]; exact st.len⟩ (h.mono fun f s2 => FlPost.mono s1)
  · by_cases c : a ∈ A i
    · exact .inr ((fr a c).imp .inl id)
    · exact st.step.new a u ((show F1 a = F a from if_neg c).symm.trans z)
  · by_cases c : a ∈ A i
    · exact (show F1 a = H a from if_pos c).symm.trans z
    · exact st.sub a u ((show F1 a = F a from if_neg c).symm.trans z)
  · by_cases c : j = i
    · subst c
      rw [join_set_self he, if_pos rfl]
      rw [unf] at r
      exact ⟨rfl, x, e1, r⟩
    · rw [join_set_ne (Ne.symm c), if_neg c]
      refine (h1 j).move s1 fun a ha => ⟨rfl, ?_⟩
      have ne : a ∉ A i := fun z => c (h2 j i a ha z)
      exact (show F1 a = F a from if_neg ne).trans ((h1 j).own_some a ha).2.1
  · by_cases c : j = i
    · simp [c] at ha
    · by_cases c' : k = i
      · simp [c'] at hb
      · rw [if_neg c] at ha
        rw [if_neg c'] at hb
        exact h2 j k a ha hb
end
end Pv
set_option Elab.async false
set_option linter.all false
set_option maxRecDepth 100000
/-! PvV: a list many times over, as one's own; max and min of a list; a, b = [..], e. -/
namespace Pv
open PySem PySem.Spec PyProof.Rows L2
section
variable {C : Ctx} {τ α β : Type} {φ : τ → Slots} {ψ : α → τ → Slots} {χ : β → τ → Slots} {ρ : τ → Slots} {rest : List Stmt} {pos : Pos}
def repD (d : D) (e : D) : R (List D) := match d, e with
  | .lst xs, .int k => chk (decide (k < 1000000) && decide (0 ≤ k) && decide (xs.length * k.toNat ≤ 1000000)) (List.replicate k.toNat xs).flatten
  | _, _ => .bad
theorem jel_rep {a b : Expr} {ma mb : τ → R (D × τ)} (ha : JE C φ a ma) (hb : JE C φ b mb) :
    JEL C φ (.BinOp a .Mult b pos) (fun s => (ma s).bind fun p => (mb p.2).bind fun q => (repD p.1 q.1).bind fun ds => .ok (ds, q.2)) := fun gd s σ F H Q st h => by
  refine ⟨_, pe_op op_rep pe_wp pe_wp, ?_⟩
  refine ha gd s σ F H _ st (h.bind.mono fun dx s1 h1 vx F1 H1 e1 r1 st1 => ?_)
  refine hb gd s1 σ F1 H1 _ st1 (h1.bind.mono fun dy s2 h2 vy F2 H2 e2 r2 st2 => ?_)
  have h3 := h2.bind1
  cases r1 with
  | @lst a xs ds ha ra =>
    cases r2 with
    | int k =>
      obtain ⟨c, h4⟩ := (show Srv1 C (chk _ _) _ from h3).chk
      have c1 := of_decide_eq_true (and2 (and2 c).1).1
      have c2 := of_decide_eq_true (and2 (and2 c).1).2
      have c3 := of_decide_eq_true (and2 c).2
      exact ⟨a, k, xs, rfl, rfl, st2.sub _ _ (e2 _ _ ha), by omega, by omega, sz_small (by rw [ra.length]; exact c3), fun p hp => h4 p _ F2 H2 (e1.trans e2) hp ((rep_rps ra _).mono e2) st2⟩
    | _ => exact h3.elim
  | _ => exact h3.elim
def maxL : List Int → Int
  | [] => 0
  | [x] => x
  | x :: xs => if maxL xs > x then maxL xs else x
def minL : List Int → Int
  | [] => 0
  | [x] => x
  | x :: xs => if minL xs < x then minL xs else x
theorem maxL_spec : ∀ {ns : List Int}, ns ≠ [] → maxL ns ∈ ns ∧ ∀ y ∈ ns, y ≤ maxL ns
  | [x], _ => ⟨List.Mem.head _, fun y hy => by rw [List.mem_singleton.mp hy]; exact Int.le_refl _⟩
  | x :: z :: xs, _ => by
    obtain ⟨h1, h2⟩ := maxL_spec (ns := z :: xs) (by simp)
    have e : maxL (x :: z :: xs) = if maxL (z :: xs) > x then maxL (z :: xs) else x := rfl
    rw [e]
    split
    · rename_i c
      exact ⟨List.Mem.tail _ h1, fun y hy => by
        rcases List.mem_cons.mp hy with q | q
        · rw [q]; omega
        · exact h2 y q⟩
    · rename_i c
      exact ⟨List.Mem.head _, fun y hy => by
        rcases List.mem_cons.mp hy with q | q
        · rw [q]; omega
        · have := h2 y q; omega⟩
theorem minL_spec : ∀ {ns : List Int}, ns ≠ [] → minL ns ∈ ns ∧ ∀ y ∈ ns, minL ns ≤ y
  | [x], _ => ⟨List.Mem.head _, fun y hy => by rw [List.mem_singleton.mp hy]; exact Int.le_refl _⟩
  | x :: z :: xs, _ => by
    obtain ⟨h1, h2⟩ := minL_spec (ns := z :: xs) (by simp)
    have e : minL (x :: z :: xs) = if minL (z :: xs) < x then minL (z :: xs) else x := rfl
    rw [e]
    split
    · rename_i c
      exact ⟨List.Mem.tail _ h1, fun y hy => by
        rcases List.mem_cons.mp hy with q | q
        · rw [q]; omega
        · exact h2 y q⟩
    · rename_i c
      exact ⟨List.Mem.head _, fun y hy => by
        rcases List.mem_cons.mp hy with q | q
        · rw [q]; omega
        · have := h2 y q; omega⟩
def bMax1 : D → R D
  | .lst xs => (opt (asInts xs)).bind fun ns => chk (!ns.isEmpty) (.int (maxL ns))
  | _ => .bad
def bMin1 : D → R D
  | .lst xs => (opt (asInts xs)).bind fun ns => chk (!ns.isEmpty) (.int (minL ns))
  | _ => .bad
theorem cd_max1 (hh : C.hot = false := by rfl) : CallD C (.builtin "max") (d1 bMax1) := cald1 fun g F H Q v d sub r h => by
  cases r with
  | @lst a xs ds hl rl =>
    obtain ⟨bs, e, k⟩ := Srv1.opt (Srv1.bind h)
    obtain ⟨c, k⟩ := Srv1.chk k
    have ne : bs ≠ [] := fun z => by rw [z] at c; cases c
    obtain ⟨m1, m2⟩ := maxL_spec ne
    refine ⟨_, cr_max (g.calm hh), a, bs, rfl, .inl (.inl (by rw [← ints_rps rl e]; exact sub _ _ hl)), List.length_pos_iff.mpr ne, fun m h1 h2 => ?_⟩
    have : m = maxL bs := by have a1 := m2 m h1; have a2 := h2 _ m1; omega
    rw [this]
    exact giveOld sub k (.int _)
  | _ => exact h.elim
theorem cd_min1 (hh : C.hot = false := by rfl) : CallD C (.builtin "min") (d1 bMin1) := cald1 fun g F H Q v d sub r h => by
  cases r with
  | @lst a xs ds hl rl =>
    obtain ⟨bs, e, k⟩ := Srv1.opt (Srv1.bind h)
    obtain ⟨c, k⟩ := Srv1.chk k
    have ne : bs ≠ [] := fun z => by rw [z] at c; cases c
    obtain ⟨m1, m2⟩ := minL_spec ne
    refine ⟨_, cr_min (g.calm hh), a, bs, rfl, .inl (.inl (by rw [← ints_rps rl e]; exact sub _ _ hl)), List.length_pos_iff.mpr ne, fun m h1 h2 => ?_⟩
    have : m = minL bs := by have a1 := m2 m h1; have a2 := h2 _ m1; omega
    rw [this]
    exact giveOld sub k (.int _)
  | _ => exact h.elim
/-- sorted of a list of numbers, or of pairs -/
def sortI (ns : List Int) : List Int := ns.mergeSort fun a b => decide (a ≤ b)
theorem sortI_pw (ns : List Int) : (sortI ns).Pairwise (· ≤ ·) := by
  have z := List.pairwise_mergeSort (le := fun a b : Int => decide (a ≤ b)) (fun a b c x y => by simp at x y ⊢; omega) (fun a b => by simp; omega) ns
  exact z.imp fun {a b} y => by simpa using y
theorem sortI_perm (ns : List Int) : (sortI ns).Perm ns := List.mergeSort_perm _ _
theorem sortI_eq {ns ms : List Int} (h : ms.Pairwise (· ≤ ·)) (p : ms.Perm ns) : ms = sortI ns :=
  List.Perm.eq_of_pairwise (le := fun a b : Int => a ≤ b) (fun a b _ _ x y => Int.le_antisymm x y) h (sortI_pw ns) (p.trans (sortI_perm ns).symm)
def intsOf : D → Option (List Int)
  | .lst (.int i :: xs) => asInts (.int i :: xs)
  | _ => none
def bSorted2 (d : D) : R D := match intsOf d with
  | some ns => .ok (.lst ((sortI ns).map .int))
  | none => bSorted d
theorem bSorted2_pairs (ps : List (Int × Int)) : bSorted2 (.lst (ps.map pairD)) = bSorted (.lst (ps.map pairD)) := by cases ps <;> rfl
theorem bSorted2_tup (xs : List D) : bSorted2 (.tup xs) = bSorted (.tup xs) := rfl
theorem bSorted2_ints (ns : List Int) : bSorted2 (.lst (ns.map .int)) = .ok (.lst ((sortI ns).map .int)) := by
  cases ns with
  | nil => simp [bSorted2, intsOf, bSorted, asItems, asPairs, opt, sortI]
  | cons n ns =>
    have e : ∀ ns : List Int, asInts (ns.map .int) = some ns := fun ns => by
      induction ns with
      | nil => rfl
      | cons n ns ih =>
        rw [List.map_cons]
        show (asInts (ns.map .int)).map (n :: ·) = _
        rw [ih]; rfl
    have : intsOf (.lst ((n :: ns).map .int)) = some (n :: ns) := e (n :: ns)
    unfold bSorted2
    rw [this]
theorem cd_sorted2 : CallD C (.builtin "sorted") (d1 bSorted2) := fun g => by
  obtain ⟨r, hr, hs⟩ := cd_sorted (C := C) g
  refine (cald1 (f := .builtin "sorted") (g := bSorted2) fun g F H Q v d sub rv h => ?_) g
  cases q : intsOf d with
  | none =>
    unfold bSorted2 at h
    rw [q] at h
    exact ⟨r, hr, hs F H Q [v] [d] sub (.cons rv .nil) h⟩
  | some ns =>
    unfold bSorted2 at h
    rw [q] at h
    cases rv with
    | @lst a xs ds hl rl =>
      have e : asInts ds = some ns := by
        cases ds with
        | nil => cases q
        | cons x ds => cases x <;> first | exact q | cases q
      refine ⟨_, cr_sortedI, a, ns, rfl, .inl (.inl (by rw [← ints_rps rl e]; exact sub _ _ hl)), fun ms p h1 h2 hp => giveNew sub h hp fun s e => .lst e ?_⟩
      rw [sortI_eq h2 h1]
      exact Rps.ints _
    | _ => cases q
/-- a, b = [..], e -/
theorem jb_par2lv (i j : Nat) {x y : Str} {a b : Expr} {px py pt : Pos} {kt k2 pt2} {ma : τ → R (List D × τ)} {mb : τ → R (D × τ)} {k : List D → D → τ → R (Fl α β × τ)} (ha : JEL C φ a ma) (hb : ∀ p F H, JE (hidCtx C p F H) φ b mb) (hk : ∀ ds d, JB C (fun s => ((φ s).set j (some (.val d))).set i (some (.own ds))) rest ψ χ ρ (k ds d)) (hh : C.hot = false := by rfl)
    (hi : C.X.N[i]? = some x := by rfl) (hj : C.X.N[j]? = some y := by rfl) (hij : i ≠ j := by decide) (hx : C.X.env.scope.names.lookup x = some .local := by rfl) (hy : C.X.env.scope.names.lookup y = some .local := by rfl)
    (hw : swappedStores [.Tuple [.Name x px, .Name y py] kt pt] (.Tuple [a, b] k2 pt2) C.X.env = pure (some [x, y]) := by rfl) (hs : swapsWithSole [.Tuple [.Name x px, .Name y py] kt pt] (.Tuple [a, b] k2 pt2) pos.line C.X.env = pure false := by rfl)
    (h1 : starEach [a, b] C.X.env = (false, eval a C.X.env) :: starEach [b] C.X.env := by rfl) (h2 : starEach [b] C.X.env = (false, eval b C.X.env) :: starEach [] C.X.env := by rfl) :
    JB C φ (.Assign [.Tuple [.Name x px, .Name y py] kt pt] (.Tuple [a, b] k2 pt2) pos :: rest) ψ χ ρ (fun s => (ma s).bind fun p => (noErr (mb p.2)).bind fun q => k p.1 q.1 q.2) := fun g s σ F H Dn st h => by
  refine ⟨_, pss_cons (ps_par (g.calm hh) g.nd hi hj hij hx hy (pa_cons pe_wp (pa_cons pe_wp pa_nil h2) h1) hw hs) ps_wp, ?_⟩
  refine ha g s σ F H _ st (h.bind.mono fun ds s1 h1 l xs F1 H1 e1 hl r1 st1 => ?_)
  obtain ⟨d, s2, em, h2⟩ := noErr_any (K := fun r => Srv C r _) (fun z => z) h1
  have st0 : St8 C (φ s1) σ F1 (er l (upd H1 l (.lst xs))) := by rw [er_upd hl]; exact st1
  refine hb l F1 _ (g.hid l F1 _) s1 σ F1 _ _ (st0.intoH upd_same) ?_
  rw [em]
  intro v F2 H2 e2 r2 st2
  obtain ⟨k1, k2, k3⟩ := st0.outofH upd_same st2
  refine ⟨_, _, rfl, ?_⟩
  have eu : upd (er l H2) l (.lst xs) = H2 := upd_er k1
  have z := (k3.setVal (i := j) r2).newOwn (i := i) er_same (r1.mono e2)
  rw [eu] at z
  have := hk ds d g s2 _ F2 _ Dn z (Srv.mono h2 fun f s' => FlPost.mono (e1.trans e2))
  rw [List.set_comm _ _ hij]
  exact this
def partLst (n : Nat) : D → Option (List D)
  | .lst ds => if ds.length = n then some ds else none
  | _ => none
theorem jg_lst {es : List Expr} {k : Nat} {p : Pos} {is : List Nat} (h : JGs C es is) (hn : (assignEach es C.X.env).length = is.length := by rfl) (hst : (assignEach es C.X.env).findIdx? (·.1) = none := by rfl) (hc : C.hot = false := by rfl) :
    JG C (.Tuple es k p) is (partLst is.length) := fun g env σ F H v d ds Q st r e hs => by
  cases r with
  | @lst a xs ds' hq rr =>
    have e : (if ds'.length = is.length then some ds' else none) = some ds := e
    by_cases c : ds'.length = is.length
    · rw [if_pos c] at e
      cases e
      exact ⟨_, pg_lst (g.calm hc) pgs_wp hn hst, a, xs, rfl, by rw [g.K]; exact .inl (.inl (st.sub _ _ hq)), by rw [rr.length]; exact c, h g env σ F H xs _ Q st rr c hs⟩
    · rw [if_neg c] at e
      cases e
  | _ => cases e
theorem jb_unp2l (i j : Nat) {tg e : Expr} {me : τ → R (D × τ)} {k : D → D → τ → R (Fl α β × τ)} (he : JE C φ e me) (hg : JG C tg [i, j] (partLst 2)) (hk : ∀ d e, JB C (fun s => ((φ s).set i (some (.val d))).set j (some (.val e))) rest ψ χ ρ (k d e))
    (hs : swapsWithSole [tg] e pos.line C.X.env = pure false := by rfl) (hw : swappedStores [tg] e C.X.env = pure none := by rfl) (h1 : (assignEach [tg] C.X.env).map (·.2) = [assign tg C.X.env] := by rfl) :
    JB C φ (.Assign [tg] e pos :: rest) ψ χ ρ (fun s => (me s).bind fun p => (opt (partLst 2 p.1)).bind fun ds => ar2 (fun _ => .bad) k ds p.2) :=
  jb_unp (k := ar2 (fun _ => .bad) k) he hg (fun ds => match ds with
    | [d, e] => hk d e
    | [] => fun g s σ F H Dn st h => h.elim
    | [_] => fun g s σ F H Dn st h => h.elim
    | _ :: _ :: _ :: _ => fun g s σ F H Dn st h => h.elim) hs hw h1
theorem jb_unp3l (i j l : Nat) {tg e : Expr} {me : τ → R (D × τ)} {k : D → D → D → τ → R (Fl α β × τ)} (he : JE C φ e me) (hg : JG C tg [i, j, l] (partLst 3)) (hk : ∀ d e f, JB C (fun s => (((φ s).set i (some (.val d))).set j (some (.val e))).set l (some (.val f))) rest ψ χ ρ (k d e f))
    (hs : swapsWithSole [tg] e pos.line C.X.env = pure false := by rfl) (hw : swappedStores [tg] e C.X.env = pure none := by rfl) (h1 : (assignEach [tg] C.X.env).map (·.2) = [assign tg C.X.env] := by rfl) :
    JB C φ (.Assign [tg] e pos :: rest) ψ χ ρ (fun s => (me s).bind fun p => (opt (partLst 3 p.1)).bind fun ds => ar3 (fun _ => .bad) k ds p.2) :=
  jb_unp (k := ar3 (fun _ => .bad) k) he hg (fun ds => match ds with
    | [d, e, f] => hk d e f
    | [] => fun g s σ F H Dn st h => h.elim
    | [_] => fun g s σ F H Dn st h => h.elim
    | [_, _] => fun g s σ F H Dn st h => h.elim
    | _ :: _ :: _ :: _ :: _ => fun g s σ F H Dn st h => h.elim) hs hw h1
end
end Pv
set_option Elab.async false
set_option linter.all false
set_option maxRecDepth 100000
/-! PvZ: a dict is no tuple. -/
namespace Pv
open PySem PySem.Spec PyProof.Rows L2
theorem tuple_eq_declines_dict (l b : Addr) (items : Array Value) (n : Nat) (dd : Option Addr) (sl : Array (Option Value)) (od : Obj) (hc : od.cls = .type "dict") :
    Meets (Builtin.«tuple.__eq__» ⟨[.ref l, .ref b], []⟩) (fun _ R s => s.heap.get? l = some { cls := .type "tuple", dict := dd, data := .seq items n, slots := sl } ∧ s.heap.get? b = some od ∧ R (.ok (.ret .notImplemented)) s) :=
  .of_wp fun prog w A R s h => by
    obtain ⟨hp, g, d, tk, os⟩ := s
    obtain ⟨hl, hb, h⟩ := h
    obtain ⟨c, dd2, da2, sl2⟩ := od
    cases hc
    have f1 := F.sub_dict_tuple
    wp_walk using AutoSeq1.wpAny_loadPart' hl, AutoSeq1.wpAny_loadPart' hb
    exact ⟨_, rfl, h⟩
def rEqDT (K : PySem.W.Frag) : R2 := fun x y H Q => ∃ a b kvs xs, x = .ref a ∧ y = .ref b ∧ H a = some (.dK kvs) ∧ SqT K H b xs ∧ Q (.bl false) H
theorem op_eqDT {X : Cx} (hu : X.A.units + 64 < cLine) : OpR X (compareOp .Eq) (rEqDT X.K) := by
  intro pins s σ H x y v u Q I rx ry h
  obtain ⟨a, b, kvs, xs, rfl, rfl, ha, hb, q⟩ := h
  cases rx
  cases ry
  obtain ⟨hz, hs, vs, hr, da⟩ := I.hok _ _ ha
  obtain ⟨its, rv, ⟨ob, hob, hcb, n, hdb⟩, _⟩ := I.tuple hb
  obtain ⟨cb, ddb, dtb, slb⟩ := ob
  cases hcb
  cases hdb
  have ta := da.typeIs
  have tb : s.TypeIs (.ref b) "tuple" := ⟨_, hob, rfl⟩
  obtain ⟨oa, hoa, hca⟩ := ta
  show wpAny _ _ (richCompare .Eq (.ref a) (.ref b)) _ _ s
  refine SeqAt.rc_eq_decline_or (k := false) da.typeIs tb (by decide) F.sub_tuple_dict F.slot_dict_eq F.slot_tuple_eq_refl (fun Q' hq => ?_) (fun Q' hq => ?_) (fun Q' hq => ?_) (.inr (by omega)) ⟨.bl false, H, I, rfl, q⟩
  · refine wpAny_call_entry PySem.F.slot_dict_eq da.typeIs PySem.F.entry_dict_eq ?_ (PySem.F.args_dict_eq_2 _ _)
    show wpAny _ _ (Builtin.Dict.dictSlotArgs "__eq__" ⟨[.ref a, .ref b], []⟩ >>= _) _ _ s
    refine wpAny_bind ?_
    unfold Builtin.Dict.dictSlotArgs
    refine wpAny_bind (wpAny_notOrdered_dict da.typeIs ?_)
    show wpAny _ _ (pure (Value.ref a, Value.ref b)) _ _ s
    refine wpAny_pure ?_
    refine wpAny_bind (wpAny_isInstance (T := "tuple") (U := "dict") tb F.sub_tuple_dict ?_)
    simp only [Bool.not_false, if_true]
    exact wpAny_bind (wpAny_rule (wpAny_pure ⟨_, rfl, hq⟩))
  · exact call_meets F.slot_tuple_eq_refl tb F.entry_tuple_eq (F.args_tuple_eq_2 _ _) (tuple_eq_declines_dict b a its.toArray n ddb slb oa hca) ⟨hob, hoa, hq⟩
  · have hxy : a ≠ b := fun z => by
      rw [z, hob] at hoa
      cases hoa
      exact absurd hca (by simp)
    show wpAny _ _ (if (a == b) = true then pure true else _) _ _ s
    rw [if_neg (by simpa using hxy)]
    refine wpAny_bind (wpAny_load hoa (wpAny_bind (wpAny_load hob ?_)))
    split
    · rename_i h1 _ _ _
      rw [hca] at h1
      exact absurd h1 (by simp)
    · exact wpAny_pure hq
section
variable {C : Ctx}
/-- ==, where a dict may stand, too -/
def opEq2 (a b : D) : R D := match a, b with
  | .dct [], .tup _ => .ok (.bl false)
  | a, b => opEq a b
theorem od_eq2 (hh : C.hot = false := by rfl) : OpD C (compareOp .Eq) opEq2 := fun g => by
  obtain ⟨r, hr, hs⟩ := od_eq (C := C) hh g
  refine (opd_mk (op := compareOp .Eq) (g := opEq2) fun g F H Q vx vy dx dy sub rx ry h => ?_) g
  unfold opEq2 at h
  split at h
  · rename_i xs
    cases rx with
    | dct0 ha =>
      cases ry with
      | tup hb _ => exact ⟨_, op_eqDT (g.u64 hh), _, _, [], _, rfl, rfl, sub _ _ ha, .inl (.inl (sub _ _ hb)), giveOld sub h (.bl _)⟩
  · exact ⟨r, hr, hs F H Q vx vy _ _ sub rx ry h⟩
@[simp] theorem eq2_of (a b : D) (h : (∀ xs, a ≠ .dct xs) ∨ ∀ xs, b ≠ .tup xs) : opEq2 a b = opEq a b := by
  unfold opEq2
  split
  · rename_i xs
    rcases h with h | h
    · exact absurd rfl (h _)
    · exact absurd rfl (h _)
  · rfl
end
end Pv
set_option Elab.async false
set_option linter.all false
set_option maxRecDepth 100000
/-! PvY: {t: e}, e; a, b, [..]; insert; str. -/
namespace Pv
open PySem PySem.Spec PyProof.Rows L2
section
variable {C : Ctx} {τ α β : Type} {φ : τ → Slots} {ψ : α → τ → Slots} {χ : β → τ → Slots} {ρ : τ → Slots} {rest : List Stmt} {pos : Pos}
theorem St8.newOwt {e : Slots} {σ : L2.St} {F H : Hp} {i : Nat} {p : Addr} {kv : List (List Key × V)} {kd : List (List Key × D)} (st : St8 C e σ F H) (hp : H p = none) (hn : kv.map (·.1) = kd.map (·.1)) (r : Rps C.T F (kv.map (·.2)) (kd.map (·.2))) :
    St8 C (e.set i (some (.owt kd))) (σ.set i (some (.ref p))) F (upd H p (.dT kv)) := by
  have fp : F p = none := by
    cases q : F p with
    | none => rfl
    | some o => rw [st.sub _ _ q] at hp; cases hp
  refine ⟨st.step.trans ((grow_own hp).weak fun _ z => z.elim), fun a o e => by rw [upd_ne (ne_of_none (st.sub a o e) hp)]; exact st.sub a o e, st.env.newOwn st.sub hp st.len ⟨p, kv, rfl, rfl, upd_same, hn, r, fp, .inl (st.step.dom p hp)⟩, by rw [List.length_set, List.length_set]; exact st.len⟩
/-- x, y = ({a: e}, c), a a tuple -/
theorem jb_par2tv (i j : Nat) {x y : Str} {a e c : Expr} {px py pt pd : Pos} {kt k2 pt2} {ma me mc : τ → R (D × τ)} {k : List (List Key × D) → D → τ → R (Fl α β × τ)} (ha : ∀ p F H, JE (hidCtx C p F H) φ a ma) (he : ∀ p F H, JE (hidCtx C p F H) φ e me) (hc : ∀ p F H, JE (hidCtx C p F H) φ c mc)
    (hk : ∀ kd d, JB C (fun s => ((φ s).set j (some (.val d))).set i (some (.owt kd))) rest ψ χ ρ (k kd d)) (hh : C.hot = false := by rfl)
    (hi : C.X.N[i]? = some x := by rfl) (hj : C.X.N[j]? = some y := by rfl) (hij : i ≠ j := by decide) (hx : C.X.env.scope.names.lookup x = some .local := by rfl) (hy : C.X.env.scope.names.lookup y = some .local := by rfl)
    (hw : swappedStores [.Tuple [.Name x px, .Name y py] kt pt] (.Tuple [.Dict [some a] [e] pd, c] k2 pt2) C.X.env = pure (some [x, y]) := by rfl) (hs : swapsWithSole [.Tuple [.Name x px, .Name y py] kt pt] (.Tuple [.Dict [some a] [e] pd, c] k2 pt2) pos.line C.X.env = pure false := by rfl)
    (h1 : starEach [.Dict [some a] [e] pd, c] C.X.env = (false, eval (.Dict [some a] [e] pd) C.X.env) :: starEach [c] C.X.env := by rfl) (h2 : starEach [c] C.X.env = (false, eval c C.X.env) :: starEach [] C.X.env := by rfl) :
    JB C φ (.Assign [.Tuple [.Name x px, .Name y py] kt pt] (.Tuple [.Dict [some a] [e] pd, c] k2 pt2) pos :: rest) ψ χ ρ (fun s => (noErr (ma s)).bind fun p => (noErr (me p.2)).bind fun q => (opt (keyT p.1)).bind fun ks => (noErr (mc q.2)).bind fun r => k [(ks, q.1)] r.1 r.2) := fun g s σ F H Dn st h => by
  have hu := g.u64 hh
  refine ⟨_, pss_cons (ps_par (g.calm hh) g.nd hi hj hij hx hy (pa_cons (pe_disp1T hu pe_wp pe_wp) (pa_cons pe_wp pa_nil h2) h1) hw hs) ps_wp, fun p hp => ?_⟩
  have st0 : St8 C (φ s) σ F (er p (upd H p (.dT []))) := by rw [er_upd hp]; exact st
  obtain ⟨d, s1, em, h1⟩ := noErr_any (K := fun r => Srv C r (FlPost C F ψ χ ρ Dn)) (fun z => z) h
  refine ha p F _ (g.hid p F _) s σ F _ _ (st0.intoH upd_same) ?_
  rw [em]
  intro v F1 H1 e1 r1 st1
  obtain ⟨d2, s2, em2, h2⟩ := noErr_any (K := fun r => Srv C r (FlPost C F ψ χ ρ Dn)) (fun z => z) h1
  refine he p F _ (g.hid p F _) s1 σ F1 H1 _ st1 ?_
  rw [em2]
  intro v2 F2 H2 e2 r2 st2
  obtain ⟨k1, k2, k3⟩ := st0.outofH upd_same st2
  obtain ⟨ks, ek, h3⟩ := h2.bind1.opt
  obtain ⟨b, rfl, hb⟩ := keyT_rp (r1.mono e2) ek
  refine ⟨k1, b, ks, rfl, st2.sub _ _ hb, ?_⟩
  obtain ⟨d3, s3, em3, h4⟩ := noErr_any (K := fun r => Srv C r (FlPost C F ψ χ ρ Dn)) (fun z => z) h3
  have ee : er p (upd H2 p (.dT [(ks, v2)])) = er p H2 := by
    funext c
    by_cases cc : c = p
    · rw [cc, er_same, er_same]
    · rw [er_ne cc, er_ne cc, upd_ne cc]
  have st3 : St8 C (φ s2) σ F2 (er p (upd H2 p (.dT [(ks, v2)]))) := by rw [ee]; exact k3
  refine hc p F2 _ (g.hid p F2 _) s2 σ F2 _ _ (st3.intoH upd_same) ?_
  rw [em3]
  intro v3 F3 H3 e3 r3 st4
  obtain ⟨q1, q2, q3⟩ := st3.outofH upd_same st4
  have z := (q3.setVal (i := j) r3).newOwt (i := i) (kv := [(ks, v2)]) (kd := [(ks, d2)]) er_same rfl (Rps.one (r2.mono e3))
  rw [upd_er q1] at z
  refine ⟨_, _, rfl, ?_⟩
  rw [List.set_comm _ _ hij]
  exact hk _ _ g s3 _ F3 _ Dn z (Srv.mono h4 fun f s' => FlPost.mono ((e1.trans e2).trans e3))
/-- x, y, z = (a, b, [..]) -/
theorem jb_par3vvl (i j l : Nat) {x y z : Str} {a b c : Expr} {px py pz pt : Pos} {kt k2 pt2} {ma mb : τ → R (D × τ)} {mc : τ → R (List D × τ)} {k : D → D → List D → τ → R (Fl α β × τ)} (ha : JE C φ a ma) (hb : JE C φ b mb) (hc : JEL C φ c mc)
    (hk : ∀ d e ds, JB C (fun s => (((φ s).set i (some (.val d))).set j (some (.val e))).set l (some (.own ds))) rest ψ χ ρ (k d e ds)) (hh : C.hot = false := by rfl)
    (hi : C.X.N[i]? = some x := by rfl) (hj : C.X.N[j]? = some y := by rfl) (hl : C.X.N[l]? = some z := by rfl) (hij : i ≠ j := by decide) (hil : i ≠ l := by decide) (hjl : j ≠ l := by decide) (hx : C.X.env.scope.names.lookup x = some .local := by rfl) (hy : C.X.env.scope.names.lookup y = some .local := by rfl) (hz : C.X.env.scope.names.lookup z = some .local := by rfl)
    (hw : swappedStores [.Tuple [.Name x px, .Name y py, .Name z pz] kt pt] (.Tuple [a, b, c] k2 pt2) C.X.env = pure (some [x, y, z]) := by rfl) (hs : swapsWithSole [.Tuple [.Name x px, .Name y py, .Name z pz] kt pt] (.Tuple [a, b, c] k2 pt2) pos.line C.X.env = pure false := by rfl)
    (h1 : starEach [a, b, c] C.X.env = (false, eval a C.X.env) :: starEach [b, c] C.X.env := by rfl) (h2 : starEach [b, c] C.X.env = (false, eval b C.X.env) :: starEach [c] C.X.env := by rfl) (h3 : starEach [c] C.X.env = (false, eval c C.X.env) :: starEach [] C.X.env := by rfl) :
    JB C φ (.Assign [.Tuple [.Name x px, .Name y py, .Name z pz] kt pt] (.Tuple [a, b, c] k2 pt2) pos :: rest) ψ χ ρ (fun s => (ma s).bind fun p => (mb p.2).bind fun q => (mc q.2).bind fun r => k p.1 q.1 r.1 r.2) := fun g s σ F H Dn st h => by
  refine ⟨_, pss_cons (ps_par3 (g.calm hh) g.nd hi hj hl hij hil hjl hx hy hz (pa_cons pe_wp (pa_cons pe_wp (pa_cons pe_wp pa_nil h3) h2) h1) hw hs) ps_wp, ?_⟩
  refine ha g s σ F H _ st (h.bind.mono fun d s1 h1 v F1 H1 e1 r1 st1 => ?_)
  refine hb g s1 σ F1 H1 _ st1 (h1.bind.mono fun d2 s2 h2 v2 F2 H2 e2 r2 st2 => ?_)
  refine hc g s2 σ F2 H2 _ st2 (h2.bind.mono fun ds s3 h3 l xs F3 H3 e3 hl r3 st3 => ?_)
  exact ⟨_, _, _, rfl, hk _ _ _ g s3 _ F3 _ Dn (((st3.setVal ((r1.mono e2).mono e3)).setVal (r2.mono e3)).newOwn hl r3) (Srv.mono h3 fun f s2 => FlPost.mono ((e1.trans e2).trans e3))⟩
/-- x.insert(a, e) -/
theorem jb_insert (i : Nat) {f : τ → List D} {x : Str} {a e : Expr} {p1 ap cp : Pos} {ma me : τ → R (D × τ)} {k : List D → τ → R (Fl α β × τ)} (ha : JE C φ a ma) (he : JE C φ e me) (hk : ∀ ds, JB C (fun s => (φ s).set i (some (.own ds))) rest ψ χ ρ (k ds))
    (hi : ∀ s, (φ s)[i]?.join = some (.own (f s)) := by intro _; rfl) (hN : C.X.N[i]? = some x := by rfl) (hv : Vis C.X.env.scope x := by first | exact Or.inl rfl | exact Or.inr (Or.inl rfl) | exact Or.inr (Or.inr rfl)) (hd : (x == ("__debug__" : Str)) = false := by decide) (hcd : (x == ("__classdict__" : Str)) = false := by decide)
    (hs : swapsWith (.Call (.Attribute (.Name x p1) "insert" ap) [a, e] [] cp) none pos.line C.X.env = pure false := by rfl) (hbase : attributeBase (.Name x p1) "insert" C.X.env (eval (.Name x p1) C.X.env) = eval (.Name x p1) C.X.env := by rfl)
    (hfew : ((backTo cp (starEach (a :: [e]) C.X.env)).all (fun x => !x.1) && (backToKw cp (keywordEach [] C.X.env)).all (fun x => x.1.isSome) && decide ((a :: [e]).length + ([] : List Keyword).length + (if ([] : List Keyword).isEmpty then 0 else 1) < 30)) = true := by rfl)
    (hline : (ap.endLine == cp.line) = true := by rfl) (hst : starEach (a :: [e]) C.X.env = (false, eval a C.X.env) :: starEach [e] C.X.env := by rfl) (hst2 : starEach [e] C.X.env = (false, eval e C.X.env) :: starEach [] C.X.env := by rfl) (hpl : (backTo cp (starEach [e] C.X.env)).any (·.1) = false := by rfl) :
    JB C φ (.Expr (.Call (.Attribute (.Name x p1) "insert" ap) [a, e] [] cp) pos :: rest) ψ χ ρ (fun s => (ma s).bind fun p => (me p.2).bind fun q => (asInt p.1).bind fun j => (chk (decide (0 ≤ j) && decide (j ≤ 1000000) && decide ((f q.2).length < 1000000)) ()).bind fun _ => k ((f q.2).take j.toNat ++ [q.1] ++ (f q.2).drop j.toNat) q.2) := fun g s σ F H Dn st h => by
  refine ⟨_, pss_cons (ps_expr (pe_bm PySem.F.plainAttrs_list PySem.F.slot_list_insert PySem.F.type_list_insert mt_insert (pe_var hN hv hd hcd) (pa_cons pe_wp (pa_cons pe_wp pa_nil hst2) hst) hbase hfew hline hst hpl) hs) ps_wp, ?_⟩
  obtain ⟨l, xs, e1, e2, _⟩ := st.env.ownAt (hi s)
  refine ⟨.ref l, e1, .inl ⟨rfl, xs, .inl (.inl e2)⟩, ?_⟩
  refine ha g s σ F H _ st (h.bind.mono fun d s1 h1 v F1 H1 ee r1 st1 => ?_)
  refine he g s1 σ F1 H1 _ st1 (h1.bind.mono fun d2 s2 h2 v2 F2 H2 ee2 r2 st2 => ?_)
  have h3 := h2.bind1
  cases r1 with
  | int j =>
    obtain ⟨c, h4⟩ := (show Srv C ((chk (decide (0 ≤ j) && decide (j ≤ 1000000) && decide ((f s2).length < 1000000)) ()).bind fun _ => _) _ from h3).bind1.chk
    have c1 := of_decide_eq_true (and2 (and2 c).1).1
    have c2 := of_decide_eq_true (and2 (and2 c).1).2
    have c3 := of_decide_eq_true (and2 c).2
    obtain ⟨l', ys, q1, q2, q3, _⟩ := st2.env.ownAt (hi s2)
    rw [e1] at q1
    cases q1
    refine ⟨l, ys, j, v2, rfl, rfl, q2, Nat.lt_of_lt_of_le (by rw [q3.length]; exact c3) (sz_small (Nat.le_refl _)), c1, by omega, ?_⟩
    exact hk _ g s2 _ F2 _ Dn (st2.chOwn (hi s2) e1 q2 (((q3.take j.toNat).append (Rps.one r2)).append (q3.drop j.toNat))) (h4.mono fun f s2 => FlPost.mono (ee.trans ee2))
  | _ => exact h3.elim
end
/-! ### str -/
theorem str_call {X : Cx} (hg : X.A.guards = some []) (hu : X.A.units + 64 < cLine) : CallR X (.type "str") (fun xs H Q => ∃ a p, xs = [.ref a] ∧ Dp X.K H (.ref a) p ∧ p.showable = true ∧ p.hasDict = false ∧ p.depth ≤ 60 ∧ p.shown.length ≤ sizeLine ∧ Q (.str p.shown) H) := by
  intro pins s σ H xs us Q I r h
  obtain ⟨a, p, rfl, hd, hs, hn, hz, hl, q⟩ := h
  obtain ⟨u, rfl, ru⟩ := Vals.one r
  cases ru
  obtain ⟨as, rd⟩ := Dp.reads I p (.ref a) (.ref a) hd rfl
  exact str_of_reads rd hs (fun e => by rw [hn] at e; cases e) hg (by omega) (fun _ _ e => e) (fun h' u tk hk => ⟨.str _, H, I.kept hk, ⟨_, rfl⟩, q⟩) hl
/-- str(d): a number, a text, a tuple, a list -/
def bStr : D → R D
  | .int i => chk (decide (i.natAbs < 10 ^ 18)) (.str (toString i))
  | .str z => .ok (.str z)
  | .tup xs => bRepr (.tup xs)
  | .lst xs => bRepr (.lst xs)
  | _ => .bad
theorem log_small {n : Nat} (h : n < 10 ^ 18) : n.log2 < 1920 := by
  by_cases c : n = 0
  · subst c; decide
  · exact (Nat.log2_lt c).mpr (Nat.lt_of_lt_of_le (Nat.lt_of_lt_of_le h (show 10 ^ 18 ≤ 2 ^ 60 by decide)) (Nat.pow_le_pow_right (by decide) (by decide)))
theorem cd_str {C : Ctx} (hh : C.hot = false := by rfl) : CallD C (.type "str") (d1 bStr) := cald1 fun g F H Q v d sub r h => by
  have sq : ∀ {a d}, Rp C.T F (.ref a) d → Srv1 C (bRepr d) (fun d => ∀ v F' H', Grow F H F' H' → Same F' H' → Rp C.T F' v d → Q v H') → ∃ r, CallR C.X (.type "str") r ∧ r [.ref a] H Q := fun {a d} r h => by
    obtain ⟨p, e, k⟩ := Srv1.opt (Srv1.bind h)
    obtain ⟨c, k⟩ := Srv1.chk k
    have c1 := and2 c
    have c2 := and2 c1.1
    have c3 := and2 c2.1
    exact ⟨_, str_call (g.room hh).g (g.u64 hh), a, p, rfl, by rw [g.K]; exact Rp.dp sub _ r e, c3.1, by simpa using c3.2, of_decide_eq_true c2.2, sz_small (of_decide_eq_true c1.2), giveOld sub k (.str _)⟩
  cases r with
  | int i =>
    obtain ⟨c, k⟩ := (show Srv1 C (chk _ _) _ from h).chk
    exact ⟨_, call_str_int, i, rfl, log_small (of_decide_eq_true c), giveOld sub k (.str _)⟩
  | str z => exact ⟨_, SkE.call_str_str, z, rfl, giveOld sub h (.str _)⟩
  | tup hl rl => exact sq (.tup hl rl) h
  | lst hl rl => exact sq (.lst hl rl) h
  | _ => exact h.elim
end Pv
set_option Elab.async false
set_option linter.all false
set_option maxRecDepth 100000
set_option maxHeartbeats 4000000
namespace Gk21
open PySem PySem.Spec PyProof.Rows L2 Pv
abbrev top (i : Nat) : Stmt := PySem.Challenge.pw_lateslips_k21_commands_that_are_free.main.body.getD i (.Pass ⟨0, 0, 0, 0⟩)
abbrev s__law_draw : Stmt := top 22
abbrev s__law_any : Stmt := top 23
abbrev s__law_mixed : Stmt := top 25
abbrev s__law_columns : Stmt := top 26
abbrev s__law_guarded : Stmt := top 35
abbrev s__law_of : Stmt := top 24
abbrev s__law_column : Stmt := top 27
abbrev s__law_machine : Stmt := top 28
abbrev s__law_beside : Stmt := top 34
abbrev s__law_blind : Stmt := top 37
abbrev s__law_few : Stmt := top 36
abbrev s__law_stock : Stmt := top 33
abbrev s_is_sequence : Stmt := top 10
abbrev s_is_integer : Stmt := top 7
abbrev s_is_number : Stmt := top 8
abbrev s_is_index : Stmt := top 9
abbrev s_checked_row : Stmt := top 13
abbrev s_led : Stmt := top 14
abbrev s_effect : Stmt := top 15
abbrev s_clash_behind : Stmt := top 17
abbrev s_free_commands : Stmt := top 20
abbrev s__law_led : Stmt := top 30
abbrev s__law_effect : Stmt := top 31
abbrev s_clash : Stmt := top 18
abbrev s_is_free : Stmt := top 19
abbrev s__law_answer : Stmt := top 39
abbrev s__law_errors : Stmt := top 40
abbrev s_Machine_init : Stmt := inClass (top 12) 0
abbrev s__law_row : Stmt := top 29
abbrev s__law_kernel : Stmt := top 32
abbrev s__law_clash : Stmt := top 38
abbrev s_law : Stmt := top 41
structure Facts (T : Txt) : Prop where
  d__law_draw : DefAt T "_law_draw" "_law_draw" s__law_draw
  b_abs : T.mg "abs" = none
  b_int : T.mg "int" = none
  d__law_any : DefAt T "_law_any" "_law_any" s__law_any
  d__law_mixed : DefAt T "_law_mixed" "_law_mixed" s__law_mixed
  b_list : T.mg "list" = none
  b_len : T.mg "len" = none
  d__law_columns : DefAt T "_law_columns" "_law_columns" s__law_columns
  b_range : T.mg "range" = none
  d__law_guarded : DefAt T "_law_guarded" "_law_guarded" s__law_guarded
  d__law_of : DefAt T "_law_of" "_law_of" s__law_of
  d__law_column : DefAt T "_law_column" "_law_column" s__law_column
  b_max : T.mg "max" = none
  b_min : T.mg "min" = none
  d__law_machine : DefAt T "_law_machine" "_law_machine" s__law_machine
  d__law_beside : DefAt T "_law_beside" "_law_beside" s__law_beside
  d__law_blind : DefAt T "_law_blind" "_law_blind" s__law_blind
  d__law_few : DefAt T "_law_few" "_law_few" s__law_few
  b_tuple : T.mg "tuple" = none
  d__law_stock : DefAt T "_law_stock" "_law_stock" s__law_stock
  d_is_sequence : DefAt T "is_sequence" "is_sequence" s_is_sequence
  tc : TyC T ["Machine"]
  b_isinstance : T.mg "isinstance" = none
  d_is_integer : DefAt T "is_integer" "is_integer" s_is_integer
  b_bool : T.mg "bool" = none
  d_is_number : DefAt T "is_number" "is_number" s_is_number
  d_is_index : DefAt T "is_index" "is_index" s_is_index
  d_checked_row : DefAt T "checked_row" "checked_row" s_checked_row
  er_InvalidRow : ErrC T "InvalidRow"
  b_enumerate : T.mg "enumerate" = none
  at_Machine_commands : ClsC T "Machine" "commands"
  d_led : DefAt T "led" "led" s_led
  at_Machine_steps : ClsC T "Machine" "steps"
  d_effect : DefAt T "effect" "effect" s_effect
  at_Machine_states : ClsC T "Machine" "states"
  d_clash_behind : DefAt T "clash_behind" "clash_behind" s_clash_behind
  d_free_commands : DefAt T "free_commands" "free_commands" s_free_commands
  d__law_led : DefAt T "_law_led" "_law_led" s__law_led
  d__law_effect : DefAt T "_law_effect" "_law_effect" s__law_effect
  d_clash : DefAt T "clash" "clash" s_clash
  er_Refused : ErrC T "Refused"
  d_is_free : DefAt T "is_free" "is_free" s_is_free
  d__law_answer : DefAt T "_law_answer" "_law_answer" s__law_answer
  ex_InvalidRow : ExcN T "InvalidRow"
  ex_Refused : ExcN T "Refused"
  d__law_errors : DefAt T "_law_errors" "_law_errors" s__law_errors
  b_str : T.mg "str" = none
  b_repr : T.mg "repr" = none
  mk_Machine : MkAt T "Machine" "Machine.__init__" s_Machine_init
  er_InvalidMachine : ErrC T "InvalidMachine"
  b_all : T.mg "all" = none
  at_Machine__found : ClsC T "Machine" "_found"
  d__law_row : DefAt T "_law_row" "_law_row" s__law_row
  d__law_kernel : DefAt T "_law_kernel" "_law_kernel" s__law_kernel
  d__law_clash : DefAt T "_law_clash" "_law_clash" s__law_clash
  d_law : DefAt T "law" "law" s_law
theorem sc__law_draw : FnScope ["_law_script", "_law_salt", "_law_cell", "_law_cells", "_law_blend"] ["_law_script", "_law_salt"] (defScope s__law_draw) := ⟨rfl, rfl, rfl, by decide +kernel, rfl, by decide +kernel, by decide +kernel⟩
noncomputable def pk__law_draw : {m : D → D → Unit → R (Fl Unit Unit × Unit) // ∀ (T : Txt) (h : Facts T) (f : Addr) (cdv : Value) (A : Around) (outer : List Env) (s : Shared) (H : Hp) (E : XK) (F : Hp) (d0 : D) (d1 : D), JB (bodyCtx T ["_law_script", "_law_salt", "_law_cell", "_law_cells", "_law_blend"] "_law_draw" s__law_draw f cdv A outer s H E 0 F fun _ => False) (fun _ : Unit => [some (.val d0), some (.val d1), none, none, none]) (defBody s__law_draw) (fun (_ : Unit) _ => []) (fun (_ : Unit) _ => []) (fun _ => []) (m d0 d1)} := ⟨fun d0 d1 => _, fun T h f cdv A outer s H E F d0 d1 => (jb_setLc1 3 2 [("_law_cell", 2)] (ji_seq (je_cut (je_var 0 (f := fun _ => d0)) jo_none (jo_some je_int))) (fun _ => jg_name 2) (fun _ v2 => jts_nil) (fun _ v2 => (je_blt (h.b_abs) cd_abs (ja_cons (je_blt (h.b_int) cd_int (ja_cons (je_var 2 (f := fun _ => v2)) ja_nil)) ja_nil))) (fun w1 => (jb_set 4 (je_op od_add je_int (je_op od_mul je_int (je_var 1 (f := fun _ => d1)))) (fun v3 => (jb_freeze 3 (f := fun _ => w1) (jb_for 2 (fun (a4 : D) _ => [some (.val d0), some (.val d1), none, some (.val (.lst w1)), some (.val a4)]) (fun _ => v3) (ji_seq (je_var 3 (f := fun _ => (.lst w1)))) (fun _ => (SlotsLe.cons_same (SlotsLe.cons_same (SlotsLe.cons_none (SlotsLe.cons_same (SlotsLe.cons_same (SlotsLe.nil _))))))) (fun _ => Nat.le_of_ble_eq_true rfl) (fun v5 a4 => (jb_set 4 (je_op od_mod (je_blt (h.b_int) cd_int (ja_cons (je_op od_add (je_op od_add (je_op od_mul (je_var 4 (f := fun _ => a4)) je_int) (je_op od_mod (je_var 2 (f := fun _ => v5)) je_int)) je_int) ja_nil)) je_int) (fun v6 => (jb_nil (fun _ => v6) (fun _ => (SlotsLe.cons_same (SlotsLe.cons_same (SlotsLe.cons_none (SlotsLe.cons_same (SlotsLe.cons_same (SlotsLe.nil _))))))) (fun _ => Nat.le_of_ble_eq_true rfl))))) (fun a4 => (jb_ret (je_lst (ja_cons (je_rev (je_ofL (jel_lc1 2 [("_law_cell", 2)] (ji_seq (je_var 3 (f := fun _ => (.lst w1)))) (fun _ => jg_name 2) (fun _ v7 => (jts_one (jt_cmp od_ge (je_var 2 (f := fun _ => v7)) (je_op od_pow je_int je_int)))) (fun _ v7 => (je_var 2 (f := fun _ => v7)))))) (ja_cons (je_var 4 (f := fun _ => a4)) ja_nil))) (fun _ => SlotsLe.nil _) (fun _ => Nat.le_of_ble_eq_true rfl)))))))))⟩
noncomputable def m__law_draw : List D → R D := fun ds => finish1 ((ar2 .bad fun d0 d1 => pk__law_draw.1 d0 d1 ()) ds)
theorem ok__law_draw {T : Txt} (h : Facts T) (f : Addr) (fd : FuncData) (F : Fun T.K "_law_draw" "_law_draw" s__law_draw f fd) : FnG T.P T.w T.K T.mg T.base (L2.CX T.P T.w) 1 f fd ["_law_script", "_law_salt"] (SpD T 2 m__law_draw) := fn_ok F sc__law_draw (fun cdv A outer s H E G ds hl => match ds, hl with | [d0, d1], _ => pk__law_draw.2 T h f cdv A outer s H E G d0 d1)
theorem ce__law_draw_2 {T : Txt} (h : Facts T) : CalleeD T "_law_draw" 2 [] 1 (callM 2 0 [] m__law_draw) := mk_calleeD (ps := ["_law_script", "_law_salt"]) (pm := []) h.d__law_draw (fun f fd F => ok__law_draw h f fd F) rfl (fun kV doc pmv an cdv ct us ws hl hw => match us, hl, ws, hw with | [_, _], _, [], _ => rfl)
theorem sc__law_any : FnScope ["_law_deal", "_law_bound", "_law_rest"] ["_law_deal", "_law_bound"] (defScope s__law_any) := ⟨rfl, rfl, rfl, by decide +kernel, rfl, by decide +kernel, by decide +kernel⟩
noncomputable def pk__law_any : {m : D → Deal → R (Fl Unit Unit × Deal) // ∀ (T : Txt) (h : Facts T) (f : Addr) (cdv : Value) (A : Around) (outer : List Env) (s : Shared) (H : Hp) (E : XK) (F : Hp) (l1 l2 : Addr) (d1 : D), JB (bodyCtx T ["_law_deal", "_law_bound", "_law_rest"] "_law_any" s__law_any f cdv A outer s H E 0 F (onDeal l1 l2)) (fun dl : Deal => [some (.deal l1 l2 dl.1 dl.2), some (.val d1), none]) (defBody s__law_any) (fun (_ : Unit) dl => [some (.deal l1 l2 dl.1 dl.2)]) (fun (_ : Unit) _ => []) (fun dl => [some (.deal l1 l2 dl.1 dl.2)]) (m d1)} := ⟨fun d1 => _, fun T h f cdv A outer s H E F l1 l2 d1 => (jb_while 1000 (fun (a1 : Unit) dl => [some (.deal l1 l2 dl.1 dl.2), some (.val d1), none]) (fun _ => ()) (fun _ => (SlotsLe.cons_same (SlotsLe.cons_same (SlotsLe.cons_none (SlotsLe.nil _))))) (fun _ => Nat.le_of_ble_eq_true rfl) (fun a1 => (jt_borrow fun dl _ _ => (jt_w (jw_and (jt_cmp od_ne (je_ix (je_var 0 (f := fun _ => (.lst [.lst (dl.1.map .int), .int dl.2]))) je_int) (je_lst ja_nil)) (jw_and1 (jt_cmp od_eq (je_ix (je_ix (je_var 0 (f := fun _ => (.lst [.lst (dl.1.map .int), .int dl.2]))) je_int) (je_neg je_int)) je_int)))))) (fun a1 => (jb_drop (je_dealPop 0) (jb_nil (fun _ => ()) (fun _ => (SlotsLe.cons_same (SlotsLe.cons_same (SlotsLe.cons_none (SlotsLe.nil _))))) (fun _ => Nat.le_of_ble_eq_true rfl)))) (fun a1 => (jb_if (fun (a2 : Unit) dl => [some (.deal l1 l2 dl.1 dl.2), some (.val d1), none]) (jt_borrow fun dl _ _ => (jt_cmp od_ne (je_ix (je_var 0 (f := fun _ => (.lst [.lst (dl.1.map .int), .int dl.2]))) je_int) (je_lst ja_nil))) (jb_set 2 (je_blt (h.b_int) cd_int (ja_cons (je_dealPop 0) ja_nil)) (fun v3 => (jb_drop (je_dealApp 0 (je_op od_div (je_var 2 (f := fun _ => v3)) (je_var 1 (f := fun _ => d1)))) (jb_ret (je_op od_mod (je_var 2 (f := fun _ => v3)) (je_var 1 (f := fun _ => d1))) (fun _ => SlotsLe.cons_same (SlotsLe.nil _)) (fun _ => Nat.le_of_ble_eq_true rfl))))) (jb_nil (fun _ => ()) (fun _ => (SlotsLe.cons_same (SlotsLe.cons_same (SlotsLe.cons_none (SlotsLe.nil _))))) (fun _ => Nat.le_of_ble_eq_true rfl)) (fun a2 => (jb_dealSet 0 (je_borrow fun dl _ _ => (je_op od_mod (je_blt (h.b_int) cd_int (ja_cons (je_op od_add (je_op od_mul (je_ix (je_var 0 (f := fun _ => (.lst [.lst (dl.1.map .int), .int dl.2]))) je_int) je_int) je_int) ja_nil)) je_int)) (jb_ret (je_borrow fun dl _ _ => (je_op od_mod (je_blt (h.b_int) cd_int (ja_cons (je_op od_div (je_ix (je_var 0 (f := fun _ => (.lst [.lst (dl.1.map .int), .int dl.2]))) je_int) je_int) ja_nil)) (je_var 1 (f := fun _ => d1)))) (fun _ => SlotsLe.cons_same (SlotsLe.nil _)) (fun _ => Nat.le_of_ble_eq_true rfl)))))))⟩
noncomputable def m__law_any : List D → Deal → R (D × Deal) := fun ds dl => finish (ar1 (fun _ => .bad) pk__law_any.1 ds dl)
theorem ok__law_any {T : Txt} (h : Facts T) (f : Addr) (fd : FuncData) (F : Fun T.K "_law_any" "_law_any" s__law_any f fd) : FnG T.P T.w T.K T.mg T.base (L2.CX T.P T.w) 1 f fd ["_law_deal", "_law_bound"] (SpL T 1 m__law_any) := fn_okL F sc__law_any (by decide) (fun cdv A outer s H E G l1 l2 ds hl => match ds, hl with | [d1], _ => pk__law_any.2 T h f cdv A outer s H E G l1 l2 d1)
theorem ce__law_any_1 {T : Txt} (h : Facts T) : CalleeL T "_law_any" 1 [] 1 (callL 1 0 [] m__law_any) := mk_calleeL (ps := ["_law_deal", "_law_bound"]) (pm := []) h.d__law_any (fun f fd F => ok__law_any h f fd F) rfl (fun kV doc pmv an cdv ct us ws hl hw => match us, hl, ws, hw with | [_, _], _, [], _ => rfl)
theorem sc__law_mixed : FnScope ["_law_deal", "_law_some", "_law_left", "_law_found"] ["_law_deal", "_law_some"] (defScope s__law_mixed) := ⟨rfl, rfl, rfl, by decide +kernel, rfl, by decide +kernel, by decide +kernel⟩
noncomputable def pk__law_mixed : {m : D → Deal → R (Fl Unit Unit × Deal) // ∀ (T : Txt) (h : Facts T) (f : Addr) (cdv : Value) (A : Around) (outer : List Env) (s : Shared) (H : Hp) (E : XK) (F : Hp) (l1 l2 : Addr) (d1 : D), JB (bodyCtx T ["_law_deal", "_law_some", "_law_left", "_law_found"] "_law_mixed" s__law_mixed f cdv A outer s H E 1 F (onDeal l1 l2)) (fun dl : Deal => [some (.deal l1 l2 dl.1 dl.2), some (.val d1), none, none]) (defBody s__law_mixed) (fun (_ : Unit) dl => [some (.deal l1 l2 dl.1 dl.2)]) (fun (_ : Unit) _ => []) (fun dl => [some (.deal l1 l2 dl.1 dl.2)]) (m d1)} := ⟨fun d1 => _, fun T h f cdv A outer s H E F l1 l2 d1 => (jb_par2ll 2 3 (jel_list (h.b_list) (je_var 1 (f := fun _ => d1))) (fun w1 => (jb_while 1000 (fun (a2 : List D × List D) dl => [some (.deal l1 l2 dl.1 dl.2), some (.val d1), some (.own a2.1), some (.own a2.2)]) (fun _ => (w1, [])) (fun _ => (SlotsLe.cons_same (SlotsLe.cons_same (SlotsLe.cons_same (SlotsLe.cons_same (SlotsLe.nil _)))))) (fun _ => Nat.le_of_ble_eq_true rfl) (fun a2 => (jt_borrow fun dl _ _ => (jt_cmp od_ne (je_var 2 (f := fun _ => (.lst a2.1))) (je_lst ja_nil)))) (fun a2 => (jb_appPop 3 2 (f := fun _ => a2.2) (g' := fun _ => a2.1) (je_callL 0 (ce__law_any_1 h) (Nat.le_of_ble_eq_true rfl) (ja_cons (je_borrow fun dl _ _ => (je_blt (h.b_len) cd_len (ja_cons (je_var 2 (f := fun _ => (.lst a2.1))) ja_nil))) ja_nil)) (fun w3 w4 => (jb_nil (fun _ => (w4, w3)) (fun _ => (SlotsLe.cons_same (SlotsLe.cons_same (SlotsLe.cons_same (SlotsLe.cons_same (SlotsLe.nil _)))))) (fun _ => Nat.le_of_ble_eq_true rfl))) (by decide))) (fun a2 => (jb_retOwn 3 (f := fun _ => a2.2) (fun _ _ z => ⟨0, l1, l2, _, _, by decide, rfl, z⟩) (fun _ => SlotsLe.cons_same (SlotsLe.nil _)) (fun _ => Nat.le_of_ble_eq_true rfl))))))⟩
noncomputable def m__law_mixed : List D → Deal → R (D × Deal) := fun ds dl => finish (ar1 (fun _ => .bad) pk__law_mixed.1 ds dl)
theorem ok__law_mixed {T : Txt} (h : Facts T) (f : Addr) (fd : FuncData) (F : Fun T.K "_law_mixed" "_law_mixed" s__law_mixed f fd) : FnG T.P T.w T.K T.mg T.base (L2.CX T.P T.w) 2 f fd ["_law_deal", "_law_some"] (SpL T 1 m__law_mixed) := fn_okL F sc__law_mixed (by decide) (fun cdv A outer s H E G l1 l2 ds hl => match ds, hl with | [d1], _ => pk__law_mixed.2 T h f cdv A outer s H E G l1 l2 d1)
theorem ce__law_mixed_1 {T : Txt} (h : Facts T) : CalleeL T "_law_mixed" 1 [] 2 (callL 1 0 [] m__law_mixed) := mk_calleeL (ps := ["_law_deal", "_law_some"]) (pm := []) h.d__law_mixed (fun f fd F => ok__law_mixed h f fd F) rfl (fun kV doc pmv an cdv ct us ws hl hw => match us, hl, ws, hw with | [_, _], _, [], _ => rfl)
theorem sc__law_columns : FnScope ["_law_columns_here", "_law_column_here", "_law_state"] ["_law_columns_here"] (defScope s__law_columns) := ⟨rfl, rfl, rfl, by decide +kernel, rfl, by decide +kernel, by decide +kernel⟩
noncomputable def pk__law_columns : {m : D → Unit → R (Fl Unit Unit × Unit) // ∀ (T : Txt) (h : Facts T) (f : Addr) (cdv : Value) (A : Around) (outer : List Env) (s : Shared) (H : Hp) (E : XK) (F : Hp) (d0 : D), JB (bodyCtx T ["_law_columns_here", "_law_column_here", "_law_state"] "_law_columns" s__law_columns f cdv A outer s H E 0 F fun _ => False) (fun _ : Unit => [some (.val d0), none, none]) (defBody s__law_columns) (fun (_ : Unit) _ => []) (fun (_ : Unit) _ => []) (fun _ => []) (m d0)} := ⟨fun d0 => _, fun T h f cdv A outer s H E F d0 => (jb_ret (je_ofL (jel_lc1 2 [("_law_state", 2)] (ji_range1 (h.b_range) (je_blt (h.b_len) cd_len (ja_cons (je_ix (je_var 0 (f := fun _ => d0)) je_int) ja_nil))) (fun _ => jg_name 2) (fun _ v1 => jts_nil) (fun _ v1 => (je_ofL (jel_lc1 1 [("_law_column_here", 1)] (ji_seq (je_var 0 (f := fun _ => d0))) (fun _ => jg_name 1) (fun _ v2 => jts_nil) (fun _ v2 => (je_ix (je_var 1 (f := fun _ => v2)) (je_var 2 (f := fun _ => v1))))))))) (fun _ => SlotsLe.nil _) (fun _ => Nat.le_of_ble_eq_true rfl))⟩
noncomputable def m__law_columns : List D → R D := fun ds => finish1 ((ar1 .bad fun d0 => pk__law_columns.1 d0 ()) ds)
theorem ok__law_columns {T : Txt} (h : Facts T) (f : Addr) (fd : FuncData) (F : Fun T.K "_law_columns" "_law_columns" s__law_columns f fd) : FnG T.P T.w T.K T.mg T.base (L2.CX T.P T.w) 1 f fd ["_law_columns_here"] (SpD T 1 m__law_columns) := fn_ok F sc__law_columns (fun cdv A outer s H E G ds hl => match ds, hl with | [d0], _ => pk__law_columns.2 T h f cdv A outer s H E G d0)
theorem ce__law_columns_1 {T : Txt} (h : Facts T) : CalleeD T "_law_columns" 1 [] 1 (callM 1 0 [] m__law_columns) := mk_calleeD (ps := ["_law_columns_here"]) (pm := []) h.d__law_columns (fun f fd F => ok__law_columns h f fd F) rfl (fun kV doc pmv an cdv ct us ws hl hw => match us, hl, ws, hw with | [_], _, [], _ => rfl)
theorem sc__law_guarded : FnScope ["_law_deal", "_law_place", "_law_columns_here", "_law_kinds", "_law_command", "_law_column_here", "_law_state", "_law_lock", "_law_lamp", "_law_to", "_law_last"] ["_law_deal"] (defScope s__law_guarded) := ⟨rfl, rfl, rfl, by decide +kernel, rfl, by decide +kernel, by decide +kernel⟩
noncomputable def pk__law_guarded : {m : Deal → R (Fl Unit Unit × Deal) // ∀ (T : Txt) (h : Facts T) (f : Addr) (cdv : Value) (A : Around) (outer : List Env) (s : Shared) (H : Hp) (E : XK) (F : Hp) (l1 l2 : Addr), JB (bodyCtx T ["_law_deal", "_law_place", "_law_columns_here", "_law_kinds", "_law_command", "_law_column_here", "_law_state", "_law_lock", "_law_lamp", "_law_to", "_law_last"] "_law_guarded" s__law_guarded f cdv A outer s H E 2 F (onDeal l1 l2)) (fun dl : Deal => [some (.deal l1 l2 dl.1 dl.2), none, none, none, none, none, none, none, none, none, none]) (defBody s__law_guarded) (fun (_ : Unit) dl => [some (.deal l1 l2 dl.1 dl.2)]) (fun (_ : Unit) _ => []) (fun dl => [some (.deal l1 l2 dl.1 dl.2)]) (m)} := ⟨_, fun T h f cdv A outer s H E F l1 l2 => (jb_setL 1 (jel_callL 0 (ce__law_mixed_1 h) (Nat.le_of_ble_eq_true rfl) (ja_cons (je_lst (ja_cons je_int (ja_cons je_int (ja_cons je_int (ja_cons je_int (ja_cons je_int (ja_cons je_int ja_nil))))))) ja_nil)) (fun w1 => (jb_par2lv 2 3 (jel_lst ja_nil) (fun _ _ _ => (je_callL 0 (ce__law_mixed_1 h) (Nat.le_of_ble_eq_true rfl) (ja_cons (je_lst (ja_cons je_int (ja_cons je_int (ja_cons je_int (ja_cons je_int ja_nil))))) ja_nil))) (fun w3 v2 => (jb_for 4 (fun (a4 : List D × List D) dl => [some (.deal l1 l2 dl.1 dl.2), some (.own a4.1), some (.own a4.2), some (.val v2), none, none, none, none, none, none, none]) (fun _ => (w1, w3)) (ji_seq (je_var 3 (f := fun _ => v2))) (fun _ => (SlotsLe.cons_same (SlotsLe.cons_same (SlotsLe.cons_same (SlotsLe.cons_same (SlotsLe.cons_none (SlotsLe.cons_none (SlotsLe.cons_none (SlotsLe.cons_none (SlotsLe.cons_none (SlotsLe.cons_none (SlotsLe.cons_none (SlotsLe.nil _))))))))))))) (fun _ => Nat.le_of_ble_eq_true rfl) (fun v5 a4 => (jb_setL 5 (jel_lst (ja_cons je_int (ja_cons je_int (ja_cons je_int (ja_cons je_int (ja_cons je_int (ja_cons je_int ja_nil))))))) (fun w6 => (jb_for 6 (fun (a7 : List D × List D) dl => [some (.deal l1 l2 dl.1 dl.2), some (.own a7.1), some (.own a4.2), some (.val v2), some (.val v5), some (.own a7.2), none, none, none, none, none]) (fun _ => (a4.1, w6)) (ji_range1 (h.b_range) je_int) (fun _ => (SlotsLe.cons_same (SlotsLe.cons_same (SlotsLe.cons_same (SlotsLe.cons_same (SlotsLe.cons_same (SlotsLe.cons_same (SlotsLe.cons_none (SlotsLe.cons_none (SlotsLe.cons_none (SlotsLe.cons_none (SlotsLe.cons_none (SlotsLe.nil _))))))))))))) (fun _ => Nat.le_of_ble_eq_true rfl) (fun v8 a7 => (jb_par2 7 8 (ja_cons (je_op od_div (je_var 6 (f := fun _ => v8)) je_int) (ja_cons (je_op od_mod (je_var 6 (f := fun _ => v8)) je_int) ja_nil)) (fun v9 v10 => (jb_set 9 (je_ix (je_lst (ja_cons (je_lst (ja_cons (je_if (jt_cmp od_gt (je_var 7 (f := fun _ => v9)) je_int) je_int je_int) (ja_cons je_int ja_nil))) (ja_cons (je_lst (ja_cons (je_if (jt_cmp od_gt (je_var 7 (f := fun _ => v9)) je_int) je_int je_int) (ja_cons (je_var 8 (f := fun _ => v10)) ja_nil))) (ja_cons (je_lst (ja_cons je_int (ja_cons je_int ja_nil))) (ja_cons (je_lst (ja_cons (je_var 7 (f := fun _ => v9)) (ja_cons je_int ja_nil))) ja_nil))))) (je_var 4 (f := fun _ => v5))) (fun v11 => (jb_setItem 5 (f := fun _ => a7.2) (je_borrow fun dl _ _ => (je_ix (je_var 1 (f := fun _ => (.lst a7.1))) (je_op od_add (je_op od_mul je_int (je_ix (je_var 9 (f := fun _ => v11)) je_int)) (je_ix (je_var 9 (f := fun _ => v11)) je_int)))) (je_borrow fun dl _ _ => (je_ix (je_var 1 (f := fun _ => (.lst a7.1))) (je_var 6 (f := fun _ => v8)))) (fun w12 => (jb_nil (fun _ => (a7.1, w12)) (fun _ => (SlotsLe.cons_same (SlotsLe.cons_same (SlotsLe.cons_same (SlotsLe.cons_same (SlotsLe.cons_same (SlotsLe.cons_same (SlotsLe.cons_none (SlotsLe.cons_none (SlotsLe.cons_none (SlotsLe.cons_none (SlotsLe.cons_none (SlotsLe.nil _))))))))))))) (fun _ => Nat.le_of_ble_eq_true rfl))))))))) (fun a7 => (jb_freeze 5 (f := fun _ => a7.2) (jb_append 2 (f := fun _ => a4.2) (je_var 5 (f := fun _ => (.lst a7.2))) (fun w13 => (jb_nil (fun _ => (a7.1, w13)) (fun _ => (SlotsLe.cons_same (SlotsLe.cons_same (SlotsLe.cons_same (SlotsLe.cons_same (SlotsLe.cons_none (SlotsLe.cons_none (SlotsLe.cons_none (SlotsLe.cons_none (SlotsLe.cons_none (SlotsLe.cons_none (SlotsLe.cons_none (SlotsLe.nil _))))))))))))) (fun _ => Nat.le_of_ble_eq_true rfl)))))))))) (fun a4 => (jb_set 10 (je_tup (ja_cons (je_index (je_var 3 (f := fun _ => v2)) (je_callL 0 (ce__law_any_1 h) (Nat.le_of_ble_eq_true rfl) (ja_cons je_int ja_nil))) (ja_cons (je_index (je_var 3 (f := fun _ => v2)) je_int) (ja_cons (je_index (je_var 3 (f := fun _ => v2)) je_int) ja_nil)))) (fun v14 => (jb_freeze 2 (f := fun _ => a4.2) (jb_ret (je_tup (ja_cons je_int (ja_cons (je_call (ce__law_columns_1 h) (Nat.le_of_ble_eq_true rfl) (ja_cons (je_var 2 (f := fun _ => (.lst a4.2))) ja_nil)) (ja_cons (je_var 10 (f := fun _ => v14)) ja_nil)))) (fun _ => SlotsLe.cons_same (SlotsLe.nil _)) (fun _ => Nat.le_of_ble_eq_true rfl)))))))))))⟩
noncomputable def m__law_guarded : List D → Deal → R (D × Deal) := fun ds dl => finish ((fun _ => pk__law_guarded.1) ds dl)
theorem ok__law_guarded {T : Txt} (h : Facts T) (f : Addr) (fd : FuncData) (F : Fun T.K "_law_guarded" "_law_guarded" s__law_guarded f fd) : FnG T.P T.w T.K T.mg T.base (L2.CX T.P T.w) 3 f fd ["_law_deal"] (SpL T 0 m__law_guarded) := fn_okL F sc__law_guarded (by decide) (fun cdv A outer s H E G l1 l2 ds hl => match ds, hl with | [], _ => pk__law_guarded.2 T h f cdv A outer s H E G l1 l2)
theorem ce__law_guarded_0 {T : Txt} (h : Facts T) : CalleeL T "_law_guarded" 0 [] 3 (callL 0 0 [] m__law_guarded) := mk_calleeL (ps := ["_law_deal"]) (pm := []) h.d__law_guarded (fun f fd F => ok__law_guarded h f fd F) rfl (fun kV doc pmv an cdv ct us ws hl hw => match us, hl, ws, hw with | [_], _, [], _ => rfl)
theorem sc__law_of : FnScope ["_law_deal", "_law_some"] ["_law_deal", "_law_some"] (defScope s__law_of) := ⟨rfl, rfl, rfl, by decide +kernel, rfl, by decide +kernel, by decide +kernel⟩
noncomputable def pk__law_of : {m : D → Deal → R (Fl Unit Unit × Deal) // ∀ (T : Txt) (h : Facts T) (f : Addr) (cdv : Value) (A : Around) (outer : List Env) (s : Shared) (H : Hp) (E : XK) (F : Hp) (l1 l2 : Addr) (d1 : D), JB (bodyCtx T ["_law_deal", "_law_some"] "_law_of" s__law_of f cdv A outer s H E 1 F (onDeal l1 l2)) (fun dl : Deal => [some (.deal l1 l2 dl.1 dl.2), some (.val d1)]) (defBody s__law_of) (fun (_ : Unit) dl => [some (.deal l1 l2 dl.1 dl.2)]) (fun (_ : Unit) _ => []) (fun dl => [some (.deal l1 l2 dl.1 dl.2)]) (m d1)} := ⟨fun d1 => _, fun T h f cdv A outer s H E F l1 l2 d1 => (jb_ret (je_ix (je_var 1 (f := fun _ => d1)) (je_callL 0 (ce__law_any_1 h) (Nat.le_of_ble_eq_true rfl) (ja_cons (je_blt (h.b_len) cd_len (ja_cons (je_var 1 (f := fun _ => d1)) ja_nil)) ja_nil))) (fun _ => SlotsLe.cons_same (SlotsLe.nil _)) (fun _ => Nat.le_of_ble_eq_true rfl))⟩
noncomputable def m__law_of : List D → Deal → R (D × Deal) := fun ds dl => finish (ar1 (fun _ => .bad) pk__law_of.1 ds dl)
theorem ok__law_of {T : Txt} (h : Facts T) (f : Addr) (fd : FuncData) (F : Fun T.K "_law_of" "_law_of" s__law_of f fd) : FnG T.P T.w T.K T.mg T.base (L2.CX T.P T.w) 2 f fd ["_law_deal", "_law_some"] (SpL T 1 m__law_of) := fn_okL F sc__law_of (by decide) (fun cdv A outer s H E G l1 l2 ds hl => match ds, hl with | [d1], _ => pk__law_of.2 T h f cdv A outer s H E G l1 l2 d1)
theorem ce__law_of_1 {T : Txt} (h : Facts T) : CalleeL T "_law_of" 1 [] 2 (callL 1 0 [] m__law_of) := mk_calleeL (ps := ["_law_deal", "_law_some"]) (pm := []) h.d__law_of (fun f fd F => ok__law_of h f fd F) rfl (fun kV doc pmv an cdv ct us ws hl hw => match us, hl, ws, hw with | [_, _], _, [], _ => rfl)
theorem sc__law_column : FnScope ["_law_deal", "_law_form", "_law_many", "_law_to", "_law_state", "_law_half"] ["_law_deal", "_law_form", "_law_many"] (defScope s__law_column) := ⟨rfl, rfl, rfl, by decide +kernel, rfl, by decide +kernel, by decide +kernel⟩
noncomputable def pk__law_column : {m : D → D → Deal → R (Fl Unit Unit × Deal) // ∀ (T : Txt) (h : Facts T) (f : Addr) (cdv : Value) (A : Around) (outer : List Env) (s : Shared) (H : Hp) (E : XK) (F : Hp) (l1 l2 : Addr) (d1 : D) (d2 : D), JB (bodyCtx T ["_law_deal", "_law_form", "_law_many", "_law_to", "_law_state", "_law_half"] "_law_column" s__law_column f cdv A outer s H E 2 F (onDeal l1 l2)) (fun dl : Deal => [some (.deal l1 l2 dl.1 dl.2), some (.val d1), some (.val d2), none, none, none]) (defBody s__law_column) (fun (_ : Unit) dl => [some (.deal l1 l2 dl.1 dl.2)]) (fun (_ : Unit) _ => []) (fun dl => [some (.deal l1 l2 dl.1 dl.2)]) (m d1 d2)} := ⟨fun d1 d2 => _, fun T h f cdv A outer s H E F l1 l2 d1 d2 => (jb_set 3 (je_callL 0 (ce__law_any_1 h) (Nat.le_of_ble_eq_true rfl) (ja_cons (je_var 2 (f := fun _ => d2)) ja_nil)) (fun v1 => (jb_if (fun (a2 : Unit) dl => [some (.deal l1 l2 dl.1 dl.2), some (.val d1), some (.val d2), some (.val v1), none, none]) (jt_cmp od_eq (je_var 1 (f := fun _ => d1)) je_int) (jb_ret (je_ofL (jel_lc1 4 [("_law_state", 4)] (ji_range1 (h.b_range) (je_var 2 (f := fun _ => d2))) (fun _ => jg_name 4) (fun _ v3 => jts_nil) (fun _ v3 => (je_op od_mod (je_blt (h.b_int) cd_int (ja_cons (je_op od_add (je_var 4 (f := fun _ => v3)) (je_var 3 (f := fun _ => v1))) ja_nil)) (je_var 2 (f := fun _ => d2)))))) (fun _ => SlotsLe.cons_same (SlotsLe.nil _)) (fun _ => Nat.le_of_ble_eq_true rfl)) (jb_nil (fun _ => ()) (fun _ => (SlotsLe.cons_same (SlotsLe.cons_same (SlotsLe.cons_same (SlotsLe.cons_same (SlotsLe.cons_none (SlotsLe.cons_none (SlotsLe.nil _)))))))) (fun _ => Nat.le_of_ble_eq_true rfl)) (fun a2 => (jb_if (fun (a4 : Unit) dl => [some (.deal l1 l2 dl.1 dl.2), some (.val d1), some (.val d2), some (.val v1), none, none]) (jt_cmp od_eq (je_var 1 (f := fun _ => d1)) je_int) (jb_ret (je_op od_mul (je_lst (ja_cons (je_var 3 (f := fun _ => v1)) ja_nil)) (je_var 2 (f := fun _ => d2))) (fun _ => SlotsLe.cons_same (SlotsLe.nil _)) (fun _ => Nat.le_of_ble_eq_true rfl)) (jb_nil (fun _ => ()) (fun _ => (SlotsLe.cons_same (SlotsLe.cons_same (SlotsLe.cons_same (SlotsLe.cons_same (SlotsLe.cons_none (SlotsLe.cons_none (SlotsLe.nil _)))))))) (fun _ => Nat.le_of_ble_eq_true rfl)) (fun a4 => (jb_if (fun (a5 : Unit) dl => [some (.deal l1 l2 dl.1 dl.2), some (.val d1), some (.val d2), some (.val v1), none, none]) (jt_cmp od_eq (je_var 1 (f := fun _ => d1)) je_int) (jb_ret (je_ofL (jel_lc1 4 [("_law_state", 4)] (ji_range1 (h.b_range) (je_var 2 (f := fun _ => d2))) (fun _ => jg_name 4) (fun _ v6 => jts_nil) (fun _ v6 => (je_if (jt_cmp od_eq (je_var 4 (f := fun _ => v6)) je_int) (je_var 3 (f := fun _ => v1)) (je_var 4 (f := fun _ => v6)))))) (fun _ => SlotsLe.cons_same (SlotsLe.nil _)) (fun _ => Nat.le_of_ble_eq_true rfl)) (jb_nil (fun _ => ()) (fun _ => (SlotsLe.cons_same (SlotsLe.cons_same (SlotsLe.cons_same (SlotsLe.cons_same (SlotsLe.cons_none (SlotsLe.cons_none (SlotsLe.nil _)))))))) (fun _ => Nat.le_of_ble_eq_true rfl)) (fun a5 => (jb_if (fun (a7 : Unit) dl => [some (.deal l1 l2 dl.1 dl.2), some (.val d1), some (.val d2), some (.val v1), none, none]) (jt_cmp od_eq (je_var 1 (f := fun _ => d1)) je_int) (jb_ret (je_ofL (jel_lc1 4 [("_law_state", 4)] (ji_range1 (h.b_range) (je_var 2 (f := fun _ => d2))) (fun _ => jg_name 4) (fun _ v8 => jts_nil) (fun _ v8 => (je_blt (h.b_max) cd_max2 (ja_cons je_int (ja_cons (je_blt (h.b_min) cd_min2 (ja_cons (je_op od_sub (je_var 2 (f := fun _ => d2)) je_int) (ja_cons (je_op od_sub (je_op od_add (je_var 4 (f := fun _ => v8)) (je_var 3 (f := fun _ => v1))) je_int) ja_nil))) ja_nil)))))) (fun _ => SlotsLe.cons_same (SlotsLe.nil _)) (fun _ => Nat.le_of_ble_eq_true rfl)) (jb_nil (fun _ => ()) (fun _ => (SlotsLe.cons_same (SlotsLe.cons_same (SlotsLe.cons_same (SlotsLe.cons_same (SlotsLe.cons_none (SlotsLe.cons_none (SlotsLe.nil _)))))))) (fun _ => Nat.le_of_ble_eq_true rfl)) (fun a7 => (jb_if (fun (a9 : Unit) dl => [some (.deal l1 l2 dl.1 dl.2), some (.val d1), some (.val d2), some (.val v1), none, none]) (jt_cmp od_eq (je_var 1 (f := fun _ => d1)) je_int) (jb_ret (je_callL 0 (ce__law_mixed_1 h) (Nat.le_of_ble_eq_true rfl) (ja_cons (je_ofL (jel_rg1 (h.b_list) (h.b_range) (je_var 2 (f := fun _ => d2)))) ja_nil)) (fun _ => SlotsLe.cons_same (SlotsLe.nil _)) (fun _ => Nat.le_of_ble_eq_true rfl)) (jb_nil (fun _ => ()) (fun _ => (SlotsLe.cons_same (SlotsLe.cons_same (SlotsLe.cons_same (SlotsLe.cons_same (SlotsLe.cons_none (SlotsLe.cons_none (SlotsLe.nil _)))))))) (fun _ => Nat.le_of_ble_eq_true rfl)) (fun a9 => (jb_if (fun (a10 : Unit) dl => [some (.deal l1 l2 dl.1 dl.2), some (.val d1), some (.val d2), some (.val v1), none, none]) (jt_cmp od_eq (je_var 1 (f := fun _ => d1)) je_int) (jb_ret (je_ofL (jel_lc1 4 [("_law_state", 4)] (ji_range1 (h.b_range) (je_var 2 (f := fun _ => d2))) (fun _ => jg_name 4) (fun _ v11 => jts_nil) (fun _ v11 => (je_blt (h.b_max) cd_max2 (ja_cons (je_var 4 (f := fun _ => v11)) (ja_cons (je_var 3 (f := fun _ => v1)) ja_nil)))))) (fun _ => SlotsLe.cons_same (SlotsLe.nil _)) (fun _ => Nat.le_of_ble_eq_true rfl)) (jb_nil (fun _ => ()) (fun _ => (SlotsLe.cons_same (SlotsLe.cons_same (SlotsLe.cons_same (SlotsLe.cons_same (SlotsLe.cons_none (SlotsLe.cons_none (SlotsLe.nil _)))))))) (fun _ => Nat.le_of_ble_eq_true rfl)) (fun a10 => (jb_if (fun (a12 : Unit) dl => [some (.deal l1 l2 dl.1 dl.2), some (.val d1), some (.val d2), some (.val v1), none, none]) (jt_cmp od_eq (je_var 1 (f := fun _ => d1)) je_int) (jb_set 5 (je_blt (h.b_max) cd_max2 (ja_cons je_int (ja_cons (je_op od_div (je_var 2 (f := fun _ => d2)) je_int) ja_nil))) (fun v13 => (jb_ret (je_ofL (jel_lc1 4 [("_law_state", 4)] (ji_range1 (h.b_range) (je_var 2 (f := fun _ => d2))) (fun _ => jg_name 4) (fun _ v14 => jts_nil) (fun _ v14 => (je_op od_add (je_op od_mod (je_blt (h.b_int) cd_int (ja_cons (je_op od_add (je_var 4 (f := fun _ => v14)) (je_var 3 (f := fun _ => v1))) ja_nil)) (je_var 5 (f := fun _ => v13))) (je_if (jt_w (jw_and (jt_cmp od_ge (je_var 4 (f := fun _ => v14)) (je_var 5 (f := fun _ => v13))) (jw_and1 (jt_cmp od_le (je_op od_mul je_int (je_var 5 (f := fun _ => v13))) (je_var 2 (f := fun _ => d2)))))) (je_var 5 (f := fun _ => v13)) je_int))))) (fun _ => SlotsLe.cons_same (SlotsLe.nil _)) (fun _ => Nat.le_of_ble_eq_true rfl)))) (jb_nil (fun _ => ()) (fun _ => (SlotsLe.cons_same (SlotsLe.cons_same (SlotsLe.cons_same (SlotsLe.cons_same (SlotsLe.cons_none (SlotsLe.cons_none (SlotsLe.nil _)))))))) (fun _ => Nat.le_of_ble_eq_true rfl)) (fun a12 => (jb_ret (je_ofL (jel_lc1 4 [("_law_state", 4)] (ji_range1 (h.b_range) (je_var 2 (f := fun _ => d2))) (fun _ => jg_name 4) (fun _ v15 => jts_nil) (fun _ v15 => (je_callL 0 (ce__law_any_1 h) (Nat.le_of_ble_eq_true rfl) (ja_cons (je_var 2 (f := fun _ => d2)) ja_nil))))) (fun _ => SlotsLe.cons_same (SlotsLe.nil _)) (fun _ => Nat.le_of_ble_eq_true rfl))))))))))))))))))⟩
noncomputable def m__law_column : List D → Deal → R (D × Deal) := fun ds dl => finish (ar2 (fun _ => .bad) pk__law_column.1 ds dl)
theorem ok__law_column {T : Txt} (h : Facts T) (f : Addr) (fd : FuncData) (F : Fun T.K "_law_column" "_law_column" s__law_column f fd) : FnG T.P T.w T.K T.mg T.base (L2.CX T.P T.w) 3 f fd ["_law_deal", "_law_form", "_law_many"] (SpL T 2 m__law_column) := fn_okL F sc__law_column (by decide) (fun cdv A outer s H E G l1 l2 ds hl => match ds, hl with | [d1, d2], _ => pk__law_column.2 T h f cdv A outer s H E G l1 l2 d1 d2)
theorem ce__law_column_2 {T : Txt} (h : Facts T) : CalleeL T "_law_column" 2 [] 3 (callL 2 0 [] m__law_column) := mk_calleeL (ps := ["_law_deal", "_law_form", "_law_many"]) (pm := []) h.d__law_column (fun f fd F => ok__law_column h f fd F) rfl (fun kV doc pmv an cdv ct us ws hl hw => match us, hl, ws, hw with | [_, _, _], _, [], _ => rfl)
theorem sc__law_machine : FnScope ["_law_deal", "_law_most", "_law_form", "_law_commands", "_law_one", "_law_other", "_law_s", "_law_many", "_law_columns_here", "_law_command", "_law_kind"] ["_law_deal", "_law_most"] (defScope s__law_machine) := ⟨rfl, rfl, rfl, by decide +kernel, rfl, by decide +kernel, by decide +kernel⟩
noncomputable def pk__law_machine : {m : D → Deal → R (Fl Unit Unit × Deal) // ∀ (T : Txt) (h : Facts T) (f : Addr) (cdv : Value) (A : Around) (outer : List Env) (s : Shared) (H : Hp) (E : XK) (F : Hp) (l1 l2 : Addr) (d1 : D), JB (bodyCtx T ["_law_deal", "_law_most", "_law_form", "_law_commands", "_law_one", "_law_other", "_law_s", "_law_many", "_law_columns_here", "_law_command", "_law_kind"] "_law_machine" s__law_machine f cdv A outer s H E 3 F (onDeal l1 l2)) (fun dl : Deal => [some (.deal l1 l2 dl.1 dl.2), some (.val d1), none, none, none, none, none, none, none, none, none]) (defBody s__law_machine) (fun (_ : Unit) dl => [some (.deal l1 l2 dl.1 dl.2)]) (fun (_ : Unit) _ => []) (fun dl => [some (.deal l1 l2 dl.1 dl.2)]) (m d1)} := ⟨fun d1 => _, fun T h f cdv A outer s H E F l1 l2 d1 => (jb_par2 2 3 (ja_cons (je_callL 0 (ce__law_any_1 h) (Nat.le_of_ble_eq_true rfl) (ja_cons je_int ja_nil)) (ja_cons (je_callL 0 (ce__law_of_1 h) (Nat.le_of_ble_eq_true rfl) (ja_cons (je_lst (ja_cons je_int (ja_cons je_int (ja_cons je_int (ja_cons je_int (ja_cons je_int ja_nil)))))) ja_nil)) ja_nil)) (fun v1 v2 => (jb_if (fun (a3 : Unit) dl => [some (.deal l1 l2 dl.1 dl.2), some (.val d1), some (.val v1), some (.val v2), none, none, none, none, none, none, none]) (jt_w (jw_and (jt_cmp od_eq (je_var 2 (f := fun _ => v1)) je_int) (jw_and1 (jt_cmp od_gt (je_var 1 (f := fun _ => d1)) je_int)))) (jb_ret (je_tup (ja_cons je_int (ja_cons (je_lst (ja_cons (je_lst (ja_cons je_int (ja_cons je_int ja_nil))) (ja_cons (je_lst (ja_cons je_int (ja_cons je_int ja_nil))) (ja_cons (je_lst (ja_cons je_int (ja_cons je_int ja_nil))) (ja_cons (je_lst (ja_cons je_int (ja_cons je_int ja_nil))) ja_nil))))) ja_nil))) (fun _ => SlotsLe.cons_same (SlotsLe.nil _)) (fun _ => Nat.le_of_ble_eq_true rfl)) (jb_nil (fun _ => ()) (fun _ => (SlotsLe.cons_same (SlotsLe.cons_same (SlotsLe.cons_same (SlotsLe.cons_same (SlotsLe.cons_none (SlotsLe.cons_none (SlotsLe.cons_none (SlotsLe.cons_none (SlotsLe.cons_none (SlotsLe.cons_none (SlotsLe.cons_none (SlotsLe.nil _))))))))))))) (fun _ => Nat.le_of_ble_eq_true rfl)) (fun a3 => (jb_if (fun (a4 : Unit) dl => [some (.deal l1 l2 dl.1 dl.2), some (.val d1), some (.val v1), some (.val v2), none, none, none, none, none, none, none]) (jt_w (jw_and (jt_cmp od_eq (je_var 2 (f := fun _ => v1)) je_int) (jw_and1 (jt_cmp od_gt (je_var 1 (f := fun _ => d1)) je_int)))) (jb_unp2 4 5 (je_tup (ja_cons (je_callL 0 (ce__law_any_1 h) (Nat.le_of_ble_eq_true rfl) (ja_cons je_int ja_nil)) (ja_cons (je_callL 0 (ce__law_of_1 h) (Nat.le_of_ble_eq_true rfl) (ja_cons (je_lst (ja_cons je_int (ja_cons je_int ja_nil))) ja_nil)) ja_nil))) (jg_tup (jgs_cons 4 (jgs_cons 5 jgs_nil))) (fun v5 v6 => (jb_ret (je_tup (ja_cons je_int (ja_cons (je_ofL (jel_lc1 6 [("_law_s", 6)] (ji_range1 (h.b_range) je_int) (fun _ => jg_name 6) (fun _ v7 => jts_nil) (fun _ v7 => (je_lst (ja_cons (je_op od_add (je_op od_mul je_int (je_op od_div (je_var 6 (f := fun _ => v7)) je_int)) (je_var 4 (f := fun _ => v5))) (ja_cons (je_if (jt_cmp od_eq (je_op od_mod (je_var 6 (f := fun _ => v7)) je_int) je_int) (je_op od_mod (je_blt (h.b_int) cd_int (ja_cons (je_op od_add (je_var 6 (f := fun _ => v7)) (je_var 5 (f := fun _ => v6))) ja_nil)) je_int) (je_op od_mod (je_blt (h.b_int) cd_int (ja_cons (je_op od_add (je_var 6 (f := fun _ => v7)) je_int) ja_nil)) je_int)) ja_nil)))))) ja_nil))) (fun _ => SlotsLe.cons_same (SlotsLe.nil _)) (fun _ => Nat.le_of_ble_eq_true rfl)))) (jb_nil (fun _ => ()) (fun _ => (SlotsLe.cons_same (SlotsLe.cons_same (SlotsLe.cons_same (SlotsLe.cons_same (SlotsLe.cons_none (SlotsLe.cons_none (SlotsLe.cons_none (SlotsLe.cons_none (SlotsLe.cons_none (SlotsLe.cons_none (SlotsLe.cons_none (SlotsLe.nil _))))))))))))) (fun _ => Nat.le_of_ble_eq_true rfl)) (fun a4 => (jb_par2vl 7 8 (je_op od_add je_int (je_callL 0 (ce__law_any_1 h) (Nat.le_of_ble_eq_true rfl) (ja_cons (je_var 1 (f := fun _ => d1)) ja_nil))) (jel_lst ja_nil) (fun v8 w9 => (jb_for 9 (fun (a10 : List D) dl => [some (.deal l1 l2 dl.1 dl.2), some (.val d1), some (.val v1), some (.val v2), none, none, none, some (.val v8), some (.own a10), none, none]) (fun _ => w9) (ji_range1 (h.b_range) (je_var 3 (f := fun _ => v2))) (fun _ => (SlotsLe.cons_same (SlotsLe.cons_same (SlotsLe.cons_same (SlotsLe.cons_same (SlotsLe.cons_none (SlotsLe.cons_none (SlotsLe.cons_none (SlotsLe.cons_same (SlotsLe.cons_same (SlotsLe.cons_none (SlotsLe.cons_none (SlotsLe.nil _))))))))))))) (fun _ => Nat.le_of_ble_eq_true rfl) (fun v11 a10 => (jb_set 10 (je_if (jt_cmp od_gt (je_var 2 (f := fun _ => v1)) je_int) (je_callL 0 (ce__law_any_1 h) (Nat.le_of_ble_eq_true rfl) (ja_cons je_int ja_nil)) (je_var 2 (f := fun _ => v1))) (fun v12 => (jb_append 8 (f := fun _ => a10) (je_callL 0 (ce__law_column_2 h) (Nat.le_of_ble_eq_true rfl) (ja_cons (je_var 10 (f := fun _ => v12)) (ja_cons (je_var 7 (f := fun _ => v8)) ja_nil))) (fun w13 => (jb_nil (fun _ => w13) (fun _ => (SlotsLe.cons_same (SlotsLe.cons_same (SlotsLe.cons_same (SlotsLe.cons_same (SlotsLe.cons_none (SlotsLe.cons_none (SlotsLe.cons_none (SlotsLe.cons_same (SlotsLe.cons_same (SlotsLe.cons_none (SlotsLe.cons_none (SlotsLe.nil _))))))))))))) (fun _ => Nat.le_of_ble_eq_true rfl))))))) (fun a10 => (jb_freeze 8 (f := fun _ => a10) (jb_ret (je_tup (ja_cons (je_var 3 (f := fun _ => v2)) (ja_cons (je_call (ce__law_columns_1 h) (Nat.le_of_ble_eq_true rfl) (ja_cons (je_var 8 (f := fun _ => (.lst a10))) ja_nil)) ja_nil))) (fun _ => SlotsLe.cons_same (SlotsLe.nil _)) (fun _ => Nat.le_of_ble_eq_true rfl)))))))))))))⟩
noncomputable def m__law_machine : List D → Deal → R (D × Deal) := fun ds dl => finish (ar1 (fun _ => .bad) pk__law_machine.1 ds dl)
theorem ok__law_machine {T : Txt} (h : Facts T) (f : Addr) (fd : FuncData) (F : Fun T.K "_law_machine" "_law_machine" s__law_machine f fd) : FnG T.P T.w T.K T.mg T.base (L2.CX T.P T.w) 4 f fd ["_law_deal", "_law_most"] (SpL T 1 m__law_machine) := fn_okL F sc__law_machine (by decide) (fun cdv A outer s H E G l1 l2 ds hl => match ds, hl with | [d1], _ => pk__law_machine.2 T h f cdv A outer s H E G l1 l2 d1)
theorem ce__law_machine_1 {T : Txt} (h : Facts T) : CalleeL T "_law_machine" 1 [] 4 (callL 1 0 [] m__law_machine) := mk_calleeL (ps := ["_law_deal", "_law_most"]) (pm := []) h.d__law_machine (fun f fd F => ok__law_machine h f fd F) rfl (fun kV doc pmv an cdv ct us ws hl hw => match us, hl, ws, hw with | [_, _], _, [], _ => rfl)
theorem sc__law_beside : FnScope ["_law_steps", "_law_bits", "_law_found", "_law_row_here", "_law_bit", "_law_command"] ["_law_steps", "_law_bits"] (defScope s__law_beside) := ⟨rfl, rfl, rfl, by decide +kernel, rfl, by decide +kernel, by decide +kernel⟩
noncomputable def pk__law_beside : {m : D → D → Unit → R (Fl Unit Unit × Unit) // ∀ (T : Txt) (h : Facts T) (f : Addr) (cdv : Value) (A : Around) (outer : List Env) (s : Shared) (H : Hp) (E : XK) (F : Hp) (d0 : D) (d1 : D), JB (bodyCtx T ["_law_steps", "_law_bits", "_law_found", "_law_row_here", "_law_bit", "_law_command"] "_law_beside" s__law_beside f cdv A outer s H E 0 F fun _ => False) (fun _ : Unit => [some (.val d0), some (.val d1), none, none, none, none]) (defBody s__law_beside) (fun (_ : Unit) _ => []) (fun (_ : Unit) _ => []) (fun _ => []) (m d0 d1)} := ⟨fun d0 d1 => _, fun T h f cdv A outer s H E F d0 d1 => (jb_setL 2 (jel_lst ja_nil) (fun w1 => (jb_for 3 (fun (a2 : List D) _ => [some (.val d0), some (.val d1), some (.own a2), none, none, none]) (fun _ => w1) (ji_seq (je_var 0 (f := fun _ => d0))) (fun _ => (SlotsLe.cons_same (SlotsLe.cons_same (SlotsLe.cons_same (SlotsLe.cons_none (SlotsLe.cons_none (SlotsLe.cons_none (SlotsLe.nil _)))))))) (fun _ => Nat.le_of_ble_eq_true rfl) (fun v3 a2 => (jb_for 4 (fun (a4 : List D) _ => [some (.val d0), some (.val d1), some (.own a4), some (.val v3), none, none]) (fun _ => a2) (ji_range1 (h.b_range) je_int) (fun _ => (SlotsLe.cons_same (SlotsLe.cons_same (SlotsLe.cons_same (SlotsLe.cons_same (SlotsLe.cons_none (SlotsLe.cons_none (SlotsLe.nil _)))))))) (fun _ => Nat.le_of_ble_eq_true rfl) (fun v5 a4 => (jb_append 2 (f := fun _ => a4) (je_ofL (jel_lc1 5 [("_law_command", 5)] (ji_range1 (h.b_range) (je_blt (h.b_len) cd_len (ja_cons (je_var 1 (f := fun _ => d1)) ja_nil))) (fun _ => jg_name 5) (fun _ v7 => jts_nil) (fun _ v7 => (je_op od_add (je_op od_mul je_int (je_ix (je_var 3 (f := fun _ => v3)) (je_var 5 (f := fun _ => v7)))) (je_ix (je_ix (je_var 1 (f := fun _ => d1)) (je_var 5 (f := fun _ => v7))) (je_var 4 (f := fun _ => v5))))))) (fun w6 => (jb_nil (fun _ => w6) (fun _ => (SlotsLe.cons_same (SlotsLe.cons_same (SlotsLe.cons_same (SlotsLe.cons_same (SlotsLe.cons_none (SlotsLe.cons_none (SlotsLe.nil _)))))))) (fun _ => Nat.le_of_ble_eq_true rfl))))) (fun a4 => (jb_nil (fun _ => a4) (fun _ => (SlotsLe.cons_same (SlotsLe.cons_same (SlotsLe.cons_same (SlotsLe.cons_none (SlotsLe.cons_none (SlotsLe.cons_none (SlotsLe.nil _)))))))) (fun _ => Nat.le_of_ble_eq_true rfl))))) (fun a2 => (jb_retOwn 2 (f := fun _ => a2) (fun _ _ z => z.elim) (fun _ => SlotsLe.nil _) (fun _ => Nat.le_of_ble_eq_true rfl))))))⟩
noncomputable def m__law_beside : List D → R D := fun ds => finish1 ((ar2 .bad fun d0 d1 => pk__law_beside.1 d0 d1 ()) ds)
theorem ok__law_beside {T : Txt} (h : Facts T) (f : Addr) (fd : FuncData) (F : Fun T.K "_law_beside" "_law_beside" s__law_beside f fd) : FnG T.P T.w T.K T.mg T.base (L2.CX T.P T.w) 1 f fd ["_law_steps", "_law_bits"] (SpD T 2 m__law_beside) := fn_ok F sc__law_beside (fun cdv A outer s H E G ds hl => match ds, hl with | [d0, d1], _ => pk__law_beside.2 T h f cdv A outer s H E G d0 d1)
theorem ce__law_beside_2 {T : Txt} (h : Facts T) : CalleeD T "_law_beside" 2 [] 1 (callM 2 0 [] m__law_beside) := mk_calleeD (ps := ["_law_steps", "_law_bits"]) (pm := []) h.d__law_beside (fun f fd F => ok__law_beside h f fd F) rfl (fun kV doc pmv an cdv ct us ws hl hw => match us, hl, ws, hw with | [_, _], _, [], _ => rfl)
theorem sc__law_blind : FnScope ["_law_steps", "_law_rows", "_law_one", "_law_state", "_law_least", "_law_command"] ["_law_steps", "_law_rows"] (defScope s__law_blind) := ⟨rfl, rfl, rfl, by decide +kernel, rfl, by decide +kernel, by decide +kernel⟩
noncomputable def pk__law_blind : {m : D → D → Unit → R (Fl Unit Unit × Unit) // ∀ (T : Txt) (h : Facts T) (f : Addr) (cdv : Value) (A : Around) (outer : List Env) (s : Shared) (H : Hp) (E : XK) (F : Hp) (d0 : D) (d1 : D), JB (bodyCtx T ["_law_steps", "_law_rows", "_law_one", "_law_state", "_law_least", "_law_command"] "_law_blind" s__law_blind f cdv A outer s H E 0 F fun _ => False) (fun _ : Unit => [some (.val d0), some (.val d1), none, none, none, none]) (defBody s__law_blind) (fun (_ : Unit) _ => []) (fun (_ : Unit) _ => []) (fun _ => []) (m d0 d1)} := ⟨fun d0 d1 => _, fun T h f cdv A outer s H E F d0 d1 => (jb_for 2 (fun (a1 : Unit) _ => [some (.val d0), some (.val d1), none, none, none, none]) (fun _ => ()) (ji_seq (je_blt (h.b_list) cd_list (ja_cons (je_var 1 (f := fun _ => d1)) ja_nil))) (fun _ => (SlotsLe.cons_same (SlotsLe.cons_same (SlotsLe.cons_none (SlotsLe.cons_none (SlotsLe.cons_none (SlotsLe.cons_none (SlotsLe.nil _)))))))) (fun _ => Nat.le_of_ble_eq_true rfl) (fun v2 a1 => (jb_for 3 (fun (a3 : Unit) _ => [some (.val d0), some (.val d1), some (.val v2), none, none, none]) (fun _ => ()) (ji_range1 (h.b_range) (je_blt (h.b_len) cd_len (ja_cons (je_var 0 (f := fun _ => d0)) ja_nil))) (fun _ => (SlotsLe.cons_same (SlotsLe.cons_same (SlotsLe.cons_same (SlotsLe.cons_none (SlotsLe.cons_none (SlotsLe.cons_none (SlotsLe.nil _)))))))) (fun _ => Nat.le_of_ble_eq_true rfl) (fun v4 a3 => (jb_set 4 (je_ix (je_var 2 (f := fun _ => v2)) (je_var 3 (f := fun _ => v4))) (fun v5 => (jb_for 5 (fun (a6 : Unit) _ => [some (.val d0), some (.val d1), some (.val v2), some (.val v4), some (.val v5), none]) (fun _ => ()) (ji_range1 (h.b_range) (je_blt (h.b_len) cd_len (ja_cons (je_ix (je_var 0 (f := fun _ => d0)) je_int) ja_nil))) (fun _ => (SlotsLe.cons_same (SlotsLe.cons_same (SlotsLe.cons_same (SlotsLe.cons_same (SlotsLe.cons_same (SlotsLe.cons_none (SlotsLe.nil _)))))))) (fun _ => Nat.le_of_ble_eq_true rfl) (fun v7 a6 => (jb_if (fun (a8 : Unit) _ => [some (.val d0), some (.val d1), some (.val v2), some (.val v4), some (.val v5), some (.val v7)]) (jt_cmp od_ne (je_ix (je_var 2 (f := fun _ => v2)) (je_ix (je_ix (je_var 0 (f := fun _ => d0)) (je_var 3 (f := fun _ => v4))) (je_var 5 (f := fun _ => v7)))) (je_ix (je_var 2 (f := fun _ => v2)) (je_ix (je_ix (je_var 0 (f := fun _ => d0)) (je_var 4 (f := fun _ => v5))) (je_var 5 (f := fun _ => v7))))) (jb_ret je_bl (fun _ => SlotsLe.nil _) (fun _ => Nat.le_of_ble_eq_true rfl)) (jb_nil (fun _ => ()) (fun _ => (SlotsLe.cons_same (SlotsLe.cons_same (SlotsLe.cons_same (SlotsLe.cons_same (SlotsLe.cons_same (SlotsLe.cons_same (SlotsLe.nil _)))))))) (fun _ => Nat.le_of_ble_eq_true rfl)) (fun a8 => (jb_nil (fun _ => ()) (fun _ => (SlotsLe.cons_same (SlotsLe.cons_same (SlotsLe.cons_same (SlotsLe.cons_same (SlotsLe.cons_same (SlotsLe.cons_none (SlotsLe.nil _)))))))) (fun _ => Nat.le_of_ble_eq_true rfl))))) (fun a6 => (jb_nil (fun _ => ()) (fun _ => (SlotsLe.cons_same (SlotsLe.cons_same (SlotsLe.cons_same (SlotsLe.cons_none (SlotsLe.cons_none (SlotsLe.cons_none (SlotsLe.nil _)))))))) (fun _ => Nat.le_of_ble_eq_true rfl))))))) (fun a3 => (jb_nil (fun _ => ()) (fun _ => (SlotsLe.cons_same (SlotsLe.cons_same (SlotsLe.cons_none (SlotsLe.cons_none (SlotsLe.cons_none (SlotsLe.cons_none (SlotsLe.nil _)))))))) (fun _ => Nat.le_of_ble_eq_true rfl))))) (fun a1 => (jb_ret je_bl (fun _ => SlotsLe.nil _) (fun _ => Nat.le_of_ble_eq_true rfl))))⟩
noncomputable def m__law_blind : List D → R D := fun ds => finish1 ((ar2 .bad fun d0 d1 => pk__law_blind.1 d0 d1 ()) ds)
theorem ok__law_blind {T : Txt} (h : Facts T) (f : Addr) (fd : FuncData) (F : Fun T.K "_law_blind" "_law_blind" s__law_blind f fd) : FnG T.P T.w T.K T.mg T.base (L2.CX T.P T.w) 1 f fd ["_law_steps", "_law_rows"] (SpD T 2 m__law_blind) := fn_ok F sc__law_blind (fun cdv A outer s H E G ds hl => match ds, hl with | [d0, d1], _ => pk__law_blind.2 T h f cdv A outer s H E G d0 d1)
theorem ce__law_blind_2 {T : Txt} (h : Facts T) : CalleeD T "_law_blind" 2 [] 1 (callM 2 0 [] m__law_blind) := mk_calleeD (ps := ["_law_steps", "_law_rows"]) (pm := []) h.d__law_blind (fun f fd F => ok__law_blind h f fd F) rfl (fun kV doc pmv an cdv ct us ws hl hw => match us, hl, ws, hw with | [_, _], _, [], _ => rfl)
theorem sc__law_few : FnScope ["_law_steps", "_law_idle", "_law_found", "_law_fresh", "_law_later", "_law_one", "_law_command", "_law_row_here", "_law_led_here", "_law_state", "_law_longer"] ["_law_steps"] (defScope s__law_few) := ⟨rfl, rfl, rfl, by decide +kernel, rfl, by decide +kernel, by decide +kernel⟩
noncomputable def pk__law_few : {m : D → Unit → R (Fl Unit Unit × Unit) // ∀ (T : Txt) (h : Facts T) (f : Addr) (cdv : Value) (A : Around) (outer : List Env) (s : Shared) (H : Hp) (E : XK) (F : Hp) (d0 : D), JB (bodyCtx T ["_law_steps", "_law_idle", "_law_found", "_law_fresh", "_law_later", "_law_one", "_law_command", "_law_row_here", "_law_led_here", "_law_state", "_law_longer"] "_law_few" s__law_few f cdv A outer s H E 0 F fun _ => False) (fun _ : Unit => [some (.val d0), none, none, none, none, none, none, none, none, none, none]) (defBody s__law_few) (fun (_ : Unit) _ => []) (fun (_ : Unit) _ => []) (fun _ => []) (m d0)} := ⟨fun d0 => _, fun T h f cdv A outer s H E F d0 => (jb_set 1 (je_blt (h.b_tuple) cd_tuple (ja_cons (je_ofL (jel_rg1 (h.b_list) (h.b_range) (je_blt (h.b_len) cd_len (ja_cons (je_var 0 (f := fun _ => d0)) ja_nil)))) ja_nil)) (fun v1 => (jb_par2tv 2 3 (fun _ _ _ => (je_var 1 (f := fun _ => v1))) (fun _ _ _ => (je_tup ja_nil)) (fun _ _ _ => (je_lst (ja_cons (je_var 1 (f := fun _ => v1)) ja_nil))) (fun w3 v2 => (jb_while 1000 (fun (a4 : List (List Key × D) × D) _ => [some (.val d0), some (.val v1), some (.owt a4.1), some (.val a4.2), none, none, none, none, none, none, none]) (fun _ => (w3, v2)) (fun _ => (SlotsLe.cons_same (SlotsLe.cons_same (SlotsLe.cons_same (SlotsLe.cons_same (SlotsLe.cons_none (SlotsLe.cons_none (SlotsLe.cons_none (SlotsLe.cons_none (SlotsLe.cons_none (SlotsLe.cons_none (SlotsLe.cons_none (SlotsLe.nil _))))))))))))) (fun _ => Nat.le_of_ble_eq_true rfl) (fun a4 => (jt_cmp od_ne (je_var 3 (f := fun _ => a4.2)) (je_lst ja_nil))) (fun a4 => (jb_setL 4 (jel_lst ja_nil) (fun w5 => (jb_for 5 (fun (a6 : List (List Key × D) × List D) _ => [some (.val d0), some (.val v1), some (.owt a6.1), some (.val a4.2), some (.own a6.2), none, none, none, none, none, none]) (fun _ => (a4.1, w5)) (ji_seq (je_var 3 (f := fun _ => a4.2))) (fun _ => (SlotsLe.cons_same (SlotsLe.cons_same (SlotsLe.cons_same (SlotsLe.cons_same (SlotsLe.cons_same (SlotsLe.cons_none (SlotsLe.cons_none (SlotsLe.cons_none (SlotsLe.cons_none (SlotsLe.cons_none (SlotsLe.cons_none (SlotsLe.nil _))))))))))))) (fun _ => Nat.le_of_ble_eq_true rfl) (fun v7 a6 => (jb_for 6 (fun (a8 : List (List Key × D) × List D) _ => [some (.val d0), some (.val v1), some (.owt a8.1), some (.val a4.2), some (.own a8.2), some (.val v7), none, none, none, none, none]) (fun _ => (a6.1, a6.2)) (ji_range1 (h.b_range) (je_blt (h.b_len) cd_len (ja_cons (je_ix (je_var 0 (f := fun _ => d0)) je_int) ja_nil))) (fun _ => (SlotsLe.cons_same (SlotsLe.cons_same (SlotsLe.cons_same (SlotsLe.cons_same (SlotsLe.cons_same (SlotsLe.cons_same (SlotsLe.cons_none (SlotsLe.cons_none (SlotsLe.cons_none (SlotsLe.cons_none (SlotsLe.cons_none (SlotsLe.nil _))))))))))))) (fun _ => Nat.le_of_ble_eq_true rfl) (fun v9 a8 => (jb_set 8 (je_ofL (jel_lc1 7 [("_law_row_here", 7)] (ji_seq (je_var 0 (f := fun _ => d0))) (fun _ => jg_name 7) (fun _ v11 => jts_nil) (fun _ v11 => (je_ix (je_var 5 (f := fun _ => v7)) (je_ix (je_var 7 (f := fun _ => v11)) (je_var 6 (f := fun _ => v9))))))) (fun v10 => (jb_set 10 (je_blt (h.b_tuple) cd_tuple (ja_cons (je_ofL (jel_lc1 9 [("_law_state", 9)] (ji_seq (je_var 8 (f := fun _ => v10))) (fun _ => jg_name 9) (fun _ v13 => jts_nil) (fun _ v13 => (je_index (je_var 8 (f := fun _ => v10)) (je_var 9 (f := fun _ => v13)))))) ja_nil)) (fun v12 => (jb_if (fun (a14 : List (List Key × D) × List D) _ => [some (.val d0), some (.val v1), some (.owt a14.1), some (.val a4.2), some (.own a14.2), some (.val v7), some (.val v9), none, some (.val v10), none, some (.val v12)]) (jt_notInT 2 (f := fun _ => a8.1) (je_var 10 (f := fun _ => v12))) (jb_putT 2 (f := fun _ => a8.1) (je_op od_add (je_tup (ja_cons (je_var 6 (f := fun _ => v9)) ja_nil)) (je_getT 2 (f := fun _ => a8.1) (je_var 5 (f := fun _ => v7)))) (je_var 10 (f := fun _ => v12)) (fun w15 => (jb_append 4 (f := fun _ => a8.2) (je_var 10 (f := fun _ => v12)) (fun w16 => (jb_nil (fun _ => (w15, w16)) (fun _ => (SlotsLe.cons_same (SlotsLe.cons_same (SlotsLe.cons_same (SlotsLe.cons_same (SlotsLe.cons_same (SlotsLe.cons_same (SlotsLe.cons_same (SlotsLe.cons_none (SlotsLe.cons_same (SlotsLe.cons_none (SlotsLe.cons_same (SlotsLe.nil _))))))))))))) (fun _ => Nat.le_of_ble_eq_true rfl)))))) (jb_nil (fun _ => (a8.1, a8.2)) (fun _ => (SlotsLe.cons_same (SlotsLe.cons_same (SlotsLe.cons_same (SlotsLe.cons_same (SlotsLe.cons_same (SlotsLe.cons_same (SlotsLe.cons_same (SlotsLe.cons_none (SlotsLe.cons_same (SlotsLe.cons_none (SlotsLe.cons_same (SlotsLe.nil _))))))))))))) (fun _ => Nat.le_of_ble_eq_true rfl)) (fun a14 => (jb_nil (fun _ => (a14.1, a14.2)) (fun _ => (SlotsLe.cons_same (SlotsLe.cons_same (SlotsLe.cons_same (SlotsLe.cons_same (SlotsLe.cons_same (SlotsLe.cons_same (SlotsLe.cons_none (SlotsLe.cons_none (SlotsLe.cons_none (SlotsLe.cons_none (SlotsLe.cons_none (SlotsLe.nil _))))))))))))) (fun _ => Nat.le_of_ble_eq_true rfl))))))))) (fun a8 => (jb_nil (fun _ => (a8.1, a8.2)) (fun _ => (SlotsLe.cons_same (SlotsLe.cons_same (SlotsLe.cons_same (SlotsLe.cons_same (SlotsLe.cons_same (SlotsLe.cons_none (SlotsLe.cons_none (SlotsLe.cons_none (SlotsLe.cons_none (SlotsLe.cons_none (SlotsLe.cons_none (SlotsLe.nil _))))))))))))) (fun _ => Nat.le_of_ble_eq_true rfl))))) (fun a6 => (jb_freeze 4 (f := fun _ => a6.2) (jb_set 3 (je_var 4 (f := fun _ => (.lst a6.2))) (fun v17 => (jb_nil (fun _ => (a6.1, v17)) (fun _ => (SlotsLe.cons_same (SlotsLe.cons_same (SlotsLe.cons_same (SlotsLe.cons_same (SlotsLe.cons_none (SlotsLe.cons_none (SlotsLe.cons_none (SlotsLe.cons_none (SlotsLe.cons_none (SlotsLe.cons_none (SlotsLe.cons_none (SlotsLe.nil _))))))))))))) (fun _ => Nat.le_of_ble_eq_true rfl)))))))))) (fun a4 => (jb_freezeT 2 (f := fun _ => a4.1) (jb_ret (je_var 2 (f := fun _ => (.dcT a4.1))) (fun _ => SlotsLe.nil _) (fun _ => Nat.le_of_ble_eq_true rfl)))))))))⟩
noncomputable def m__law_few : List D → R D := fun ds => finish1 ((ar1 .bad fun d0 => pk__law_few.1 d0 ()) ds)
theorem ok__law_few {T : Txt} (h : Facts T) (f : Addr) (fd : FuncData) (F : Fun T.K "_law_few" "_law_few" s__law_few f fd) : FnG T.P T.w T.K T.mg T.base (L2.CX T.P T.w) 1 f fd ["_law_steps"] (SpD T 1 m__law_few) := fn_ok F sc__law_few (fun cdv A outer s H E G ds hl => match ds, hl with | [d0], _ => pk__law_few.2 T h f cdv A outer s H E G d0)
theorem ce__law_few_1 {T : Txt} (h : Facts T) : CalleeD T "_law_few" 1 [] 1 (callM 1 0 [] m__law_few) := mk_calleeD (ps := ["_law_steps"]) (pm := []) h.d__law_few (fun f fd F => ok__law_few h f fd F) rfl (fun kV doc pmv an cdv ct us ws hl hw => match us, hl, ws, hw with | [_], _, [], _ => rfl)
theorem sc__law_stock : FnScope ["_law_deal", "_law_most", "_law_odds", "_law_place", "_law_state", "_law_to", "_law_columns_here", "_law_turn", "_law_commands", "_law_steps", "_law_command"] ["_law_deal", "_law_most", "_law_odds"] (defScope s__law_stock) := ⟨rfl, rfl, rfl, by decide +kernel, rfl, by decide +kernel, by decide +kernel⟩
noncomputable def pk__law_stock : {m : D → D → Deal → R (Fl Unit Unit × Deal) // ∀ (T : Txt) (h : Facts T) (f : Addr) (cdv : Value) (A : Around) (outer : List Env) (s : Shared) (H : Hp) (E : XK) (F : Hp) (l1 l2 : Addr) (d1 : D) (d2 : D), JB (bodyCtx T ["_law_deal", "_law_most", "_law_odds", "_law_place", "_law_state", "_law_to", "_law_columns_here", "_law_turn", "_law_commands", "_law_steps", "_law_command"] "_law_stock" s__law_stock f cdv A outer s H E 4 F (onDeal l1 l2)) (fun dl : Deal => [some (.deal l1 l2 dl.1 dl.2), some (.val d1), some (.val d2), none, none, none, none, none, none, none, none]) (defBody s__law_stock) (fun (_ : Unit) dl => [some (.deal l1 l2 dl.1 dl.2)]) (fun (_ : Unit) _ => []) (fun dl => [some (.deal l1 l2 dl.1 dl.2)]) (m d1 d2)} := ⟨fun d1 d2 => _, fun T h f cdv A outer s H E F l1 l2 d1 d2 => (jb_if (fun (a1 : Unit) dl => [some (.deal l1 l2 dl.1 dl.2), some (.val d1), some (.val d2), none, none, none, none, none, none, none, none]) (jt_cmp od_eq (je_callL 0 (ce__law_any_1 h) (Nat.le_of_ble_eq_true rfl) (ja_cons je_int ja_nil)) je_int) (jb_ret (je_callL 0 (ce__law_guarded_0 h) (Nat.le_of_ble_eq_true rfl) ja_nil) (fun _ => SlotsLe.cons_same (SlotsLe.nil _)) (fun _ => Nat.le_of_ble_eq_true rfl)) (jb_nil (fun _ => ()) (fun _ => (SlotsLe.cons_same (SlotsLe.cons_same (SlotsLe.cons_same (SlotsLe.cons_none (SlotsLe.cons_none (SlotsLe.cons_none (SlotsLe.cons_none (SlotsLe.cons_none (SlotsLe.cons_none (SlotsLe.cons_none (SlotsLe.cons_none (SlotsLe.nil _))))))))))))) (fun _ => Nat.le_of_ble_eq_true rfl)) (fun a1 => (jb_if (fun (a2 : Unit) dl => [some (.deal l1 l2 dl.1 dl.2), some (.val d1), some (.val d2), none, none, none, none, none, none, none, none]) (jt_cmp od_eq (je_callL 0 (ce__law_any_1 h) (Nat.le_of_ble_eq_true rfl) (ja_cons (je_var 2 (f := fun _ => d2)) ja_nil)) je_int) (jb_set 3 (je_callL 0 (ce__law_mixed_1 h) (Nat.le_of_ble_eq_true rfl) (ja_cons (je_lst (ja_cons je_int (ja_cons je_int (ja_cons je_int ja_nil)))) ja_nil)) (fun v3 => (jb_setLc1 6 5 [("_law_to", 5)] (ji_seq (je_cut (je_var 3 (f := fun _ => v3)) (jo_some je_int) jo_none)) (fun _ => jg_name 5) (fun _ v5 => jts_nil) (fun _ v5 => (je_ofL (jel_lc1 4 [("_law_state", 4)] (ji_range1 (h.b_range) je_int) (fun _ => jg_name 4) (fun _ v6 => jts_nil) (fun _ v6 => (je_if (jt_cmp od_eq (je_var 4 (f := fun _ => v6)) (je_ix (je_var 3 (f := fun _ => v3)) je_int)) (je_var 5 (f := fun _ => v5)) (je_var 4 (f := fun _ => v6))))))) (fun w4 => (jb_freeze 6 (f := fun _ => w4) (jb_ret (je_tup (ja_cons je_int (ja_cons (je_call (ce__law_columns_1 h) (Nat.le_of_ble_eq_true rfl) (ja_cons (je_var 6 (f := fun _ => (.lst w4))) ja_nil)) (ja_cons (je_tup (ja_cons je_int (ja_cons je_int ja_nil))) ja_nil)))) (fun _ => SlotsLe.cons_same (SlotsLe.nil _)) (fun _ => Nat.le_of_ble_eq_true rfl))))))) (jb_nil (fun _ => ()) (fun _ => (SlotsLe.cons_same (SlotsLe.cons_same (SlotsLe.cons_same (SlotsLe.cons_none (SlotsLe.cons_none (SlotsLe.cons_none (SlotsLe.cons_none (SlotsLe.cons_none (SlotsLe.cons_none (SlotsLe.cons_none (SlotsLe.cons_none (SlotsLe.nil _))))))))))))) (fun _ => Nat.le_of_ble_eq_true rfl)) (fun a2 => (jb_for 7 (fun (a7 : Unit) dl => [some (.deal l1 l2 dl.1 dl.2), some (.val d1), some (.val d2), none, none, none, none, none, none, none, none]) (fun _ => ()) (ji_range1 (h.b_range) je_int) (fun _ => (SlotsLe.cons_same (SlotsLe.cons_same (SlotsLe.cons_same (SlotsLe.cons_none (SlotsLe.cons_none (SlotsLe.cons_none (SlotsLe.cons_none (SlotsLe.cons_none (SlotsLe.cons_none (SlotsLe.cons_none (SlotsLe.cons_none (SlotsLe.nil _))))))))))))) (fun _ => Nat.le_of_ble_eq_true rfl) (fun v8 a7 => (jb_unp2 8 9 (je_callL 0 (ce__law_machine_1 h) (Nat.le_of_ble_eq_true rfl) (ja_cons (je_var 1 (f := fun _ => d1)) ja_nil)) (jg_tup (jgs_cons 8 (jgs_cons 9 jgs_nil))) (fun v9 v10 => (jb_if (fun (a11 : D) dl => [some (.deal l1 l2 dl.1 dl.2), some (.val d1), some (.val d2), none, none, none, none, some (.val v8), some (.val v9), some (.val a11), none]) (jt_w (jw_and (jt_cmp od_lt (je_blt (h.b_len) cd_len (ja_cons (je_var 9 (f := fun _ => v10)) ja_nil)) je_int) (jw_and1 (jt_cmp od_eq (je_callL 0 (ce__law_any_1 h) (Nat.le_of_ble_eq_true rfl) (ja_cons je_int ja_nil)) je_int)))) (jb_set 9 (je_call (ce__law_beside_2 h) (Nat.le_of_ble_eq_true rfl) (ja_cons (je_var 9 (f := fun _ => v10)) (ja_cons (je_ofL (jel_lc1 10 [("_law_command", 10)] (ji_range1 (h.b_range) (je_var 8 (f := fun _ => v9))) (fun _ => jg_name 10) (fun _ v13 => jts_nil) (fun _ v13 => (je_callL 0 (ce__law_of_1 h) (Nat.le_of_ble_eq_true rfl) (ja_cons (je_lst (ja_cons (je_lst (ja_cons je_int (ja_cons je_int ja_nil))) (ja_cons (je_lst (ja_cons je_int (ja_cons je_int ja_nil))) (ja_cons (je_lst (ja_cons je_int (ja_cons je_int ja_nil))) (ja_cons (je_lst (ja_cons je_int (ja_cons je_int ja_nil))) ja_nil))))) ja_nil))))) ja_nil))) (fun v12 => (jb_nil (fun _ => v12) (fun _ => (SlotsLe.cons_same (SlotsLe.cons_same (SlotsLe.cons_same (SlotsLe.cons_none (SlotsLe.cons_none (SlotsLe.cons_none (SlotsLe.cons_none (SlotsLe.cons_same (SlotsLe.cons_same (SlotsLe.cons_same (SlotsLe.cons_none (SlotsLe.nil _))))))))))))) (fun _ => Nat.le_of_ble_eq_true rfl)))) (jb_nil (fun _ => v10) (fun _ => (SlotsLe.cons_same (SlotsLe.cons_same (SlotsLe.cons_same (SlotsLe.cons_none (SlotsLe.cons_none (SlotsLe.cons_none (SlotsLe.cons_none (SlotsLe.cons_same (SlotsLe.cons_same (SlotsLe.cons_same (SlotsLe.cons_none (SlotsLe.nil _))))))))))))) (fun _ => Nat.le_of_ble_eq_true rfl)) (fun a11 => (jb_if (fun (a14 : Unit) dl => [some (.deal l1 l2 dl.1 dl.2), some (.val d1), some (.val d2), none, none, none, none, some (.val v8), some (.val v9), some (.val a11), none]) (jt_w (jw_or (jt_cmp od_eq (je_callL 0 (ce__law_any_1 h) (Nat.le_of_ble_eq_true rfl) (ja_cons je_int ja_nil)) je_int) (jw_or1 (jt_not (jt_val (je_call (ce__law_blind_2 h) (Nat.le_of_ble_eq_true rfl) (ja_cons (je_var 9 (f := fun _ => a11)) (ja_cons (je_call (ce__law_few_1 h) (Nat.le_of_ble_eq_true rfl) (ja_cons (je_var 9 (f := fun _ => a11)) ja_nil)) ja_nil)))))))) (jb_ret (je_tup (ja_cons (je_var 8 (f := fun _ => v9)) (ja_cons (je_var 9 (f := fun _ => a11)) (ja_cons (je_tup ja_nil) ja_nil)))) (fun _ => SlotsLe.cons_same (SlotsLe.nil _)) (fun _ => Nat.le_of_ble_eq_true rfl)) (jb_nil (fun _ => ()) (fun _ => (SlotsLe.cons_same (SlotsLe.cons_same (SlotsLe.cons_same (SlotsLe.cons_none (SlotsLe.cons_none (SlotsLe.cons_none (SlotsLe.cons_none (SlotsLe.cons_same (SlotsLe.cons_same (SlotsLe.cons_same (SlotsLe.cons_none (SlotsLe.nil _))))))))))))) (fun _ => Nat.le_of_ble_eq_true rfl)) (fun a14 => (jb_nil (fun _ => ()) (fun _ => (SlotsLe.cons_same (SlotsLe.cons_same (SlotsLe.cons_same (SlotsLe.cons_none (SlotsLe.cons_none (SlotsLe.cons_none (SlotsLe.cons_none (SlotsLe.cons_none (SlotsLe.cons_none (SlotsLe.cons_none (SlotsLe.cons_none (SlotsLe.nil _))))))))))))) (fun _ => Nat.le_of_ble_eq_true rfl))))))))) (fun a7 => (jb_ret (je_tup (ja_cons je_int (ja_cons (je_lst (ja_cons (je_lst (ja_cons je_int (ja_cons je_int ja_nil))) (ja_cons (je_lst (ja_cons je_int (ja_cons je_int ja_nil))) ja_nil))) (ja_cons (je_tup ja_nil) ja_nil)))) (fun _ => SlotsLe.cons_same (SlotsLe.nil _)) (fun _ => Nat.le_of_ble_eq_true rfl))))))))⟩
noncomputable def m__law_stock : List D → Deal → R (D × Deal) := fun ds dl => finish (ar2 (fun _ => .bad) pk__law_stock.1 ds dl)
theorem ok__law_stock {T : Txt} (h : Facts T) (f : Addr) (fd : FuncData) (F : Fun T.K "_law_stock" "_law_stock" s__law_stock f fd) : FnG T.P T.w T.K T.mg T.base (L2.CX T.P T.w) 5 f fd ["_law_deal", "_law_most", "_law_odds"] (SpL T 2 m__law_stock) := fn_okL F sc__law_stock (by decide) (fun cdv A outer s H E G l1 l2 ds hl => match ds, hl with | [d1, d2], _ => pk__law_stock.2 T h f cdv A outer s H E G l1 l2 d1 d2)
theorem ce__law_stock_2 {T : Txt} (h : Facts T) : CalleeL T "_law_stock" 2 [] 5 (callL 2 0 [] m__law_stock) := mk_calleeL (ps := ["_law_deal", "_law_most", "_law_odds"]) (pm := []) h.d__law_stock (fun f fd F => ok__law_stock h f fd F) rfl (fun kV doc pmv an cdv ct us ws hl hw => match us, hl, ws, hw with | [_, _, _], _, [], _ => rfl)
theorem sc_is_sequence : FnScope ["value"] ["value"] (defScope s_is_sequence) := ⟨rfl, rfl, rfl, by decide +kernel, rfl, by decide +kernel, by decide +kernel⟩
noncomputable def pk_is_sequence : {m : D → Unit → R (Fl Unit Unit × Unit) // ∀ (T : Txt) (h : Facts T) (f : Addr) (cdv : Value) (A : Around) (outer : List Env) (s : Shared) (H : Hp) (E : XK) (F : Hp) (d0 : D), JB (bodyCtx T ["value"] "is_sequence" s_is_sequence f cdv A outer s H E 0 F fun _ => False) (fun _ : Unit => [some (.val d0)]) (defBody s_is_sequence) (fun (_ : Unit) _ => []) (fun (_ : Unit) _ => []) (fun _ => []) (m d0)} := ⟨fun d0 => _, fun T h f cdv A outer s H E F d0 => (jb_ret (je_isi2 (h.tc) ⟨kit_list, by decide⟩ ⟨kit_tuple, by decide⟩ (h.b_isinstance) (h.b_list) (h.b_tuple) (je_var 0 (f := fun _ => d0))) (fun _ => SlotsLe.nil _) (fun _ => Nat.le_of_ble_eq_true rfl))⟩
noncomputable def m_is_sequence : List D → R D := fun ds => finish1 ((ar1 .bad fun d0 => pk_is_sequence.1 d0 ()) ds)
theorem ok_is_sequence {T : Txt} (h : Facts T) (f : Addr) (fd : FuncData) (F : Fun T.K "is_sequence" "is_sequence" s_is_sequence f fd) : FnG T.P T.w T.K T.mg T.base (L2.CX T.P T.w) 1 f fd ["value"] (SpD T 1 m_is_sequence) := fn_ok F sc_is_sequence (fun cdv A outer s H E G ds hl => match ds, hl with | [d0], _ => pk_is_sequence.2 T h f cdv A outer s H E G d0)
theorem ce_is_sequence_1 {T : Txt} (h : Facts T) : CalleeD T "is_sequence" 1 [] 1 (callM 1 0 [] m_is_sequence) := mk_calleeD (ps := ["value"]) (pm := []) h.d_is_sequence (fun f fd F => ok_is_sequence h f fd F) rfl (fun kV doc pmv an cdv ct us ws hl hw => match us, hl, ws, hw with | [_], _, [], _ => rfl)
theorem sc_is_integer : FnScope ["value"] ["value"] (defScope s_is_integer) := ⟨rfl, rfl, rfl, by decide +kernel, rfl, by decide +kernel, by decide +kernel⟩
noncomputable def pk_is_integer : {m : D → Unit → R (Fl Unit Unit × Unit) // ∀ (T : Txt) (h : Facts T) (f : Addr) (cdv : Value) (A : Around) (outer : List Env) (s : Shared) (H : Hp) (E : XK) (F : Hp) (d0 : D), JB (bodyCtx T ["value"] "is_integer" s_is_integer f cdv A outer s H E 0 F fun _ => False) (fun _ : Unit => [some (.val d0)]) (defBody s_is_integer) (fun (_ : Unit) _ => []) (fun (_ : Unit) _ => []) (fun _ => []) (m d0)} := ⟨fun d0 => _, fun T h f cdv A outer s H E F d0 => (jb_ret (je_and (je_isi (h.tc) ⟨kit_int, by decide⟩ (h.b_isinstance) (h.b_int) (je_var 0 (f := fun _ => d0))) (je_one (je_not (je_isi (h.tc) ⟨kit_bool, by decide⟩ (h.b_isinstance) (h.b_bool) (je_var 0 (f := fun _ => d0)))))) (fun _ => SlotsLe.nil _) (fun _ => Nat.le_of_ble_eq_true rfl))⟩
noncomputable def m_is_integer : List D → R D := fun ds => finish1 ((ar1 .bad fun d0 => pk_is_integer.1 d0 ()) ds)
theorem ok_is_integer {T : Txt} (h : Facts T) (f : Addr) (fd : FuncData) (F : Fun T.K "is_integer" "is_integer" s_is_integer f fd) : FnG T.P T.w T.K T.mg T.base (L2.CX T.P T.w) 1 f fd ["value"] (SpD T 1 m_is_integer) := fn_ok F sc_is_integer (fun cdv A outer s H E G ds hl => match ds, hl with | [d0], _ => pk_is_integer.2 T h f cdv A outer s H E G d0)
theorem ce_is_integer_1 {T : Txt} (h : Facts T) : CalleeD T "is_integer" 1 [] 1 (callM 1 0 [] m_is_integer) := mk_calleeD (ps := ["value"]) (pm := []) h.d_is_integer (fun f fd F => ok_is_integer h f fd F) rfl (fun kV doc pmv an cdv ct us ws hl hw => match us, hl, ws, hw with | [_], _, [], _ => rfl)
theorem sc_is_number : FnScope ["value"] ["value"] (defScope s_is_number) := ⟨rfl, rfl, rfl, by decide +kernel, rfl, by decide +kernel, by decide +kernel⟩
noncomputable def pk_is_number : {m : D → Unit → R (Fl Unit Unit × Unit) // ∀ (T : Txt) (h : Facts T) (f : Addr) (cdv : Value) (A : Around) (outer : List Env) (s : Shared) (H : Hp) (E : XK) (F : Hp) (d0 : D), JB (bodyCtx T ["value"] "is_number" s_is_number f cdv A outer s H E 1 F fun _ => False) (fun _ : Unit => [some (.val d0)]) (defBody s_is_number) (fun (_ : Unit) _ => []) (fun (_ : Unit) _ => []) (fun _ => []) (m d0)} := ⟨fun d0 => _, fun T h f cdv A outer s H E F d0 => (jb_ret (je_and (je_call (ce_is_integer_1 h) (Nat.le_of_ble_eq_true rfl) (ja_cons (je_var 0 (f := fun _ => d0)) ja_nil)) (je_one (je_cmp od_ge (je_var 0 (f := fun _ => d0)) je_int))) (fun _ => SlotsLe.nil _) (fun _ => Nat.le_of_ble_eq_true rfl))⟩
noncomputable def m_is_number : List D → R D := fun ds => finish1 ((ar1 .bad fun d0 => pk_is_number.1 d0 ()) ds)
theorem ok_is_number {T : Txt} (h : Facts T) (f : Addr) (fd : FuncData) (F : Fun T.K "is_number" "is_number" s_is_number f fd) : FnG T.P T.w T.K T.mg T.base (L2.CX T.P T.w) 2 f fd ["value"] (SpD T 1 m_is_number) := fn_ok F sc_is_number (fun cdv A outer s H E G ds hl => match ds, hl with | [d0], _ => pk_is_number.2 T h f cdv A outer s H E G d0)
theorem ce_is_number_1 {T : Txt} (h : Facts T) : CalleeD T "is_number" 1 [] 2 (callM 1 0 [] m_is_number) := mk_calleeD (ps := ["value"]) (pm := []) h.d_is_number (fun f fd F => ok_is_number h f fd F) rfl (fun kV doc pmv an cdv ct us ws hl hw => match us, hl, ws, hw with | [_], _, [], _ => rfl)
theorem sc_is_index : FnScope ["value", "many"] ["value", "many"] (defScope s_is_index) := ⟨rfl, rfl, rfl, by decide +kernel, rfl, by decide +kernel, by decide +kernel⟩
noncomputable def pk_is_index : {m : D → D → Unit → R (Fl Unit Unit × Unit) // ∀ (T : Txt) (h : Facts T) (f : Addr) (cdv : Value) (A : Around) (outer : List Env) (s : Shared) (H : Hp) (E : XK) (F : Hp) (d0 : D) (d1 : D), JB (bodyCtx T ["value", "many"] "is_index" s_is_index f cdv A outer s H E 2 F fun _ => False) (fun _ : Unit => [some (.val d0), some (.val d1)]) (defBody s_is_index) (fun (_ : Unit) _ => []) (fun (_ : Unit) _ => []) (fun _ => []) (m d0 d1)} := ⟨fun d0 d1 => _, fun T h f cdv A outer s H E F d0 d1 => (jb_ret (je_and (je_call (ce_is_number_1 h) (Nat.le_of_ble_eq_true rfl) (ja_cons (je_var 0 (f := fun _ => d0)) ja_nil)) (je_one (je_cmp od_lt (je_var 0 (f := fun _ => d0)) (je_var 1 (f := fun _ => d1))))) (fun _ => SlotsLe.nil _) (fun _ => Nat.le_of_ble_eq_true rfl))⟩
noncomputable def m_is_index : List D → R D := fun ds => finish1 ((ar2 .bad fun d0 d1 => pk_is_index.1 d0 d1 ()) ds)
theorem ok_is_index {T : Txt} (h : Facts T) (f : Addr) (fd : FuncData) (F : Fun T.K "is_index" "is_index" s_is_index f fd) : FnG T.P T.w T.K T.mg T.base (L2.CX T.P T.w) 3 f fd ["value", "many"] (SpD T 2 m_is_index) := fn_ok F sc_is_index (fun cdv A outer s H E G ds hl => match ds, hl with | [d0, d1], _ => pk_is_index.2 T h f cdv A outer s H E G d0 d1)
theorem ce_is_index_2 {T : Txt} (h : Facts T) : CalleeD T "is_index" 2 [] 3 (callM 2 0 [] m_is_index) := mk_calleeD (ps := ["value", "many"]) (pm := []) h.d_is_index (fun f fd F => ok_is_index h f fd F) rfl (fun kV doc pmv an cdv ct us ws hl hw => match us, hl, ws, hw with | [_, _], _, [], _ => rfl)
theorem sc_checked_row : FnScope ["machine", "value", "at", "command"] ["machine", "value"] (defScope s_checked_row) := ⟨rfl, rfl, rfl, by decide +kernel, rfl, by decide +kernel, by decide +kernel⟩
noncomputable def pk_checked_row : {m : D → D → Unit → R (Fl Unit Unit × Unit) // ∀ (T : Txt) (h : Facts T) (f : Addr) (cdv : Value) (A : Around) (outer : List Env) (s : Shared) (H : Hp) (E : XK) (F : Hp) (d0 : D) (d1 : D), JB (bodyCtx T ["machine", "value", "at", "command"] "checked_row" s_checked_row f cdv A outer s H E 3 F fun _ => False) (fun _ : Unit => [some (.val d0), some (.val d1), none, none]) (defBody s_checked_row) (fun (_ : Unit) _ => []) (fun (_ : Unit) _ => []) (fun _ => []) (m d0 d1)} := ⟨fun d0 d1 => _, fun T h f cdv A outer s H E F d0 d1 => (jb_if (fun (a1 : Unit) _ => [some (.val d0), some (.val d1), none, none]) (jt_not (jt_val (je_call (ce_is_sequence_1 h) (Nat.le_of_ble_eq_true rfl) (ja_cons (je_var 1 (f := fun _ => d1)) ja_nil)))) (jb_raise (h.er_InvalidRow) je_int) (jb_nil (fun _ => ()) (fun _ => (SlotsLe.cons_same (SlotsLe.cons_same (SlotsLe.cons_none (SlotsLe.cons_none (SlotsLe.nil _)))))) (fun _ => Nat.le_of_ble_eq_true rfl)) (fun a1 => (jb_for2 2 3 (fun (a2 : Unit) _ => [some (.val d0), some (.val d1), none, none]) (fun _ => ()) (ji_enum (h.b_enumerate) (je_var 1 (f := fun _ => d1))) (fun _ => (SlotsLe.cons_same (SlotsLe.cons_same (SlotsLe.cons_none (SlotsLe.cons_none (SlotsLe.nil _)))))) (fun _ => Nat.le_of_ble_eq_true rfl) (fun v3 v4 a2 => (jb_if (fun (a5 : Unit) _ => [some (.val d0), some (.val d1), some (.val v3), some (.val v4)]) (jt_not (jt_val (je_call (ce_is_index_2 h) (Nat.le_of_ble_eq_true rfl) (ja_cons (je_var 3 (f := fun _ => v4)) (ja_cons (je_attr "Machine" (h.at_Machine_commands) (je_var 0 (f := fun _ => d0))) ja_nil))))) (jb_raise (h.er_InvalidRow) (je_var 2 (f := fun _ => v3))) (jb_nil (fun _ => ()) (fun _ => (SlotsLe.cons_same (SlotsLe.cons_same (SlotsLe.cons_same (SlotsLe.cons_same (SlotsLe.nil _)))))) (fun _ => Nat.le_of_ble_eq_true rfl)) (fun a5 => (jb_nil (fun _ => ()) (fun _ => (SlotsLe.cons_same (SlotsLe.cons_same (SlotsLe.cons_none (SlotsLe.cons_none (SlotsLe.nil _)))))) (fun _ => Nat.le_of_ble_eq_true rfl))))) (fun a2 => (jb_ret (je_blt (h.b_tuple) cd_tuple (ja_cons (je_var 1 (f := fun _ => d1)) ja_nil)) (fun _ => SlotsLe.nil _) (fun _ => Nat.le_of_ble_eq_true rfl))))))⟩
noncomputable def m_checked_row : List D → R D := fun ds => finish1 ((ar2 .bad fun d0 d1 => pk_checked_row.1 d0 d1 ()) ds)
theorem ok_checked_row {T : Txt} (h : Facts T) (f : Addr) (fd : FuncData) (F : Fun T.K "checked_row" "checked_row" s_checked_row f fd) : FnG T.P T.w T.K T.mg T.base (L2.CX T.P T.w) 4 f fd ["machine", "value"] (SpD T 2 m_checked_row) := fn_ok F sc_checked_row (fun cdv A outer s H E G ds hl => match ds, hl with | [d0, d1], _ => pk_checked_row.2 T h f cdv A outer s H E G d0 d1)
theorem ce_checked_row_2 {T : Txt} (h : Facts T) : CalleeD T "checked_row" 2 [] 4 (callM 2 0 [] m_checked_row) := mk_calleeD (ps := ["machine", "value"]) (pm := []) h.d_checked_row (fun f fd F => ok_checked_row h f fd F) rfl (fun kV doc pmv an cdv ct us ws hl hw => match us, hl, ws, hw with | [_, _], _, [], _ => rfl)
theorem sc_led : FnScope ["machine", "state", "row", "command"] ["machine", "state", "row"] (defScope s_led) := ⟨rfl, rfl, rfl, by decide +kernel, rfl, by decide +kernel, by decide +kernel⟩
noncomputable def pk_led : {m : D → D → D → Unit → R (Fl Unit Unit × Unit) // ∀ (T : Txt) (h : Facts T) (f : Addr) (cdv : Value) (A : Around) (outer : List Env) (s : Shared) (H : Hp) (E : XK) (F : Hp) (d0 : D) (d1 : D) (d2 : D), JB (bodyCtx T ["machine", "state", "row", "command"] "led" s_led f cdv A outer s H E 0 F fun _ => False) (fun _ : Unit => [some (.val d0), some (.val d1), some (.val d2), none]) (defBody s_led) (fun (_ : Unit) _ => []) (fun (_ : Unit) _ => []) (fun _ => []) (m d0 d1 d2)} := ⟨fun d0 d1 d2 => _, fun T h f cdv A outer s H E F d0 d1 d2 => (jb_for 3 (fun (a1 : D) _ => [some (.val d0), some (.val a1), some (.val d2), none]) (fun _ => d1) (ji_seq (je_var 2 (f := fun _ => d2))) (fun _ => (SlotsLe.cons_same (SlotsLe.cons_same (SlotsLe.cons_same (SlotsLe.cons_none (SlotsLe.nil _)))))) (fun _ => Nat.le_of_ble_eq_true rfl) (fun v2 a1 => (jb_set 1 (je_ix (je_ix (je_attr "Machine" (h.at_Machine_steps) (je_var 0 (f := fun _ => d0))) (je_var 1 (f := fun _ => a1))) (je_var 3 (f := fun _ => v2))) (fun v3 => (jb_nil (fun _ => v3) (fun _ => (SlotsLe.cons_same (SlotsLe.cons_same (SlotsLe.cons_same (SlotsLe.cons_none (SlotsLe.nil _)))))) (fun _ => Nat.le_of_ble_eq_true rfl))))) (fun a1 => (jb_ret (je_var 1 (f := fun _ => a1)) (fun _ => SlotsLe.nil _) (fun _ => Nat.le_of_ble_eq_true rfl))))⟩
noncomputable def m_led : List D → R D := fun ds => finish1 ((ar3 .bad fun d0 d1 d2 => pk_led.1 d0 d1 d2 ()) ds)
theorem ok_led {T : Txt} (h : Facts T) (f : Addr) (fd : FuncData) (F : Fun T.K "led" "led" s_led f fd) : FnG T.P T.w T.K T.mg T.base (L2.CX T.P T.w) 1 f fd ["machine", "state", "row"] (SpD T 3 m_led) := fn_ok F sc_led (fun cdv A outer s H E G ds hl => match ds, hl with | [d0, d1, d2], _ => pk_led.2 T h f cdv A outer s H E G d0 d1 d2)
theorem ce_led_3 {T : Txt} (h : Facts T) : CalleeD T "led" 3 [] 1 (callM 3 0 [] m_led) := mk_calleeD (ps := ["machine", "state", "row"]) (pm := []) h.d_led (fun f fd F => ok_led h f fd F) rfl (fun kV doc pmv an cdv ct us ws hl hw => match us, hl, ws, hw with | [_, _, _], _, [], _ => rfl)
theorem sc_effect : FnScope ["machine", "row", "some", "state"] ["machine", "row"] (defScope s_effect) := ⟨rfl, rfl, rfl, by decide +kernel, rfl, by decide +kernel, by decide +kernel⟩
noncomputable def pk_effect : {m : D → D → Unit → R (Fl Unit Unit × Unit) // ∀ (T : Txt) (h : Facts T) (f : Addr) (cdv : Value) (A : Around) (outer : List Env) (s : Shared) (H : Hp) (E : XK) (F : Hp) (d0 : D) (d1 : D), JB (bodyCtx T ["machine", "row", "some", "state"] "effect" s_effect f cdv A outer s H E 4 F fun _ => False) (fun _ : Unit => [some (.val d0), some (.val d1), none, none]) (defBody s_effect) (fun (_ : Unit) _ => []) (fun (_ : Unit) _ => []) (fun _ => []) (m d0 d1)} := ⟨fun d0 d1 => _, fun T h f cdv A outer s H E F d0 d1 => (jb_set 2 (je_call (ce_checked_row_2 h) (Nat.le_of_ble_eq_true rfl) (ja_cons (je_var 0 (f := fun _ => d0)) (ja_cons (je_var 1 (f := fun _ => d1)) ja_nil))) (fun v1 => (jb_ret (je_blt (h.b_tuple) cd_tupleN (ja_cons (je_ofL (jel_lc1 3 [("state", 3)] (ji_range1 (h.b_range) (je_attr "Machine" (h.at_Machine_states) (je_var 0 (f := fun _ => d0)))) (fun _ => jg_name 3) (fun _ v2 => jts_nil) (fun _ v2 => (je_call (ce_led_3 h) (Nat.le_of_ble_eq_true rfl) (ja_cons (je_var 0 (f := fun _ => d0)) (ja_cons (je_var 3 (f := fun _ => v2)) (ja_cons (je_var 2 (f := fun _ => v1)) ja_nil))))))) ja_nil)) (fun _ => SlotsLe.nil _) (fun _ => Nat.le_of_ble_eq_true rfl))))⟩
noncomputable def m_effect : List D → R D := fun ds => finish1 ((ar2 .bad fun d0 d1 => pk_effect.1 d0 d1 ()) ds)
theorem ok_effect {T : Txt} (h : Facts T) (f : Addr) (fd : FuncData) (F : Fun T.K "effect" "effect" s_effect f fd) : FnG T.P T.w T.K T.mg T.base (L2.CX T.P T.w) 5 f fd ["machine", "row"] (SpD T 2 m_effect) := fn_ok F sc_effect (fun cdv A outer s H E G ds hl => match ds, hl with | [d0, d1], _ => pk_effect.2 T h f cdv A outer s H E G d0 d1)
theorem ce_effect_2 {T : Txt} (h : Facts T) : CalleeD T "effect" 2 [] 5 (callM 2 0 [] m_effect) := mk_calleeD (ps := ["machine", "row"]) (pm := []) h.d_effect (fun f fd F => ok_effect h f fd F) rfl (fun kV doc pmv an cdv ct us ws hl hw => match us, hl, ws, hw with | [_, _], _, [], _ => rfl)
theorem sc_clash_behind : FnScope ["machine", "command", "found", "state", "other", "first", "second"] ["machine", "command", "found"] (defScope s_clash_behind) := ⟨rfl, rfl, rfl, by decide +kernel, rfl, by decide +kernel, by decide +kernel⟩
noncomputable def pk_clash_behind : {m : D → D → D → Unit → R (Fl Unit Unit × Unit) // ∀ (T : Txt) (h : Facts T) (f : Addr) (cdv : Value) (A : Around) (outer : List Env) (s : Shared) (H : Hp) (E : XK) (F : Hp) (d0 : D) (d1 : D) (d2 : D), JB (bodyCtx T ["machine", "command", "found", "state", "other", "first", "second"] "clash_behind" s_clash_behind f cdv A outer s H E 0 F fun _ => False) (fun _ : Unit => [some (.val d0), some (.val d1), some (.val d2), none, none, none, none]) (defBody s_clash_behind) (fun (_ : Unit) _ => []) (fun (_ : Unit) _ => []) (fun _ => []) (m d0 d1 d2)} := ⟨fun d0 d1 d2 => _, fun T h f cdv A outer s H E F d0 d1 d2 => (jb_for 3 (fun (a1 : Unit) _ => [some (.val d0), some (.val d1), some (.val d2), none, none, none, none]) (fun _ => ()) (ji_range1 (h.b_range) (je_attr "Machine" (h.at_Machine_states) (je_var 0 (f := fun _ => d0)))) (fun _ => (SlotsLe.cons_same (SlotsLe.cons_same (SlotsLe.cons_same (SlotsLe.cons_none (SlotsLe.cons_none (SlotsLe.cons_none (SlotsLe.cons_none (SlotsLe.nil _))))))))) (fun _ => Nat.le_of_ble_eq_true rfl) (fun v2 a1 => (jb_for 4 (fun (a3 : Unit) _ => [some (.val d0), some (.val d1), some (.val d2), some (.val v2), none, none, none]) (fun _ => ()) (ji_range1 (h.b_range) (je_attr "Machine" (h.at_Machine_commands) (je_var 0 (f := fun _ => d0)))) (fun _ => (SlotsLe.cons_same (SlotsLe.cons_same (SlotsLe.cons_same (SlotsLe.cons_same (SlotsLe.cons_none (SlotsLe.cons_none (SlotsLe.cons_none (SlotsLe.nil _))))))))) (fun _ => Nat.le_of_ble_eq_true rfl) (fun v4 a3 => (jb_set 5 (je_ix (je_ix (je_attr "Machine" (h.at_Machine_steps) (je_var 0 (f := fun _ => d0))) (je_ix (je_ix (je_attr "Machine" (h.at_Machine_steps) (je_var 0 (f := fun _ => d0))) (je_var 3 (f := fun _ => v2))) (je_var 1 (f := fun _ => d1)))) (je_var 4 (f := fun _ => v4))) (fun v5 => (jb_set 6 (je_ix (je_ix (je_attr "Machine" (h.at_Machine_steps) (je_var 0 (f := fun _ => d0))) (je_ix (je_ix (je_attr "Machine" (h.at_Machine_steps) (je_var 0 (f := fun _ => d0))) (je_var 3 (f := fun _ => v2))) (je_var 4 (f := fun _ => v4)))) (je_var 1 (f := fun _ => d1))) (fun v6 => (jb_if (fun (a7 : Unit) _ => [some (.val d0), some (.val d1), some (.val d2), some (.val v2), some (.val v4), some (.val v5), some (.val v6)]) (jt_cmp od_ne (je_ix (je_var 2 (f := fun _ => d2)) (je_var 5 (f := fun _ => v5))) (je_ix (je_var 2 (f := fun _ => d2)) (je_var 6 (f := fun _ => v6)))) (jb_ret (je_tup (ja_cons (je_var 3 (f := fun _ => v2)) (ja_cons (je_var 4 (f := fun _ => v4)) ja_nil))) (fun _ => SlotsLe.nil _) (fun _ => Nat.le_of_ble_eq_true rfl)) (jb_nil (fun _ => ()) (fun _ => (SlotsLe.cons_same (SlotsLe.cons_same (SlotsLe.cons_same (SlotsLe.cons_same (SlotsLe.cons_same (SlotsLe.cons_same (SlotsLe.cons_same (SlotsLe.nil _))))))))) (fun _ => Nat.le_of_ble_eq_true rfl)) (fun a7 => (jb_nil (fun _ => ()) (fun _ => (SlotsLe.cons_same (SlotsLe.cons_same (SlotsLe.cons_same (SlotsLe.cons_same (SlotsLe.cons_none (SlotsLe.cons_none (SlotsLe.cons_none (SlotsLe.nil _))))))))) (fun _ => Nat.le_of_ble_eq_true rfl))))))))) (fun a3 => (jb_nil (fun _ => ()) (fun _ => (SlotsLe.cons_same (SlotsLe.cons_same (SlotsLe.cons_same (SlotsLe.cons_none (SlotsLe.cons_none (SlotsLe.cons_none (SlotsLe.cons_none (SlotsLe.nil _))))))))) (fun _ => Nat.le_of_ble_eq_true rfl))))) (fun a1 => (jb_ret je_non (fun _ => SlotsLe.nil _) (fun _ => Nat.le_of_ble_eq_true rfl))))⟩
noncomputable def m_clash_behind : List D → R D := fun ds => finish1 ((ar3 .bad fun d0 d1 d2 => pk_clash_behind.1 d0 d1 d2 ()) ds)
theorem ok_clash_behind {T : Txt} (h : Facts T) (f : Addr) (fd : FuncData) (F : Fun T.K "clash_behind" "clash_behind" s_clash_behind f fd) : FnG T.P T.w T.K T.mg T.base (L2.CX T.P T.w) 1 f fd ["machine", "command", "found"] (SpD T 3 m_clash_behind) := fn_ok F sc_clash_behind (fun cdv A outer s H E G ds hl => match ds, hl with | [d0, d1, d2], _ => pk_clash_behind.2 T h f cdv A outer s H E G d0 d1 d2)
theorem ce_clash_behind_3 {T : Txt} (h : Facts T) : CalleeD T "clash_behind" 3 [] 1 (callM 3 0 [] m_clash_behind) := mk_calleeD (ps := ["machine", "command", "found"]) (pm := []) h.d_clash_behind (fun f fd F => ok_clash_behind h f fd F) rfl (fun kV doc pmv an cdv ct us ws hl hw => match us, hl, ws, hw with | [_, _, _], _, [], _ => rfl)
theorem sc_free_commands : FnScope ["machine", "row", "found", "one"] ["machine", "row"] (defScope s_free_commands) := ⟨rfl, rfl, rfl, by decide +kernel, rfl, by decide +kernel, by decide +kernel⟩
noncomputable def pk_free_commands : {m : D → D → Unit → R (Fl Unit Unit × Unit) // ∀ (T : Txt) (h : Facts T) (f : Addr) (cdv : Value) (A : Around) (outer : List Env) (s : Shared) (H : Hp) (E : XK) (F : Hp) (d0 : D) (d1 : D), JB (bodyCtx T ["machine", "row", "found", "one"] "free_commands" s_free_commands f cdv A outer s H E 5 F fun _ => False) (fun _ : Unit => [some (.val d0), some (.val d1), none, none]) (defBody s_free_commands) (fun (_ : Unit) _ => []) (fun (_ : Unit) _ => []) (fun _ => []) (m d0 d1)} := ⟨fun d0 d1 => _, fun T h f cdv A outer s H E F d0 d1 => (jb_set 2 (je_call (ce_effect_2 h) (Nat.le_of_ble_eq_true rfl) (ja_cons (je_var 0 (f := fun _ => d0)) (ja_cons (je_var 1 (f := fun _ => d1)) ja_nil))) (fun v1 => (jb_ret (je_blt (h.b_tuple) cd_tuple (ja_cons (je_ofL (jel_lc1 3 [("one", 3)] (ji_range1 (h.b_range) (je_attr "Machine" (h.at_Machine_commands) (je_var 0 (f := fun _ => d0)))) (fun _ => jg_name 3) (fun _ v2 => (jts_one (jt_cmp od_is (je_call (ce_clash_behind_3 h) (Nat.le_of_ble_eq_true rfl) (ja_cons (je_var 0 (f := fun _ => d0)) (ja_cons (je_var 3 (f := fun _ => v2)) (ja_cons (je_var 2 (f := fun _ => v1)) ja_nil)))) je_non))) (fun _ v2 => (je_var 3 (f := fun _ => v2))))) ja_nil)) (fun _ => SlotsLe.nil _) (fun _ => Nat.le_of_ble_eq_true rfl))))⟩
noncomputable def m_free_commands : List D → R D := fun ds => finish1 ((ar2 .bad fun d0 d1 => pk_free_commands.1 d0 d1 ()) ds)
theorem ok_free_commands {T : Txt} (h : Facts T) (f : Addr) (fd : FuncData) (F : Fun T.K "free_commands" "free_commands" s_free_commands f fd) : FnG T.P T.w T.K T.mg T.base (L2.CX T.P T.w) 6 f fd ["machine", "row"] (SpD T 2 m_free_commands) := fn_ok F sc_free_commands (fun cdv A outer s H E G ds hl => match ds, hl with | [d0, d1], _ => pk_free_commands.2 T h f cdv A outer s H E G d0 d1)
theorem ce_free_commands_2 {T : Txt} (h : Facts T) : CalleeD T "free_commands" 2 [] 6 (callM 2 0 [] m_free_commands) := mk_calleeD (ps := ["machine", "row"]) (pm := []) h.d_free_commands (fun f fd F => ok_free_commands h f fd F) rfl (fun kV doc pmv an cdv ct us ws hl hw => match us, hl, ws, hw with | [_, _], _, [], _ => rfl)
theorem ce_free_commands_0_row_machine {T : Txt} (h : Facts T) : CalleeD T "free_commands" 0 ["row", "machine"] 6 (callM 0 2 [1, 0] m_free_commands) := mk_calleeD (ps := ["machine", "row"]) (pm := [1, 0]) h.d_free_commands (fun f fd F => ok_free_commands h f fd F) rfl (fun kV doc pmv an cdv ct us ws hl hw => match us, hl, ws, hw with | [], _, [_, _], _ => rfl)
theorem sc__law_led : FnScope ["_law_steps", "_law_state", "_law_row_here", "_law_command"] ["_law_steps", "_law_state", "_law_row_here"] (defScope s__law_led) := ⟨rfl, rfl, rfl, by decide +kernel, rfl, by decide +kernel, by decide +kernel⟩
noncomputable def pk__law_led : {m : D → D → D → Unit → R (Fl Unit Unit × Unit) // ∀ (T : Txt) (h : Facts T) (f : Addr) (cdv : Value) (A : Around) (outer : List Env) (s : Shared) (H : Hp) (E : XK) (F : Hp) (d0 : D) (d1 : D) (d2 : D), JB (bodyCtx T ["_law_steps", "_law_state", "_law_row_here", "_law_command"] "_law_led" s__law_led f cdv A outer s H E 0 F fun _ => False) (fun _ : Unit => [some (.val d0), some (.val d1), some (.val d2), none]) (defBody s__law_led) (fun (_ : Unit) _ => []) (fun (_ : Unit) _ => []) (fun _ => []) (m d0 d1 d2)} := ⟨fun d0 d1 d2 => _, fun T h f cdv A outer s H E F d0 d1 d2 => (jb_for 3 (fun (a1 : D) _ => [some (.val d0), some (.val a1), some (.val d2), none]) (fun _ => d1) (ji_seq (je_var 2 (f := fun _ => d2))) (fun _ => (SlotsLe.cons_same (SlotsLe.cons_same (SlotsLe.cons_same (SlotsLe.cons_none (SlotsLe.nil _)))))) (fun _ => Nat.le_of_ble_eq_true rfl) (fun v2 a1 => (jb_set 1 (je_ix (je_ix (je_var 0 (f := fun _ => d0)) (je_var 1 (f := fun _ => a1))) (je_var 3 (f := fun _ => v2))) (fun v3 => (jb_nil (fun _ => v3) (fun _ => (SlotsLe.cons_same (SlotsLe.cons_same (SlotsLe.cons_same (SlotsLe.cons_none (SlotsLe.nil _)))))) (fun _ => Nat.le_of_ble_eq_true rfl))))) (fun a1 => (jb_ret (je_var 1 (f := fun _ => a1)) (fun _ => SlotsLe.nil _) (fun _ => Nat.le_of_ble_eq_true rfl))))⟩
noncomputable def m__law_led : List D → R D := fun ds => finish1 ((ar3 .bad fun d0 d1 d2 => pk__law_led.1 d0 d1 d2 ()) ds)
theorem ok__law_led {T : Txt} (h : Facts T) (f : Addr) (fd : FuncData) (F : Fun T.K "_law_led" "_law_led" s__law_led f fd) : FnG T.P T.w T.K T.mg T.base (L2.CX T.P T.w) 1 f fd ["_law_steps", "_law_state", "_law_row_here"] (SpD T 3 m__law_led) := fn_ok F sc__law_led (fun cdv A outer s H E G ds hl => match ds, hl with | [d0, d1, d2], _ => pk__law_led.2 T h f cdv A outer s H E G d0 d1 d2)
theorem ce__law_led_3 {T : Txt} (h : Facts T) : CalleeD T "_law_led" 3 [] 1 (callM 3 0 [] m__law_led) := mk_calleeD (ps := ["_law_steps", "_law_state", "_law_row_here"]) (pm := []) h.d__law_led (fun f fd F => ok__law_led h f fd F) rfl (fun kV doc pmv an cdv ct us ws hl hw => match us, hl, ws, hw with | [_, _, _], _, [], _ => rfl)
theorem sc__law_effect : FnScope ["_law_steps", "_law_row_here", "_law_state"] ["_law_steps", "_law_row_here"] (defScope s__law_effect) := ⟨rfl, rfl, rfl, by decide +kernel, rfl, by decide +kernel, by decide +kernel⟩
noncomputable def pk__law_effect : {m : D → D → Unit → R (Fl Unit Unit × Unit) // ∀ (T : Txt) (h : Facts T) (f : Addr) (cdv : Value) (A : Around) (outer : List Env) (s : Shared) (H : Hp) (E : XK) (F : Hp) (d0 : D) (d1 : D), JB (bodyCtx T ["_law_steps", "_law_row_here", "_law_state"] "_law_effect" s__law_effect f cdv A outer s H E 1 F fun _ => False) (fun _ : Unit => [some (.val d0), some (.val d1), none]) (defBody s__law_effect) (fun (_ : Unit) _ => []) (fun (_ : Unit) _ => []) (fun _ => []) (m d0 d1)} := ⟨fun d0 d1 => _, fun T h f cdv A outer s H E F d0 d1 => (jb_ret (je_blt (h.b_tuple) cd_tupleN (ja_cons (je_ofL (jel_lc1 2 [("_law_state", 2)] (ji_range1 (h.b_range) (je_blt (h.b_len) cd_len (ja_cons (je_var 0 (f := fun _ => d0)) ja_nil))) (fun _ => jg_name 2) (fun _ v1 => jts_nil) (fun _ v1 => (je_call (ce__law_led_3 h) (Nat.le_of_ble_eq_true rfl) (ja_cons (je_var 0 (f := fun _ => d0)) (ja_cons (je_var 2 (f := fun _ => v1)) (ja_cons (je_var 1 (f := fun _ => d1)) ja_nil))))))) ja_nil)) (fun _ => SlotsLe.nil _) (fun _ => Nat.le_of_ble_eq_true rfl))⟩
noncomputable def m__law_effect : List D → R D := fun ds => finish1 ((ar2 .bad fun d0 d1 => pk__law_effect.1 d0 d1 ()) ds)
theorem ok__law_effect {T : Txt} (h : Facts T) (f : Addr) (fd : FuncData) (F : Fun T.K "_law_effect" "_law_effect" s__law_effect f fd) : FnG T.P T.w T.K T.mg T.base (L2.CX T.P T.w) 2 f fd ["_law_steps", "_law_row_here"] (SpD T 2 m__law_effect) := fn_ok F sc__law_effect (fun cdv A outer s H E G ds hl => match ds, hl with | [d0, d1], _ => pk__law_effect.2 T h f cdv A outer s H E G d0 d1)
theorem ce__law_effect_2 {T : Txt} (h : Facts T) : CalleeD T "_law_effect" 2 [] 2 (callM 2 0 [] m__law_effect) := mk_calleeD (ps := ["_law_steps", "_law_row_here"]) (pm := []) h.d__law_effect (fun f fd F => ok__law_effect h f fd F) rfl (fun kV doc pmv an cdv ct us ws hl hw => match us, hl, ws, hw with | [_, _], _, [], _ => rfl)
theorem sc_clash : FnScope ["machine", "command", "row"] ["machine", "command", "row"] (defScope s_clash) := ⟨rfl, rfl, rfl, by decide +kernel, rfl, by decide +kernel, by decide +kernel⟩
noncomputable def pk_clash : {m : D → D → D → Unit → R (Fl Unit Unit × Unit) // ∀ (T : Txt) (h : Facts T) (f : Addr) (cdv : Value) (A : Around) (outer : List Env) (s : Shared) (H : Hp) (E : XK) (F : Hp) (d0 : D) (d1 : D) (d2 : D), JB (bodyCtx T ["machine", "command", "row"] "clash" s_clash f cdv A outer s H E 5 F fun _ => False) (fun _ : Unit => [some (.val d0), some (.val d1), some (.val d2)]) (defBody s_clash) (fun (_ : Unit) _ => []) (fun (_ : Unit) _ => []) (fun _ => []) (m d0 d1 d2)} := ⟨fun d0 d1 d2 => _, fun T h f cdv A outer s H E F d0 d1 d2 => (jb_if (fun (a1 : Unit) _ => [some (.val d0), some (.val d1), some (.val d2)]) (jt_not (jt_val (je_call (ce_is_index_2 h) (Nat.le_of_ble_eq_true rfl) (ja_cons (je_var 1 (f := fun _ => d1)) (ja_cons (je_attr "Machine" (h.at_Machine_commands) (je_var 0 (f := fun _ => d0))) ja_nil))))) (jb_raise (h.er_Refused) je_int) (jb_nil (fun _ => ()) (fun _ => (SlotsLe.cons_same (SlotsLe.cons_same (SlotsLe.cons_same (SlotsLe.nil _))))) (fun _ => Nat.le_of_ble_eq_true rfl)) (fun a1 => (jb_ret (je_call (ce_clash_behind_3 h) (Nat.le_of_ble_eq_true rfl) (ja_cons (je_var 0 (f := fun _ => d0)) (ja_cons (je_var 1 (f := fun _ => d1)) (ja_cons (je_call (ce_effect_2 h) (Nat.le_of_ble_eq_true rfl) (ja_cons (je_var 0 (f := fun _ => d0)) (ja_cons (je_var 2 (f := fun _ => d2)) ja_nil))) ja_nil)))) (fun _ => SlotsLe.nil _) (fun _ => Nat.le_of_ble_eq_true rfl))))⟩
noncomputable def m_clash : List D → R D := fun ds => finish1 ((ar3 .bad fun d0 d1 d2 => pk_clash.1 d0 d1 d2 ()) ds)
theorem ok_clash {T : Txt} (h : Facts T) (f : Addr) (fd : FuncData) (F : Fun T.K "clash" "clash" s_clash f fd) : FnG T.P T.w T.K T.mg T.base (L2.CX T.P T.w) 6 f fd ["machine", "command", "row"] (SpD T 3 m_clash) := fn_ok F sc_clash (fun cdv A outer s H E G ds hl => match ds, hl with | [d0, d1, d2], _ => pk_clash.2 T h f cdv A outer s H E G d0 d1 d2)
theorem ce_clash_3 {T : Txt} (h : Facts T) : CalleeD T "clash" 3 [] 6 (callM 3 0 [] m_clash) := mk_calleeD (ps := ["machine", "command", "row"]) (pm := []) h.d_clash (fun f fd F => ok_clash h f fd F) rfl (fun kV doc pmv an cdv ct us ws hl hw => match us, hl, ws, hw with | [_, _, _], _, [], _ => rfl)
theorem ce_clash_0_row_command_machine {T : Txt} (h : Facts T) : CalleeD T "clash" 0 ["row", "command", "machine"] 6 (callM 0 3 [2, 1, 0] m_clash) := mk_calleeD (ps := ["machine", "command", "row"]) (pm := [2, 1, 0]) h.d_clash (fun f fd F => ok_clash h f fd F) rfl (fun kV doc pmv an cdv ct us ws hl hw => match us, hl, ws, hw with | [], _, [_, _, _], _ => rfl)
theorem sc_is_free : FnScope ["machine", "command", "row"] ["machine", "command", "row"] (defScope s_is_free) := ⟨rfl, rfl, rfl, by decide +kernel, rfl, by decide +kernel, by decide +kernel⟩
noncomputable def pk_is_free : {m : D → D → D → Unit → R (Fl Unit Unit × Unit) // ∀ (T : Txt) (h : Facts T) (f : Addr) (cdv : Value) (A : Around) (outer : List Env) (s : Shared) (H : Hp) (E : XK) (F : Hp) (d0 : D) (d1 : D) (d2 : D), JB (bodyCtx T ["machine", "command", "row"] "is_free" s_is_free f cdv A outer s H E 6 F fun _ => False) (fun _ : Unit => [some (.val d0), some (.val d1), some (.val d2)]) (defBody s_is_free) (fun (_ : Unit) _ => []) (fun (_ : Unit) _ => []) (fun _ => []) (m d0 d1 d2)} := ⟨fun d0 d1 d2 => _, fun T h f cdv A outer s H E F d0 d1 d2 => (jb_ret (je_cmp od_is (je_call (ce_clash_3 h) (Nat.le_of_ble_eq_true rfl) (ja_cons (je_var 0 (f := fun _ => d0)) (ja_cons (je_var 1 (f := fun _ => d1)) (ja_cons (je_var 2 (f := fun _ => d2)) ja_nil)))) je_non) (fun _ => SlotsLe.nil _) (fun _ => Nat.le_of_ble_eq_true rfl))⟩
noncomputable def m_is_free : List D → R D := fun ds => finish1 ((ar3 .bad fun d0 d1 d2 => pk_is_free.1 d0 d1 d2 ()) ds)
theorem ok_is_free {T : Txt} (h : Facts T) (f : Addr) (fd : FuncData) (F : Fun T.K "is_free" "is_free" s_is_free f fd) : FnG T.P T.w T.K T.mg T.base (L2.CX T.P T.w) 7 f fd ["machine", "command", "row"] (SpD T 3 m_is_free) := fn_ok F sc_is_free (fun cdv A outer s H E G ds hl => match ds, hl with | [d0, d1, d2], _ => pk_is_free.2 T h f cdv A outer s H E G d0 d1 d2)
theorem ce_is_free_3 {T : Txt} (h : Facts T) : CalleeD T "is_free" 3 [] 7 (callM 3 0 [] m_is_free) := mk_calleeD (ps := ["machine", "command", "row"]) (pm := []) h.d_is_free (fun f fd F => ok_is_free h f fd F) rfl (fun kV doc pmv an cdv ct us ws hl hw => match us, hl, ws, hw with | [_, _, _], _, [], _ => rfl)
theorem ce_is_free_0_row_machine_command {T : Txt} (h : Facts T) : CalleeD T "is_free" 0 ["row", "machine", "command"] 7 (callM 0 3 [1, 2, 0] m_is_free) := mk_calleeD (ps := ["machine", "command", "row"]) (pm := [1, 2, 0]) h.d_is_free (fun f fd F => ok_is_free h f fd F) rfl (fun kV doc pmv an cdv ct us ws hl hw => match us, hl, ws, hw with | [], _, [_, _, _], _ => rfl)
theorem sc__law_answer : FnScope ["_law_way", "_law_machine_here", "_law_command", "_law_row_here", "e"] ["_law_way", "_law_machine_here", "_law_command", "_law_row_here"] (defScope s__law_answer) := ⟨rfl, rfl, rfl, by decide +kernel, rfl, by decide +kernel, by decide +kernel⟩
noncomputable def pk__law_answer : {m : D → D → D → D → Unit → R (Fl Unit Unit × Unit) // ∀ (T : Txt) (h : Facts T) (f : Addr) (cdv : Value) (A : Around) (outer : List Env) (s : Shared) (H : Hp) (E : XK) (F : Hp) (d0 : D) (d1 : D) (d2 : D) (d3 : D), JB (bodyCtx T ["_law_way", "_law_machine_here", "_law_command", "_law_row_here", "e"] "_law_answer" s__law_answer f cdv A outer s H E 7 F fun _ => False) (fun _ : Unit => [some (.val d0), some (.val d1), some (.val d2), some (.val d3), none]) (defBody s__law_answer) (fun (_ : Unit) _ => []) (fun (_ : Unit) _ => []) (fun _ => []) (m d0 d1 d2 d3)} := ⟨fun d0 d1 d2 d3 => _, fun T h f cdv A outer s H E F d0 d1 d2 d3 => (jb_try (fun _ => [some (.val d0), some (.val d1), some (.val d2), some (.val d3), none]) (fun (a1 : Unit) _ => [some (.val d0), some (.val d1), some (.val d2), some (.val d3), none]) (fun _ _ _ _ _ _ => (jb_if (fun (a2 : Unit) _ => [some (.val d0), some (.val d1), some (.val d2), some (.val d3), none]) (jt_cmp od_eq (je_var 0 (f := fun _ => d0)) je_int) (jb_ret (je_tup (ja_cons je_str (ja_cons (je_call (ce_is_free_3 h) (Nat.le_of_ble_eq_true rfl) (ja_cons (je_var 1 (f := fun _ => d1)) (ja_cons (je_var 2 (f := fun _ => d2)) (ja_cons (je_var 3 (f := fun _ => d3)) ja_nil))) (hle := fun _ => ⟨(SlotsLe.cons_same (SlotsLe.cons_same (SlotsLe.cons_same (SlotsLe.cons_same (SlotsLe.cons_none (SlotsLe.nil _)))))), Nat.le_of_ble_eq_true rfl⟩)) ja_nil))) (fun _ => SlotsLe.nil _) (fun _ => Nat.le_of_ble_eq_true rfl)) (jb_nil (fun _ => ()) (fun _ => (SlotsLe.cons_same (SlotsLe.cons_same (SlotsLe.cons_same (SlotsLe.cons_same (SlotsLe.cons_none (SlotsLe.nil _))))))) (fun _ => Nat.le_of_ble_eq_true rfl)) (fun a2 => (jb_if (fun (a3 : Unit) _ => [some (.val d0), some (.val d1), some (.val d2), some (.val d3), none]) (jt_cmp od_eq (je_var 0 (f := fun _ => d0)) je_int) (jb_ret (je_tup (ja_cons je_str (ja_cons (je_call (ce_clash_3 h) (Nat.le_of_ble_eq_true rfl) (ja_cons (je_var 1 (f := fun _ => d1)) (ja_cons (je_var 2 (f := fun _ => d2)) (ja_cons (je_var 3 (f := fun _ => d3)) ja_nil))) (hle := fun _ => ⟨(SlotsLe.cons_same (SlotsLe.cons_same (SlotsLe.cons_same (SlotsLe.cons_same (SlotsLe.cons_none (SlotsLe.nil _)))))), Nat.le_of_ble_eq_true rfl⟩)) ja_nil))) (fun _ => SlotsLe.nil _) (fun _ => Nat.le_of_ble_eq_true rfl)) (jb_nil (fun _ => ()) (fun _ => (SlotsLe.cons_same (SlotsLe.cons_same (SlotsLe.cons_same (SlotsLe.cons_same (SlotsLe.cons_none (SlotsLe.nil _))))))) (fun _ => Nat.le_of_ble_eq_true rfl)) (fun a3 => (jb_ret (je_tup (ja_cons je_str (ja_cons (je_call (ce_free_commands_2 h) (Nat.le_of_ble_eq_true rfl) (ja_cons (je_var 1 (f := fun _ => d1)) (ja_cons (je_var 3 (f := fun _ => d3)) ja_nil)) (hle := fun _ => ⟨(SlotsLe.cons_same (SlotsLe.cons_same (SlotsLe.cons_same (SlotsLe.cons_same (SlotsLe.cons_none (SlotsLe.nil _)))))), Nat.le_of_ble_eq_true rfl⟩)) ja_nil))) (fun _ => SlotsLe.nil _) (fun _ => Nat.le_of_ble_eq_true rfl))))))) (fun _ => (jh_as 4 (h.ex_Refused) (fun _ _ _ _ _ _ he hz hf => (jb_ret (je_tup (ja_cons je_str (ja_cons (je_at 4 he hz hf) ja_nil))) (fun _ => SlotsLe.nil _) (fun _ => Nat.le_of_ble_eq_true rfl))) (by intro _; rfl) (by intro _; rfl) (jh_as 4 (h.ex_InvalidRow) (fun _ _ _ _ _ _ he hz hf => (jb_ret (je_tup (ja_cons je_str (ja_cons (je_at 4 he hz hf) ja_nil))) (fun _ => SlotsLe.nil _) (fun _ => Nat.le_of_ble_eq_true rfl))) (by intro _; rfl) (by intro _; rfl) (jh_nil (SlotsLe.nil _) (Nat.zero_le _))))) (fun a1 => (jb_nil (fun _ => ()) (fun _ => SlotsLe.nil _) (fun _ => Nat.zero_le _))))⟩
noncomputable def m__law_answer : List D → R D := fun ds => finish1 ((ar4 .bad fun d0 d1 d2 d3 => pk__law_answer.1 d0 d1 d2 d3 ()) ds)
theorem ok__law_answer {T : Txt} (h : Facts T) (f : Addr) (fd : FuncData) (F : Fun T.K "_law_answer" "_law_answer" s__law_answer f fd) : FnG T.P T.w T.K T.mg T.base (L2.CX T.P T.w) 8 f fd ["_law_way", "_law_machine_here", "_law_command", "_law_row_here"] (SpD T 4 m__law_answer) := fn_ok F sc__law_answer (fun cdv A outer s H E G ds hl => match ds, hl with | [d0, d1, d2, d3], _ => pk__law_answer.2 T h f cdv A outer s H E G d0 d1 d2 d3)
theorem ce__law_answer_4 {T : Txt} (h : Facts T) : CalleeD T "_law_answer" 4 [] 8 (callM 4 0 [] m__law_answer) := mk_calleeD (ps := ["_law_way", "_law_machine_here", "_law_command", "_law_row_here"]) (pm := []) h.d__law_answer (fun f fd F => ok__law_answer h f fd F) rfl (fun kV doc pmv an cdv ct us ws hl hw => match us, hl, ws, hw with | [_, _, _, _], _, [], _ => rfl)
theorem sc__law_errors : FnScope ["_law_deal", "_law_machine_here", "_law_commands", "_law_row_here", "_law_no_row", "_law_at", "_law_no_command", "_law_way"] ["_law_deal", "_law_machine_here", "_law_commands", "_law_row_here"] (defScope s__law_errors) := ⟨rfl, rfl, rfl, by decide +kernel, rfl, by decide +kernel, by decide +kernel⟩
noncomputable def pk__law_errors : {m : D → D → D → Deal → R (Fl Unit Unit × Deal) // ∀ (T : Txt) (h : Facts T) (f : Addr) (cdv : Value) (A : Around) (outer : List Env) (s : Shared) (H : Hp) (E : XK) (F : Hp) (l1 l2 : Addr) (d1 : D) (d2 : D) (d3 : D), JB (bodyCtx T ["_law_deal", "_law_machine_here", "_law_commands", "_law_row_here", "_law_no_row", "_law_at", "_law_no_command", "_law_way"] "_law_errors" s__law_errors f cdv A outer s H E 8 F (onDeal l1 l2)) (fun dl : Deal => [some (.deal l1 l2 dl.1 dl.2), some (.val d1), some (.val d2), some (.val d3), none, none, none, none]) (defBody s__law_errors) (fun (_ : Unit) dl => [some (.deal l1 l2 dl.1 dl.2)]) (fun (_ : Unit) _ => []) (fun dl => [some (.deal l1 l2 dl.1 dl.2)]) (m d1 d2 d3)} := ⟨fun d1 d2 d3 => _, fun T h f cdv A outer s H E F l1 l2 d1 d2 d3 => (jb_unp2 4 5 (je_callL 0 (ce__law_of_1 h) (Nat.le_of_ble_eq_true rfl) (ja_cons (je_lst (ja_cons (je_tup (ja_cons (je_op od_add (je_op od_add (je_blt (h.b_list) cd_list (ja_cons (je_var 3 (f := fun _ => d3)) ja_nil)) (je_lst (ja_cons (je_var 2 (f := fun _ => d2)) ja_nil))) (je_blt (h.b_list) cd_list (ja_cons (je_var 3 (f := fun _ => d3)) ja_nil))) (ja_cons (je_blt (h.b_len) cd_len (ja_cons (je_var 3 (f := fun _ => d3)) ja_nil)) ja_nil))) (ja_cons (je_tup (ja_cons (je_op od_add (je_lst (ja_cons je_bl ja_nil)) (je_blt (h.b_list) cd_list (ja_cons (je_var 3 (f := fun _ => d3)) ja_nil))) (ja_cons je_int ja_nil))) (ja_cons (je_tup (ja_cons (je_blt (h.b_str) cd_str (ja_cons (je_var 3 (f := fun _ => d3)) ja_nil)) (ja_cons je_int ja_nil))) (ja_cons (je_tup (ja_cons je_non (ja_cons je_int ja_nil))) ja_nil))))) ja_nil)) (jg_tup (jgs_cons 4 (jgs_cons 5 jgs_nil))) (fun v1 v2 => (jb_set 6 (je_callL 0 (ce__law_of_1 h) (Nat.le_of_ble_eq_true rfl) (ja_cons (je_lst (ja_cons (je_var 2 (f := fun _ => d2)) (ja_cons (je_neg je_int) (ja_cons je_bl (ja_cons je_non (ja_cons je_str (ja_cons (je_tup (ja_cons je_int ja_nil)) ja_nil))))))) ja_nil)) (fun v3 => (jb_for 7 (fun (a4 : Unit) dl => [some (.deal l1 l2 dl.1 dl.2), some (.val d1), some (.val d2), some (.val d3), some (.val v1), some (.val v2), some (.val v3), none]) (fun _ => ()) (ji_range1 (h.b_range) je_int) (fun _ => (SlotsLe.cons_same (SlotsLe.cons_same (SlotsLe.cons_same (SlotsLe.cons_same (SlotsLe.cons_same (SlotsLe.cons_same (SlotsLe.cons_same (SlotsLe.cons_none (SlotsLe.nil _)))))))))) (fun _ => Nat.le_of_ble_eq_true rfl) (fun v5 a4 => (jb_if (fun (a6 : Unit) dl => [some (.deal l1 l2 dl.1 dl.2), some (.val d1), some (.val d2), some (.val d3), some (.val v1), some (.val v2), some (.val v3), some (.val v5)]) (jt_cmp od_ne (je_blt (h.b_repr) cd_repr (ja_cons (je_call (ce__law_answer_4 h) (Nat.le_of_ble_eq_true rfl) (ja_cons (je_var 7 (f := fun _ => v5)) (ja_cons (je_var 1 (f := fun _ => d1)) (ja_cons (je_var 6 (f := fun _ => v3)) (ja_cons (je_callL 0 (ce__law_of_1 h) (Nat.le_of_ble_eq_true rfl) (ja_cons (je_lst (ja_cons (je_var 3 (f := fun _ => d3)) (ja_cons (je_var 4 (f := fun _ => v1)) ja_nil))) ja_nil)) ja_nil))))) ja_nil)) je_str) (jb_ret je_bl (fun _ => SlotsLe.cons_same (SlotsLe.nil _)) (fun _ => Nat.le_of_ble_eq_true rfl)) (jb_nil (fun _ => ()) (fun _ => (SlotsLe.cons_same (SlotsLe.cons_same (SlotsLe.cons_same (SlotsLe.cons_same (SlotsLe.cons_same (SlotsLe.cons_same (SlotsLe.cons_same (SlotsLe.cons_same (SlotsLe.nil _)))))))))) (fun _ => Nat.le_of_ble_eq_true rfl)) (fun a6 => (jb_nil (fun _ => ()) (fun _ => (SlotsLe.cons_same (SlotsLe.cons_same (SlotsLe.cons_same (SlotsLe.cons_same (SlotsLe.cons_same (SlotsLe.cons_same (SlotsLe.cons_same (SlotsLe.cons_none (SlotsLe.nil _)))))))))) (fun _ => Nat.le_of_ble_eq_true rfl))))) (fun a4 => (jb_ret (je_cmp od_eq (je_ofL (jel_lc1 7 [("_law_way", 7)] (ji_range1 (h.b_range) je_int) (fun _ => jg_name 7) (fun _ v7 => jts_nil) (fun _ v7 => (je_blt (h.b_repr) cd_repr (ja_cons (je_call (ce__law_answer_4 h) (Nat.le_of_ble_eq_true rfl) (ja_cons (je_var 7 (f := fun _ => v7)) (ja_cons (je_var 1 (f := fun _ => d1)) (ja_cons je_int (ja_cons (je_var 4 (f := fun _ => v1)) ja_nil))))) ja_nil))))) (je_op od_mul (je_lst (ja_cons (je_blt (h.b_repr) cd_repr (ja_cons (je_tup (ja_cons je_str (ja_cons (je_var 5 (f := fun _ => v2)) ja_nil))) ja_nil)) ja_nil)) je_int)) (fun _ => SlotsLe.cons_same (SlotsLe.nil _)) (fun _ => Nat.le_of_ble_eq_true rfl))))))))⟩
noncomputable def m__law_errors : List D → Deal → R (D × Deal) := fun ds dl => finish (ar3 (fun _ => .bad) pk__law_errors.1 ds dl)
theorem ok__law_errors {T : Txt} (h : Facts T) (f : Addr) (fd : FuncData) (F : Fun T.K "_law_errors" "_law_errors" s__law_errors f fd) : FnG T.P T.w T.K T.mg T.base (L2.CX T.P T.w) 9 f fd ["_law_deal", "_law_machine_here", "_law_commands", "_law_row_here"] (SpL T 3 m__law_errors) := fn_okL F sc__law_errors (by decide) (fun cdv A outer s H E G l1 l2 ds hl => match ds, hl with | [d1, d2, d3], _ => pk__law_errors.2 T h f cdv A outer s H E G l1 l2 d1 d2 d3)
theorem ce__law_errors_3 {T : Txt} (h : Facts T) : CalleeL T "_law_errors" 3 [] 9 (callL 3 0 [] m__law_errors) := mk_calleeL (ps := ["_law_deal", "_law_machine_here", "_law_commands", "_law_row_here"]) (pm := []) h.d__law_errors (fun f fd F => ok__law_errors h f fd F) rfl (fun kV doc pmv an cdv ct us ws hl hw => match us, hl, ws, hw with | [_, _, _, _], _, [], _ => rfl)
theorem sc_Machine_init : FnScope ["self", "commands", "steps", "state", "row", "to"] ["self", "commands", "steps"] (defScope s_Machine_init) := ⟨rfl, rfl, rfl, by decide +kernel, rfl, by decide +kernel, by decide +kernel⟩
noncomputable def pk_Machine_init : {m : D → D → Unit → R (Fl (List (Str × D)) Unit × Unit) // ∀ (T : Txt) (h : Facts T) (f : Addr) (cdv : Value) (A : Around) (outer : List Env) (s : Shared) (H : Hp) (E : XK) (F : Hp) (p dx : Addr) (d1 : D) (d2 : D), JB (bodyCtx T ["self", "commands", "steps", "state", "row", "to"] "Machine.__init__" s_Machine_init f cdv A outer s H E 3 F (fun a => a = p)) (fun _ : Unit => [some (.ins p dx "Machine" []), some (.val d1), some (.val d2), none, none, none]) (defBody s_Machine_init) (fun (a : List (Str × D)) _ => [some (.ins p dx "Machine" a)]) (fun (_ : Unit) _ => []) (fun _ => []) (m d1 d2)} := ⟨fun d1 d2 => _, fun T h f cdv A outer s H E F p dx d1 d2 => (jb_if (fun (a1 : Unit) _ => [some (.ins p dx "Machine" []), some (.val d1), some (.val d2), none, none, none]) (jt_w (jw_or (jt_not (jt_val (je_call (ce_is_number_1 h) (Nat.le_of_ble_eq_true rfl) (ja_cons (je_var 1 (f := fun _ => d1)) ja_nil)))) (jw_or1 (jt_cmp od_eq (je_var 1 (f := fun _ => d1)) je_int)))) (jb_raise (h.er_InvalidMachine) je_int) (jb_nil (fun _ => ()) (fun _ => (SlotsLe.cons_same (SlotsLe.cons_same (SlotsLe.cons_same (SlotsLe.cons_none (SlotsLe.cons_none (SlotsLe.cons_none (SlotsLe.nil _)))))))) (fun _ => Nat.le_of_ble_eq_true rfl)) (fun a1 => (jb_if (fun (a2 : Unit) _ => [some (.ins p dx "Machine" []), some (.val d1), some (.val d2), none, none, none]) (jt_w (jw_or (jt_not (jt_val (je_call (ce_is_sequence_1 h) (Nat.le_of_ble_eq_true rfl) (ja_cons (je_var 2 (f := fun _ => d2)) ja_nil)))) (jw_or1 (jt_cmp od_eq (je_blt (h.b_len) cd_len (ja_cons (je_var 2 (f := fun _ => d2)) ja_nil)) je_int)))) (jb_raise (h.er_InvalidMachine) je_int) (jb_nil (fun _ => ()) (fun _ => (SlotsLe.cons_same (SlotsLe.cons_same (SlotsLe.cons_same (SlotsLe.cons_none (SlotsLe.cons_none (SlotsLe.cons_none (SlotsLe.nil _)))))))) (fun _ => Nat.le_of_ble_eq_true rfl)) (fun a2 => (jb_for2 3 4 (fun (a3 : Unit) _ => [some (.ins p dx "Machine" []), some (.val d1), some (.val d2), none, none, none]) (fun _ => ()) (ji_enum (h.b_enumerate) (je_var 2 (f := fun _ => d2))) (fun _ => (SlotsLe.cons_same (SlotsLe.cons_same (SlotsLe.cons_same (SlotsLe.cons_none (SlotsLe.cons_none (SlotsLe.cons_none (SlotsLe.nil _)))))))) (fun _ => Nat.le_of_ble_eq_true rfl) (fun v4 v5 a3 => (jb_if (fun (a6 : Unit) _ => [some (.ins p dx "Machine" []), some (.val d1), some (.val d2), some (.val v4), some (.val v5), none]) (jt_w (jw_or (jt_not (jt_val (je_call (ce_is_sequence_1 h) (Nat.le_of_ble_eq_true rfl) (ja_cons (je_var 4 (f := fun _ => v5)) ja_nil)))) (jw_or (jt_cmp od_ne (je_blt (h.b_len) cd_len (ja_cons (je_var 4 (f := fun _ => v5)) ja_nil)) (je_var 1 (f := fun _ => d1))) (jw_or1 (jt_not (jt_val (je_blt (h.b_all) cd_all (ja_cons (je_ofL (jel_lc1 5 [("to", 5)] (ji_seq (je_var 4 (f := fun _ => v5))) (fun _ => jg_name 5) (fun _ v7 => jts_nil) (fun _ v7 => (je_call (ce_is_index_2 h) (Nat.le_of_ble_eq_true rfl) (ja_cons (je_var 5 (f := fun _ => v7)) (ja_cons (je_blt (h.b_len) cd_len (ja_cons (je_var 2 (f := fun _ => d2)) ja_nil)) ja_nil)))))) ja_nil)))))))) (jb_raise (h.er_InvalidMachine) (je_op od_add je_int (je_var 3 (f := fun _ => v4)))) (jb_nil (fun _ => ()) (fun _ => (SlotsLe.cons_same (SlotsLe.cons_same (SlotsLe.cons_same (SlotsLe.cons_same (SlotsLe.cons_same (SlotsLe.cons_none (SlotsLe.nil _)))))))) (fun _ => Nat.le_of_ble_eq_true rfl)) (fun a6 => (jb_nil (fun _ => ()) (fun _ => (SlotsLe.cons_same (SlotsLe.cons_same (SlotsLe.cons_same (SlotsLe.cons_none (SlotsLe.cons_none (SlotsLe.cons_none (SlotsLe.nil _)))))))) (fun _ => Nat.le_of_ble_eq_true rfl))))) (fun a3 => (jb_fld 0 (h.at_Machine_commands) (je_var 1 (f := fun _ => d1)) (by intro _; rfl) (fun _ => (Nat.lt_of_lt_of_le (Nat.zero_lt_one : ([] : List (Str × D)).length < 1) (Nat.le_of_ble_eq_true rfl))) (fun v8 => (jb_fld 0 (h.at_Machine_states) (je_blt (h.b_len) cd_len (ja_cons (je_var 2 (f := fun _ => d2)) ja_nil)) (by intro _; rfl) (fun _ => (Nat.lt_of_lt_of_le (lt_put (Nat.zero_lt_one : ([] : List (Str × D)).length < 1)) (Nat.le_of_ble_eq_true rfl))) (fun v9 => (jb_fld 0 (h.at_Machine_steps) (je_blt (h.b_tuple) cd_tuple (ja_cons (je_ofL (jel_lc1 4 [("row", 4)] (ji_seq (je_var 2 (f := fun _ => d2))) (fun _ => jg_name 4) (fun _ v10 => jts_nil) (fun _ v10 => (je_blt (h.b_tuple) cd_tuple (ja_cons (je_var 4 (f := fun _ => v10)) ja_nil))))) ja_nil)) (by intro _; rfl) (fun _ => (Nat.lt_of_lt_of_le (lt_put (lt_put (Nat.zero_lt_one : ([] : List (Str × D)).length < 1))) (Nat.le_of_ble_eq_true rfl))) (fun v11 => (jb_fld 0 (h.at_Machine__found) je_dct0 (by intro _; rfl) (fun _ => (Nat.lt_of_lt_of_le (lt_put (lt_put (lt_put (Nat.zero_lt_one : ([] : List (Str × D)).length < 1)))) (Nat.le_of_ble_eq_true rfl))) (fun v12 => (jb_nil (fun _ => (putD "_found" v12 (putD "steps" v11 (putD "states" v9 (putD "commands" v8 []))))) (fun _ => SlotsLe.cons_same (SlotsLe.nil _)) (fun _ => Nat.le_of_ble_eq_true rfl))))))))))))))))⟩
noncomputable def m_Machine_init : List D → R (List (Str × D)) := fun ds => finishI ((ar2 .bad fun d1 d2 => pk_Machine_init.1 d1 d2 ()) ds) id
theorem ok_Machine_init {T : Txt} (h : Facts T) (f : Addr) (fd : FuncData) (F : Fun T.K "__init__" "Machine.__init__" s_Machine_init f fd) : FnG T.P T.w T.K T.mg T.base (L2.CX T.P T.w) 4 f fd ["self", "commands", "steps"] (SpI T "Machine" 2 m_Machine_init) := fn_okI F sc_Machine_init (by decide) (fun cdv A outer s H E G p dx ds hl => match ds, hl with | [d1, d2], _ => pk_Machine_init.2 T h f cdv A outer s H E G p dx d1 d2)
theorem ce_Machine_init_2 {T : Txt} (h : Facts T) : CalleeI T "Machine" 2 [] 4 (callM 2 0 [] m_Machine_init) := mk_calleeI (ps := ["self", "commands", "steps"]) (pm := []) h.mk_Machine (fun f fd F => ok_Machine_init h f fd F) rfl (fun kV doc pmv an cdv ct us ws hl hw => match us, hl, ws, hw with | [_, _, _], _, [], _ => rfl)
theorem sc__law_row : FnScope ["_law_deal", "_law_commands", "_law_length", "_law_turn"] ["_law_deal", "_law_commands", "_law_length"] (defScope s__law_row) := ⟨rfl, rfl, rfl, by decide +kernel, rfl, by decide +kernel, by decide +kernel⟩
noncomputable def pk__law_row : {m : D → D → Deal → R (Fl Unit Unit × Deal) // ∀ (T : Txt) (h : Facts T) (f : Addr) (cdv : Value) (A : Around) (outer : List Env) (s : Shared) (H : Hp) (E : XK) (F : Hp) (l1 l2 : Addr) (d1 : D) (d2 : D), JB (bodyCtx T ["_law_deal", "_law_commands", "_law_length", "_law_turn"] "_law_row" s__law_row f cdv A outer s H E 1 F (onDeal l1 l2)) (fun dl : Deal => [some (.deal l1 l2 dl.1 dl.2), some (.val d1), some (.val d2), none]) (defBody s__law_row) (fun (_ : Unit) dl => [some (.deal l1 l2 dl.1 dl.2)]) (fun (_ : Unit) _ => []) (fun dl => [some (.deal l1 l2 dl.1 dl.2)]) (m d1 d2)} := ⟨fun d1 d2 => _, fun T h f cdv A outer s H E F l1 l2 d1 d2 => (jb_ret (je_blt (h.b_tuple) cd_tuple (ja_cons (je_ofL (jel_lc1 3 [("_law_turn", 3)] (ji_range1 (h.b_range) (je_var 2 (f := fun _ => d2))) (fun _ => jg_name 3) (fun _ v1 => jts_nil) (fun _ v1 => (je_callL 0 (ce__law_any_1 h) (Nat.le_of_ble_eq_true rfl) (ja_cons (je_var 1 (f := fun _ => d1)) ja_nil))))) ja_nil)) (fun _ => SlotsLe.cons_same (SlotsLe.nil _)) (fun _ => Nat.le_of_ble_eq_true rfl))⟩
noncomputable def m__law_row : List D → Deal → R (D × Deal) := fun ds dl => finish (ar2 (fun _ => .bad) pk__law_row.1 ds dl)
theorem ok__law_row {T : Txt} (h : Facts T) (f : Addr) (fd : FuncData) (F : Fun T.K "_law_row" "_law_row" s__law_row f fd) : FnG T.P T.w T.K T.mg T.base (L2.CX T.P T.w) 2 f fd ["_law_deal", "_law_commands", "_law_length"] (SpL T 2 m__law_row) := fn_okL F sc__law_row (by decide) (fun cdv A outer s H E G l1 l2 ds hl => match ds, hl with | [d1, d2], _ => pk__law_row.2 T h f cdv A outer s H E G l1 l2 d1 d2)
theorem ce__law_row_2 {T : Txt} (h : Facts T) : CalleeL T "_law_row" 2 [] 2 (callL 2 0 [] m__law_row) := mk_calleeL (ps := ["_law_deal", "_law_commands", "_law_length"]) (pm := []) h.d__law_row (fun f fd F => ok__law_row h f fd F) rfl (fun kV doc pmv an cdv ct us ws hl hw => match us, hl, ws, hw with | [_, _, _], _, [], _ => rfl)
theorem sc__law_kernel : FnScope ["_law_steps", "_law_row_here", "_law_found", "_law_state"] ["_law_steps", "_law_row_here"] (defScope s__law_kernel) := ⟨rfl, rfl, rfl, by decide +kernel, rfl, by decide +kernel, by decide +kernel⟩
noncomputable def pk__law_kernel : {m : D → D → Unit → R (Fl Unit Unit × Unit) // ∀ (T : Txt) (h : Facts T) (f : Addr) (cdv : Value) (A : Around) (outer : List Env) (s : Shared) (H : Hp) (E : XK) (F : Hp) (d0 : D) (d1 : D), JB (bodyCtx T ["_law_steps", "_law_row_here", "_law_found", "_law_state"] "_law_kernel" s__law_kernel f cdv A outer s H E 2 F fun _ => False) (fun _ : Unit => [some (.val d0), some (.val d1), none, none]) (defBody s__law_kernel) (fun (_ : Unit) _ => []) (fun (_ : Unit) _ => []) (fun _ => []) (m d0 d1)} := ⟨fun d0 d1 => _, fun T h f cdv A outer s H E F d0 d1 => (jb_set 2 (je_call (ce__law_effect_2 h) (Nat.le_of_ble_eq_true rfl) (ja_cons (je_var 0 (f := fun _ => d0)) (ja_cons (je_var 1 (f := fun _ => d1)) ja_nil))) (fun v1 => (jb_ret (je_blt (h.b_tuple) cd_tuple (ja_cons (je_ofL (jel_lc1 3 [("_law_state", 3)] (ji_seq (je_var 2 (f := fun _ => v1))) (fun _ => jg_name 3) (fun _ v2 => jts_nil) (fun _ v2 => (je_index (je_var 2 (f := fun _ => v1)) (je_var 3 (f := fun _ => v2)))))) ja_nil)) (fun _ => SlotsLe.nil _) (fun _ => Nat.le_of_ble_eq_true rfl))))⟩
noncomputable def m__law_kernel : List D → R D := fun ds => finish1 ((ar2 .bad fun d0 d1 => pk__law_kernel.1 d0 d1 ()) ds)
theorem ok__law_kernel {T : Txt} (h : Facts T) (f : Addr) (fd : FuncData) (F : Fun T.K "_law_kernel" "_law_kernel" s__law_kernel f fd) : FnG T.P T.w T.K T.mg T.base (L2.CX T.P T.w) 3 f fd ["_law_steps", "_law_row_here"] (SpD T 2 m__law_kernel) := fn_ok F sc__law_kernel (fun cdv A outer s H E G ds hl => match ds, hl with | [d0, d1], _ => pk__law_kernel.2 T h f cdv A outer s H E G d0 d1)
theorem ce__law_kernel_2 {T : Txt} (h : Facts T) : CalleeD T "_law_kernel" 2 [] 3 (callM 2 0 [] m__law_kernel) := mk_calleeD (ps := ["_law_steps", "_law_row_here"]) (pm := []) h.d__law_kernel (fun f fd F => ok__law_kernel h f fd F) rfl (fun kV doc pmv an cdv ct us ws hl hw => match us, hl, ws, hw with | [_, _], _, [], _ => rfl)
theorem sc__law_clash : FnScope ["_law_steps", "_law_command", "_law_found", "_law_state", "_law_other"] ["_law_steps", "_law_command", "_law_found"] (defScope s__law_clash) := ⟨rfl, rfl, rfl, by decide +kernel, rfl, by decide +kernel, by decide +kernel⟩
noncomputable def pk__law_clash : {m : D → D → D → Unit → R (Fl Unit Unit × Unit) // ∀ (T : Txt) (h : Facts T) (f : Addr) (cdv : Value) (A : Around) (outer : List Env) (s : Shared) (H : Hp) (E : XK) (F : Hp) (d0 : D) (d1 : D) (d2 : D), JB (bodyCtx T ["_law_steps", "_law_command", "_law_found", "_law_state", "_law_other"] "_law_clash" s__law_clash f cdv A outer s H E 0 F fun _ => False) (fun _ : Unit => [some (.val d0), some (.val d1), some (.val d2), none, none]) (defBody s__law_clash) (fun (_ : Unit) _ => []) (fun (_ : Unit) _ => []) (fun _ => []) (m d0 d1 d2)} := ⟨fun d0 d1 d2 => _, fun T h f cdv A outer s H E F d0 d1 d2 => (jb_for 3 (fun (a1 : Unit) _ => [some (.val d0), some (.val d1), some (.val d2), none, none]) (fun _ => ()) (ji_range1 (h.b_range) (je_blt (h.b_len) cd_len (ja_cons (je_var 0 (f := fun _ => d0)) ja_nil))) (fun _ => (SlotsLe.cons_same (SlotsLe.cons_same (SlotsLe.cons_same (SlotsLe.cons_none (SlotsLe.cons_none (SlotsLe.nil _))))))) (fun _ => Nat.le_of_ble_eq_true rfl) (fun v2 a1 => (jb_for 4 (fun (a3 : Unit) _ => [some (.val d0), some (.val d1), some (.val d2), some (.val v2), none]) (fun _ => ()) (ji_range1 (h.b_range) (je_blt (h.b_len) cd_len (ja_cons (je_ix (je_var 0 (f := fun _ => d0)) je_int) ja_nil))) (fun _ => (SlotsLe.cons_same (SlotsLe.cons_same (SlotsLe.cons_same (SlotsLe.cons_same (SlotsLe.cons_none (SlotsLe.nil _))))))) (fun _ => Nat.le_of_ble_eq_true rfl) (fun v4 a3 => (jb_if (fun (a5 : Unit) _ => [some (.val d0), some (.val d1), some (.val d2), some (.val v2), some (.val v4)]) (jt_cmp od_ne (je_ix (je_var 2 (f := fun _ => d2)) (je_ix (je_ix (je_var 0 (f := fun _ => d0)) (je_ix (je_ix (je_var 0 (f := fun _ => d0)) (je_var 3 (f := fun _ => v2))) (je_var 1 (f := fun _ => d1)))) (je_var 4 (f := fun _ => v4)))) (je_ix (je_var 2 (f := fun _ => d2)) (je_ix (je_ix (je_var 0 (f := fun _ => d0)) (je_ix (je_ix (je_var 0 (f := fun _ => d0)) (je_var 3 (f := fun _ => v2))) (je_var 4 (f := fun _ => v4)))) (je_var 1 (f := fun _ => d1))))) (jb_ret (je_tup (ja_cons (je_var 3 (f := fun _ => v2)) (ja_cons (je_var 4 (f := fun _ => v4)) ja_nil))) (fun _ => SlotsLe.nil _) (fun _ => Nat.le_of_ble_eq_true rfl)) (jb_nil (fun _ => ()) (fun _ => (SlotsLe.cons_same (SlotsLe.cons_same (SlotsLe.cons_same (SlotsLe.cons_same (SlotsLe.cons_same (SlotsLe.nil _))))))) (fun _ => Nat.le_of_ble_eq_true rfl)) (fun a5 => (jb_nil (fun _ => ()) (fun _ => (SlotsLe.cons_same (SlotsLe.cons_same (SlotsLe.cons_same (SlotsLe.cons_same (SlotsLe.cons_none (SlotsLe.nil _))))))) (fun _ => Nat.le_of_ble_eq_true rfl))))) (fun a3 => (jb_nil (fun _ => ()) (fun _ => (SlotsLe.cons_same (SlotsLe.cons_same (SlotsLe.cons_same (SlotsLe.cons_none (SlotsLe.cons_none (SlotsLe.nil _))))))) (fun _ => Nat.le_of_ble_eq_true rfl))))) (fun a1 => (jb_ret je_non (fun _ => SlotsLe.nil _) (fun _ => Nat.le_of_ble_eq_true rfl))))⟩
noncomputable def m__law_clash : List D → R D := fun ds => finish1 ((ar3 .bad fun d0 d1 d2 => pk__law_clash.1 d0 d1 d2 ()) ds)
theorem ok__law_clash {T : Txt} (h : Facts T) (f : Addr) (fd : FuncData) (F : Fun T.K "_law_clash" "_law_clash" s__law_clash f fd) : FnG T.P T.w T.K T.mg T.base (L2.CX T.P T.w) 1 f fd ["_law_steps", "_law_command", "_law_found"] (SpD T 3 m__law_clash) := fn_ok F sc__law_clash (fun cdv A outer s H E G ds hl => match ds, hl with | [d0, d1, d2], _ => pk__law_clash.2 T h f cdv A outer s H E G d0 d1 d2)
theorem ce__law_clash_3 {T : Txt} (h : Facts T) : CalleeD T "_law_clash" 3 [] 1 (callM 3 0 [] m__law_clash) := mk_calleeD (ps := ["_law_steps", "_law_command", "_law_found"]) (pm := []) h.d__law_clash (fun f fd F => ok__law_clash h f fd F) rfl (fun kV doc pmv an cdv ct us ws hl hw => match us, hl, ws, hw with | [_, _, _], _, [], _ => rfl)
theorem sc_law : FnScope ["_law_script", "_law_deal", "_law_commands", "_law_steps", "_law_last", "_law_machine_here", "_law_rows", "_law_row_here", "_law_other", "_law_found", "_law_free", "_law_command", "_law_due", "_law_given", "_law_longer", "_law_turn", "_law_told", "_law_effect_here", "_law_ahead"] ["_law_script"] (defScope s_law) := ⟨rfl, rfl, rfl, by decide +kernel, rfl, by decide +kernel, by decide +kernel⟩
noncomputable def pk_law : {m : List Int → R (Fl Unit Unit × Unit) // ∀ (T : Txt) (h : Facts T) (f : Addr) (cdv : Value) (A : Around) (outer : List Env) (s : Shared) (H : Hp) (E : XK) (ns : List Int), (∀ b u, H b = some u → ∃ o xs, u = .frz o (.lst xs)) → LawB (bodyCtx T ["_law_script", "_law_deal", "_law_commands", "_law_steps", "_law_last", "_law_machine_here", "_law_rows", "_law_row_here", "_law_other", "_law_found", "_law_free", "_law_command", "_law_due", "_law_given", "_law_longer", "_law_turn", "_law_told", "_law_effect_here", "_law_ahead"] "law" s_law f cdv A outer s H E 9 H fun _ => False) (startD ["_law_script", "_law_deal", "_law_commands", "_law_steps", "_law_last", "_law_machine_here", "_law_rows", "_law_row_here", "_law_other", "_law_found", "_law_free", "_law_command", "_law_due", "_law_given", "_law_longer", "_law_turn", "_law_told", "_law_effect_here", "_law_ahead"] [.scr ns]) (defBody s_law) (m ns)} := ⟨fun ns => _, fun T h f cdv A outer s H E ns hO => (law_deal 1 (je_call (ce__law_draw_2 h) (Nat.le_of_ble_eq_true rfl) (ja_cons (je_var 0 (f := fun _ => (.scr ns))) (ja_cons je_int ja_nil))) onlyScr_start hO hO (fun _ z => z) (fun l1 l2 => (jb_unp3 2 3 4 (je_callL 1 (ce__law_stock_2 h) (Nat.le_of_ble_eq_true rfl) (ja_cons je_int (ja_cons je_int ja_nil))) (jg_tup (jgs_cons 2 (jgs_cons 3 (jgs_cons 4 jgs_nil)))) (fun v1 v2 v3 => (jb_par2 5 6 (ja_cons (je_make (ce_Machine_init_2 h) (Nat.le_of_ble_eq_true rfl) (ja_cons (je_var 2 (f := fun _ => v1)) (ja_cons (je_var 3 (f := fun _ => v2)) ja_nil))) (ja_cons (je_call (ce__law_few_1 h) (Nat.le_of_ble_eq_true rfl) (ja_cons (je_var 3 (f := fun _ => v2)) ja_nil)) ja_nil)) (fun v4 v5 => (jb_set 7 (je_op od_add (je_callL 1 (ce__law_row_2 h) (Nat.le_of_ble_eq_true rfl) (ja_cons (je_var 2 (f := fun _ => v1)) (ja_cons (je_callL 1 (ce__law_any_1 h) (Nat.le_of_ble_eq_true rfl) (ja_cons je_int ja_nil)) ja_nil))) (je_cut (je_var 4 (f := fun _ => v3)) jo_none (jo_some (je_op od_mul (je_callL 1 (ce__law_any_1 h) (Nat.le_of_ble_eq_true rfl) (ja_cons je_int ja_nil)) (je_callL 1 (ce__law_any_1 h) (Nat.le_of_ble_eq_true rfl) (ja_cons je_int ja_nil)))))) (fun v6 => (jb_par3vvl 8 9 10 (je_ix (je_var 6 (f := fun _ => v5)) (je_call (ce__law_kernel_2 h) (Nat.le_of_ble_eq_true rfl) (ja_cons (je_var 3 (f := fun _ => v2)) (ja_cons (je_var 7 (f := fun _ => v6)) ja_nil)))) (je_call (ce__law_effect_2 h) (Nat.le_of_ble_eq_true rfl) (ja_cons (je_var 3 (f := fun _ => v2)) (ja_cons (je_var 7 (f := fun _ => v6)) ja_nil))) (jel_lst ja_nil) (fun v7 v8 w9 => (jb_for 11 (fun (a10 : List D) dl => [some (.val (.scr ns)), some (.deal l1 l2 dl.1 dl.2), some (.val v1), some (.val v2), some (.val v3), some (.val v4), some (.val v5), some (.val v6), some (.val v7), some (.val v8), some (.own a10), none, none, none, none, none, none, none, none]) (fun _ => w9) (ji_range1 (h.b_range) (je_var 2 (f := fun _ => v1))) (fun _ => (SlotsLe.cons_same (SlotsLe.cons_same (SlotsLe.cons_same (SlotsLe.cons_same (SlotsLe.cons_same (SlotsLe.cons_same (SlotsLe.cons_same (SlotsLe.cons_same (SlotsLe.cons_same (SlotsLe.cons_same (SlotsLe.cons_same (SlotsLe.cons_none (SlotsLe.cons_none (SlotsLe.cons_none (SlotsLe.cons_none (SlotsLe.cons_none (SlotsLe.cons_none (SlotsLe.cons_none (SlotsLe.cons_none (SlotsLe.nil _))))))))))))))))))))) (fun _ => Nat.le_of_ble_eq_true rfl) (fun v11 a10 => (jb_par2 12 13 (ja_cons (je_call (ce__law_clash_3 h) (Nat.le_of_ble_eq_true rfl) (ja_cons (je_var 3 (f := fun _ => v2)) (ja_cons (je_var 11 (f := fun _ => v11)) (ja_cons (je_var 9 (f := fun _ => v8)) ja_nil)))) (ja_cons (je_blt (h.b_list) cd_list (ja_cons (je_var 7 (f := fun _ => v6)) ja_nil)) ja_nil)) (fun v12 v13 => (jb_if (fun (a14 : Unit) dl => [some (.val (.scr ns)), some (.deal l1 l2 dl.1 dl.2), some (.val v1), some (.val v2), some (.val v3), some (.val v4), some (.val v5), some (.val v6), some (.val v7), some (.val v8), some (.own a10), some (.val v11), some (.val v12), some (.val v13), none, none, none, none, none]) (jt_w (jw_or (jt_cmp od_ne (je_blt (h.b_repr) cd_repr (ja_cons (je_callKw0 (ce_clash_0_row_command_machine h) (Nat.le_of_ble_eq_true rfl) (jkw_cons (je_var 13 (f := fun _ => v13)) (jkw_cons (je_var 11 (f := fun _ => v11)) (jkw_cons (je_var 5 (f := fun _ => v4)) jkw_nil)))) ja_nil)) (je_blt (h.b_repr) cd_repr (ja_cons (je_var 12 (f := fun _ => v12)) ja_nil))) (jw_or1 (jt_cmp od_ne (je_var 13 (f := fun _ => v13)) (je_blt (h.b_list) cd_list (ja_cons (je_var 7 (f := fun _ => v6)) ja_nil)))))) (jb_ret je_bl (fun _ => SlotsLe.nil _) (fun _ => Nat.le_of_ble_eq_true rfl)) (jb_nil (fun _ => ()) (fun _ => (SlotsLe.cons_same (SlotsLe.cons_same (SlotsLe.cons_same (SlotsLe.cons_same (SlotsLe.cons_same (SlotsLe.cons_same (SlotsLe.cons_same (SlotsLe.cons_same (SlotsLe.cons_same (SlotsLe.cons_same (SlotsLe.cons_same (SlotsLe.cons_same (SlotsLe.cons_same (SlotsLe.cons_same (SlotsLe.cons_none (SlotsLe.cons_none (SlotsLe.cons_none (SlotsLe.cons_none (SlotsLe.cons_none (SlotsLe.nil _))))))))))))))))))))) (fun _ => Nat.le_of_ble_eq_true rfl)) (fun a14 => (jb_if (fun (a15 : Unit) dl => [some (.val (.scr ns)), some (.deal l1 l2 dl.1 dl.2), some (.val v1), some (.val v2), some (.val v3), some (.val v4), some (.val v5), some (.val v6), some (.val v7), some (.val v8), some (.own a10), some (.val v11), some (.val v12), some (.val v13), none, none, none, none, none]) (jt_cmp od_ne (je_blt (h.b_repr) cd_repr (ja_cons (je_callKw0 (ce_is_free_0_row_machine_command h) (Nat.le_of_ble_eq_true rfl) (jkw_cons (je_var 7 (f := fun _ => v6)) (jkw_cons (je_var 5 (f := fun _ => v4)) (jkw_cons (je_var 11 (f := fun _ => v11)) jkw_nil)))) ja_nil)) (je_blt (h.b_repr) cd_repr (ja_cons (je_cmp od_is (je_var 12 (f := fun _ => v12)) je_non) ja_nil))) (jb_ret je_bl (fun _ => SlotsLe.nil _) (fun _ => Nat.le_of_ble_eq_true rfl)) (jb_nil (fun _ => ()) (fun _ => (SlotsLe.cons_same (SlotsLe.cons_same (SlotsLe.cons_same (SlotsLe.cons_same (SlotsLe.cons_same (SlotsLe.cons_same (SlotsLe.cons_same (SlotsLe.cons_same (SlotsLe.cons_same (SlotsLe.cons_same (SlotsLe.cons_same (SlotsLe.cons_same (SlotsLe.cons_same (SlotsLe.cons_same (SlotsLe.cons_none (SlotsLe.cons_none (SlotsLe.cons_none (SlotsLe.cons_none (SlotsLe.cons_none (SlotsLe.nil _))))))))))))))))))))) (fun _ => Nat.le_of_ble_eq_true rfl)) (fun a15 => (jb_if (fun (a16 : Unit) dl => [some (.val (.scr ns)), some (.deal l1 l2 dl.1 dl.2), some (.val v1), some (.val v2), some (.val v3), some (.val v4), some (.val v5), some (.val v6), some (.val v7), some (.val v8), some (.own a10), some (.val v11), some (.val v12), some (.val v13), none, none, none, none, none]) (jt_w (jw_or (jt_cmp od_ne (je_blt (h.b_repr) cd_repr (ja_cons (je_call (ce_clash_3 h) (Nat.le_of_ble_eq_true rfl) (ja_cons (je_var 5 (f := fun _ => v4)) (ja_cons (je_var 11 (f := fun _ => v11)) (ja_cons (je_var 8 (f := fun _ => v7)) ja_nil)))) ja_nil)) (je_blt (h.b_repr) cd_repr (ja_cons (je_var 12 (f := fun _ => v12)) ja_nil))) (jw_or1 (jt_cmp od_ne (je_blt (h.b_repr) cd_repr (ja_cons (je_call (ce_is_free_3 h) (Nat.le_of_ble_eq_true rfl) (ja_cons (je_var 5 (f := fun _ => v4)) (ja_cons (je_var 11 (f := fun _ => v11)) (ja_cons (je_blt (h.b_list) cd_list (ja_cons (je_var 8 (f := fun _ => v7)) ja_nil)) ja_nil)))) ja_nil)) (je_blt (h.b_repr) cd_repr (ja_cons (je_cmp od_is (je_var 12 (f := fun _ => v12)) je_non) ja_nil)))))) (jb_ret je_bl (fun _ => SlotsLe.nil _) (fun _ => Nat.le_of_ble_eq_true rfl)) (jb_nil (fun _ => ()) (fun _ => (SlotsLe.cons_same (SlotsLe.cons_same (SlotsLe.cons_same (SlotsLe.cons_same (SlotsLe.cons_same (SlotsLe.cons_same (SlotsLe.cons_same (SlotsLe.cons_same (SlotsLe.cons_same (SlotsLe.cons_same (SlotsLe.cons_same (SlotsLe.cons_same (SlotsLe.cons_same (SlotsLe.cons_same (SlotsLe.cons_none (SlotsLe.cons_none (SlotsLe.cons_none (SlotsLe.cons_none (SlotsLe.cons_none (SlotsLe.nil _))))))))))))))))))))) (fun _ => Nat.le_of_ble_eq_true rfl)) (fun a16 => (jb_if (fun (a17 : List D) dl => [some (.val (.scr ns)), some (.deal l1 l2 dl.1 dl.2), some (.val v1), some (.val v2), some (.val v3), some (.val v4), some (.val v5), some (.val v6), some (.val v7), some (.val v8), some (.own a17), some (.val v11), some (.val v12), some (.val v13), none, none, none, none, none]) (jt_cmp od_is (je_var 12 (f := fun _ => v12)) je_non) (jb_append 10 (f := fun _ => a10) (je_var 11 (f := fun _ => v11)) (fun w18 => (jb_nil (fun _ => w18) (fun _ => (SlotsLe.cons_same (SlotsLe.cons_same (SlotsLe.cons_same (SlotsLe.cons_same (SlotsLe.cons_same (SlotsLe.cons_same (SlotsLe.cons_same (SlotsLe.cons_same (SlotsLe.cons_same (SlotsLe.cons_same (SlotsLe.cons_same (SlotsLe.cons_same (SlotsLe.cons_same (SlotsLe.cons_same (SlotsLe.cons_none (SlotsLe.cons_none (SlotsLe.cons_none (SlotsLe.cons_none (SlotsLe.cons_none (SlotsLe.nil _))))))))))))))))))))) (fun _ => Nat.le_of_ble_eq_true rfl)))) (jb_nil (fun _ => a10) (fun _ => (SlotsLe.cons_same (SlotsLe.cons_same (SlotsLe.cons_same (SlotsLe.cons_same (SlotsLe.cons_same (SlotsLe.cons_same (SlotsLe.cons_same (SlotsLe.cons_same (SlotsLe.cons_same (SlotsLe.cons_same (SlotsLe.cons_same (SlotsLe.cons_same (SlotsLe.cons_same (SlotsLe.cons_same (SlotsLe.cons_none (SlotsLe.cons_none (SlotsLe.cons_none (SlotsLe.cons_none (SlotsLe.cons_none (SlotsLe.nil _))))))))))))))))))))) (fun _ => Nat.le_of_ble_eq_true rfl)) (fun a17 => (jb_nil (fun _ => a17) (fun _ => (SlotsLe.cons_same (SlotsLe.cons_same (SlotsLe.cons_same (SlotsLe.cons_same (SlotsLe.cons_same (SlotsLe.cons_same (SlotsLe.cons_same (SlotsLe.cons_same (SlotsLe.cons_same (SlotsLe.cons_same (SlotsLe.cons_same (SlotsLe.cons_none (SlotsLe.cons_none (SlotsLe.cons_none (SlotsLe.cons_none (SlotsLe.cons_none (SlotsLe.cons_none (SlotsLe.cons_none (SlotsLe.cons_none (SlotsLe.nil _))))))))))))))))))))) (fun _ => Nat.le_of_ble_eq_true rfl))))))))))))) (fun a10 => (jb_freeze 10 (f := fun _ => a10) (jb_if (fun (a19 : Unit) dl => [some (.val (.scr ns)), some (.deal l1 l2 dl.1 dl.2), some (.val v1), some (.val v2), some (.val v3), some (.val v4), some (.val v5), some (.val v6), some (.val v7), some (.val v8), some (.val (.lst a10)), none, none, none, none, none, none, none, none]) (jt_cmp od_ne (je_blt (h.b_repr) cd_repr (ja_cons (je_callKw0 (ce_free_commands_0_row_machine h) (Nat.le_of_ble_eq_true rfl) (jkw_cons (je_blt (h.b_list) cd_list (ja_cons (je_var 7 (f := fun _ => v6)) ja_nil)) (jkw_cons (je_var 5 (f := fun _ => v4)) jkw_nil))) ja_nil)) (je_blt (h.b_repr) cd_repr (ja_cons (je_blt (h.b_tuple) cd_tuple (ja_cons (je_var 10 (f := fun _ => (.lst a10))) ja_nil)) ja_nil))) (jb_ret je_bl (fun _ => SlotsLe.nil _) (fun _ => Nat.le_of_ble_eq_true rfl)) (jb_nil (fun _ => ()) (fun _ => (SlotsLe.cons_same (SlotsLe.cons_same (SlotsLe.cons_same (SlotsLe.cons_same (SlotsLe.cons_same (SlotsLe.cons_same (SlotsLe.cons_same (SlotsLe.cons_same (SlotsLe.cons_same (SlotsLe.cons_same (SlotsLe.cons_same (SlotsLe.cons_none (SlotsLe.cons_none (SlotsLe.cons_none (SlotsLe.cons_none (SlotsLe.cons_none (SlotsLe.cons_none (SlotsLe.cons_none (SlotsLe.cons_none (SlotsLe.nil _))))))))))))))))))))) (fun _ => Nat.le_of_ble_eq_true rfl)) (fun a19 => (jb_setL 14 (jel_list (h.b_list) (je_var 7 (f := fun _ => v6))) (fun w20 => (jb_for 15 (fun (a21 : List D) dl => [some (.val (.scr ns)), some (.deal l1 l2 dl.1 dl.2), some (.val v1), some (.val v2), some (.val v3), some (.val v4), some (.val v5), some (.val v6), some (.val v7), some (.val v8), some (.val (.lst a10)), none, none, none, some (.own a21), none, none, none, none]) (fun _ => w20) (ji_range1 (h.b_range) (je_callL 1 (ce__law_any_1 h) (Nat.le_of_ble_eq_true rfl) (ja_cons je_int ja_nil))) (fun _ => (SlotsLe.cons_same (SlotsLe.cons_same (SlotsLe.cons_same (SlotsLe.cons_same (SlotsLe.cons_same (SlotsLe.cons_same (SlotsLe.cons_same (SlotsLe.cons_same (SlotsLe.cons_same (SlotsLe.cons_same (SlotsLe.cons_same (SlotsLe.cons_none (SlotsLe.cons_none (SlotsLe.cons_none (SlotsLe.cons_same (SlotsLe.cons_none (SlotsLe.cons_none (SlotsLe.cons_none (SlotsLe.cons_none (SlotsLe.nil _))))))))))))))))))))) (fun _ => Nat.le_of_ble_eq_true rfl) (fun v22 a21 => (jb_insert 14 (f := fun _ => a21) (je_callL 1 (ce__law_any_1 h) (Nat.le_of_ble_eq_true rfl) (ja_cons (je_borrow fun dl _ _ => (je_op od_add (je_blt (h.b_len) cd_len (ja_cons (je_var 14 (f := fun _ => (.lst a21))) ja_nil)) je_int)) ja_nil)) (je_callL 1 (ce__law_any_1 h) (Nat.le_of_ble_eq_true rfl) (ja_cons (je_var 2 (f := fun _ => v1)) ja_nil)) (fun w23 => (jb_nil (fun _ => w23) (fun _ => (SlotsLe.cons_same (SlotsLe.cons_same (SlotsLe.cons_same (SlotsLe.cons_same (SlotsLe.cons_same (SlotsLe.cons_same (SlotsLe.cons_same (SlotsLe.cons_same (SlotsLe.cons_same (SlotsLe.cons_same (SlotsLe.cons_same (SlotsLe.cons_none (SlotsLe.cons_none (SlotsLe.cons_none (SlotsLe.cons_same (SlotsLe.cons_none (SlotsLe.cons_none (SlotsLe.cons_none (SlotsLe.cons_none (SlotsLe.nil _))))))))))))))))))))) (fun _ => Nat.le_of_ble_eq_true rfl))))) (fun a21 => (jb_freeze 14 (f := fun _ => a21) (jb_set 16 (je_call (ce_free_commands_2 h) (Nat.le_of_ble_eq_true rfl) (ja_cons (je_var 5 (f := fun _ => v4)) (ja_cons (je_var 14 (f := fun _ => (.lst a21))) ja_nil))) (fun v24 => (jb_set 17 (je_call (ce__law_effect_2 h) (Nat.le_of_ble_eq_true rfl) (ja_cons (je_var 3 (f := fun _ => v2)) (ja_cons (je_var 14 (f := fun _ => (.lst a21))) ja_nil))) (fun v25 => (jb_if (fun (a26 : Unit) dl => [some (.val (.scr ns)), some (.deal l1 l2 dl.1 dl.2), some (.val v1), some (.val v2), some (.val v3), some (.val v4), some (.val v5), some (.val v6), some (.val v7), some (.val v8), some (.val (.lst a10)), none, none, none, some (.val (.lst a21)), none, some (.val v24), some (.val v25), none]) (jt_cmp od_ne (je_blt (h.b_repr) cd_repr (ja_cons (je_var 16 (f := fun _ => v24)) ja_nil)) (je_blt (h.b_repr) cd_repr (ja_cons (je_blt (h.b_tuple) cd_tuple (ja_cons (je_ofL (jel_lc1 11 [("_law_command", 11)] (ji_range1 (h.b_range) (je_var 2 (f := fun _ => v1))) (fun _ => jg_name 11) (fun _ v27 => (jts_one (jt_cmp od_is (je_call (ce__law_clash_3 h) (Nat.le_of_ble_eq_true rfl) (ja_cons (je_var 3 (f := fun _ => v2)) (ja_cons (je_var 11 (f := fun _ => v27)) (ja_cons (je_var 17 (f := fun _ => v25)) ja_nil)))) je_non))) (fun _ v27 => (je_var 11 (f := fun _ => v27))))) ja_nil)) ja_nil))) (jb_ret je_bl (fun _ => SlotsLe.nil _) (fun _ => Nat.le_of_ble_eq_true rfl)) (jb_nil (fun _ => ()) (fun _ => (SlotsLe.cons_same (SlotsLe.cons_same (SlotsLe.cons_same (SlotsLe.cons_same (SlotsLe.cons_same (SlotsLe.cons_same (SlotsLe.cons_same (SlotsLe.cons_same (SlotsLe.cons_same (SlotsLe.cons_same (SlotsLe.cons_same (SlotsLe.cons_none (SlotsLe.cons_none (SlotsLe.cons_none (SlotsLe.cons_same (SlotsLe.cons_none (SlotsLe.cons_same (SlotsLe.cons_same (SlotsLe.cons_none (SlotsLe.nil _))))))))))))))))))))) (fun _ => Nat.le_of_ble_eq_true rfl)) (fun a26 => (jb_if (fun (a28 : Unit) dl => [some (.val (.scr ns)), some (.deal l1 l2 dl.1 dl.2), some (.val v1), some (.val v2), some (.val v3), some (.val v4), some (.val v5), some (.val v6), some (.val v7), some (.val v8), some (.val (.lst a10)), none, none, none, some (.val (.lst a21)), none, some (.val v24), some (.val v25), none]) (jt_not (jt_val (je_call (ce__law_blind_2 h) (Nat.le_of_ble_eq_true rfl) (ja_cons (je_var 3 (f := fun _ => v2)) (ja_cons (je_var 6 (f := fun _ => v5)) ja_nil))))) (jb_set 18 (je_blt (h.b_list) cd_list (ja_cons (je_callL 1 (ce__law_row_2 h) (Nat.le_of_ble_eq_true rfl) (ja_cons (je_var 2 (f := fun _ => v1)) (ja_cons (je_op od_add je_int (je_callL 1 (ce__law_any_1 h) (Nat.le_of_ble_eq_true rfl) (ja_cons je_int ja_nil))) ja_nil))) ja_nil)) (fun v29 => (jb_for 11 (fun (a30 : Unit) dl => [some (.val (.scr ns)), some (.deal l1 l2 dl.1 dl.2), some (.val v1), some (.val v2), some (.val v3), some (.val v4), some (.val v5), some (.val v6), some (.val v7), some (.val v8), some (.val (.lst a10)), none, none, none, some (.val (.lst a21)), none, some (.val v24), some (.val v25), some (.val v29)]) (fun _ => ()) (ji_seq (je_var 10 (f := fun _ => (.lst a10)))) (fun _ => (SlotsLe.cons_same (SlotsLe.cons_same (SlotsLe.cons_same (SlotsLe.cons_same (SlotsLe.cons_same (SlotsLe.cons_same (SlotsLe.cons_same (SlotsLe.cons_same (SlotsLe.cons_same (SlotsLe.cons_same (SlotsLe.cons_same (SlotsLe.cons_none (SlotsLe.cons_none (SlotsLe.cons_none (SlotsLe.cons_same (SlotsLe.cons_none (SlotsLe.cons_same (SlotsLe.cons_same (SlotsLe.cons_same (SlotsLe.nil _))))))))))))))))))))) (fun _ => Nat.le_of_ble_eq_true rfl) (fun v31 a30 => (jb_if (fun (a32 : Unit) dl => [some (.val (.scr ns)), some (.deal l1 l2 dl.1 dl.2), some (.val v1), some (.val v2), some (.val v3), some (.val v4), some (.val v5), some (.val v6), some (.val v7), some (.val v8), some (.val (.lst a10)), some (.val v31), none, none, some (.val (.lst a21)), none, some (.val v24), some (.val v25), some (.val v29)]) (jt_cmp od_notIn (je_var 11 (f := fun _ => v31)) (je_var 16 (f := fun _ => v24))) (jb_ret je_bl (fun _ => SlotsLe.nil _) (fun _ => Nat.le_of_ble_eq_true rfl)) (jb_nil (fun _ => ()) (fun _ => (SlotsLe.cons_same (SlotsLe.cons_same (SlotsLe.cons_same (SlotsLe.cons_same (SlotsLe.cons_same (SlotsLe.cons_same (SlotsLe.cons_same (SlotsLe.cons_same (SlotsLe.cons_same (SlotsLe.cons_same (SlotsLe.cons_same (SlotsLe.cons_same (SlotsLe.cons_none (SlotsLe.cons_none (SlotsLe.cons_same (SlotsLe.cons_none (SlotsLe.cons_same (SlotsLe.cons_same (SlotsLe.cons_same (SlotsLe.nil _))))))))))))))))))))) (fun _ => Nat.le_of_ble_eq_true rfl)) (fun a32 => (jb_if (fun (a33 : Unit) dl => [some (.val (.scr ns)), some (.deal l1 l2 dl.1 dl.2), some (.val v1), some (.val v2), some (.val v3), some (.val v4), some (.val v5), some (.val v6), some (.val v7), some (.val v8), some (.val (.lst a10)), some (.val v31), none, none, some (.val (.lst a21)), none, some (.val v24), some (.val v25), some (.val v29)]) (jt_cmp od_ne (je_call (ce__law_effect_2 h) (Nat.le_of_ble_eq_true rfl) (ja_cons (je_var 3 (f := fun _ => v2)) (ja_cons (je_op od_add (je_op od_add (je_var 18 (f := fun _ => v29)) (je_lst (ja_cons (je_var 11 (f := fun _ => v31)) ja_nil))) (je_var 14 (f := fun _ => (.lst a21)))) ja_nil))) (je_call (ce__law_effect_2 h) (Nat.le_of_ble_eq_true rfl) (ja_cons (je_var 3 (f := fun _ => v2)) (ja_cons (je_op od_add (je_op od_add (je_lst (ja_cons (je_var 11 (f := fun _ => v31)) ja_nil)) (je_var 18 (f := fun _ => v29))) (je_var 14 (f := fun _ => (.lst a21)))) ja_nil)))) (jb_ret je_bl (fun _ => SlotsLe.nil _) (fun _ => Nat.le_of_ble_eq_true rfl)) (jb_nil (fun _ => ()) (fun _ => (SlotsLe.cons_same (SlotsLe.cons_same (SlotsLe.cons_same (SlotsLe.cons_same (SlotsLe.cons_same (SlotsLe.cons_same (SlotsLe.cons_same (SlotsLe.cons_same (SlotsLe.cons_same (SlotsLe.cons_same (SlotsLe.cons_same (SlotsLe.cons_same (SlotsLe.cons_none (SlotsLe.cons_none (SlotsLe.cons_same (SlotsLe.cons_none (SlotsLe.cons_same (SlotsLe.cons_same (SlotsLe.cons_same (SlotsLe.nil _))))))))))))))))))))) (fun _ => Nat.le_of_ble_eq_true rfl)) (fun a33 => (jb_nil (fun _ => ()) (fun _ => (SlotsLe.cons_same (SlotsLe.cons_same (SlotsLe.cons_same (SlotsLe.cons_same (SlotsLe.cons_same (SlotsLe.cons_same (SlotsLe.cons_same (SlotsLe.cons_same (SlotsLe.cons_same (SlotsLe.cons_same (SlotsLe.cons_same (SlotsLe.cons_none (SlotsLe.cons_none (SlotsLe.cons_none (SlotsLe.cons_same (SlotsLe.cons_none (SlotsLe.cons_same (SlotsLe.cons_same (SlotsLe.cons_same (SlotsLe.nil _))))))))))))))))))))) (fun _ => Nat.le_of_ble_eq_true rfl))))))) (fun a30 => (jb_nil (fun _ => ()) (fun _ => (SlotsLe.cons_same (SlotsLe.cons_same (SlotsLe.cons_same (SlotsLe.cons_same (SlotsLe.cons_same (SlotsLe.cons_same (SlotsLe.cons_same (SlotsLe.cons_same (SlotsLe.cons_same (SlotsLe.cons_same (SlotsLe.cons_same (SlotsLe.cons_none (SlotsLe.cons_none (SlotsLe.cons_none (SlotsLe.cons_same (SlotsLe.cons_none (SlotsLe.cons_same (SlotsLe.cons_same (SlotsLe.cons_none (SlotsLe.nil _))))))))))))))))))))) (fun _ => Nat.le_of_ble_eq_true rfl)))))) (jb_nil (fun _ => ()) (fun _ => (SlotsLe.cons_same (SlotsLe.cons_same (SlotsLe.cons_same (SlotsLe.cons_same (SlotsLe.cons_same (SlotsLe.cons_same (SlotsLe.cons_same (SlotsLe.cons_same (SlotsLe.cons_same (SlotsLe.cons_same (SlotsLe.cons_same (SlotsLe.cons_none (SlotsLe.cons_none (SlotsLe.cons_none (SlotsLe.cons_same (SlotsLe.cons_none (SlotsLe.cons_same (SlotsLe.cons_same (SlotsLe.cons_none (SlotsLe.nil _))))))))))))))))))))) (fun _ => Nat.le_of_ble_eq_true rfl)) (fun a28 => (jb_ret (je_callL 1 (ce__law_errors_3 h) (Nat.le_of_ble_eq_true rfl) (ja_cons (je_var 5 (f := fun _ => v4)) (ja_cons (je_var 2 (f := fun _ => v1)) (ja_cons (je_var 7 (f := fun _ => v6)) ja_nil)))) (fun _ => SlotsLe.nil _) (fun _ => Nat.le_of_ble_eq_true rfl))))))))))))))))))))))))))))))⟩
noncomputable def m_law : List Int → R (Fl Unit Unit × Unit) := pk_law.1
end Gk21
set_option linter.all false
namespace Gk21
open PySem Pv L2
theorem any_ok (b : Int) (hb : 0 < b) (hb' : b < 1073741824) (dl : Deal) (hl : dl.1.length ≤ 63) : ∃ v dl', m__law_any [.int b] dl = .ok (.int v, dl') ∧ 0 ≤ v ∧ v < b ∧ dl'.1.length ≤ 63 := by
  obtain ⟨xs, i⟩ := dl
  simp only [m__law_any, pk__law_any, ar1, R.bind_ok, ix_0, ix_1, ne_nil, List.length_nil, Nat.zero_le, if_true, asBool_bl, opNeg_int, ix_last, d1_one, bInt_int, noLst_int]
  refine while_pop_run (P := fun r => ∃ v dl', Pv.finish r = .ok (.int v, dl') ∧ 0 ≤ v ∧ v < b ∧ dl'.1.length ≤ 63) xs i (by simp at hl; omega) (fun a xs i => ?_) (fun a xs i x hx => ?_) (fun ys hy => ?_)
  · rcases List.eq_nil_or_concat xs with rfl | ⟨zs, z, rfl⟩
    · simp
    · by_cases c : z = 0 <;> simp [eq_int, c]
  · simp [hx]
  · rcases List.eq_nil_or_concat ys with rfl | ⟨zs, z, rfl⟩
    · refine ⟨(i * 40693 + 71) % 2147483647 / 64 % b, ([], (i * 40693 + 71) % 2147483647), ?_, Int.emod_nonneg _ (by omega), Int.emod_lt_of_pos _ hb, by simp⟩
      simp [mul_int _ 40693 (.inr (by decide)), mod_int, div_int, hb, noLst_int]
    · have hz : zs.length < 1000000 := by simp at hy hl; omega
      refine ⟨z % b, (zs ++ [z / b], i), ?_, Int.emod_nonneg _ (by omega), Int.emod_lt_of_pos _ hb, ?_⟩
      · simp [mod_int, div_int, hb, hb', noLst_int, hz]
      · simp at hy hl ⊢; omega
theorem of_ok (xs : List D) (hx : xs ≠ []) (hx' : xs.length < 1073741824) (dl : Deal) (hl : dl.1.length ≤ 63) : ∃ d dl', d ∈ xs ∧ m__law_of [.lst xs] dl = .ok (d, dl') ∧ dl'.1.length ≤ 63 := by
  have h0 := List.length_pos_iff.mpr hx
  obtain ⟨v, dl', e, v0, v1, l⟩ := any_ok xs.length (by omega) (by omega) dl hl
  obtain ⟨n, rfl⟩ := Int.eq_ofNat_of_zero_le v0
  have hn : n < xs.length := by omega
  refine ⟨xs[n], dl', List.getElem_mem _, ?_, l⟩
  simp [m__law_of, pk__law_of, ar1, e, ix_nat _ _ hn]
theorem of_sq (b : Bool) (xs : List D) (hx : xs ≠ []) (hx' : xs.length < 1073741824) (dl : Deal) (hl : dl.1.length ≤ 63) : ∃ d dl', d ∈ xs ∧ m__law_of [sqD b xs] dl = .ok (d, dl') ∧ dl'.1.length ≤ 63 := by
  cases b with
  | true => exact of_ok xs hx hx' dl hl
  | false =>
    have h0 := List.length_pos_iff.mpr hx
    obtain ⟨v, dl', e, v0, v1, l⟩ := any_ok xs.length (by omega) (by omega) dl hl
    obtain ⟨n, rfl⟩ := Int.eq_ofNat_of_zero_le v0
    have hn : n < xs.length := by omega
    refine ⟨xs[n], dl', List.getElem_mem _, ?_, l⟩
    simp [m__law_of, pk__law_of, ar1, sqD, e, ix_natT _ _ hn]
theorem mixed_ok (w : D) (xs : List D) (hw : asItems w = .ok xs) (hx : xs.length < 1000) (hc : ∀ d ∈ xs, Cmp d) (dl : Deal) (hl : dl.1.length ≤ 63) : ∃ ys dl', ys.Perm xs ∧ m__law_mixed [w] dl = .ok (.fre ys, dl') ∧ dl'.1.length ≤ 63 := by
  simp only [m__law_mixed, pk__law_mixed, ar1, R.bind_ok, hw]
  refine while_run (P := fun r => ∃ ys dl', ys.Perm xs ∧ Pv.finish r = .ok (.fre ys, dl') ∧ dl'.1.length ≤ 63) (fun (a : List D × List D) (s : Deal) => (a.2 ++ a.1).Perm xs ∧ s.1.length ≤ 63) (fun a _ => a.1.length) (fun a s ⟨hp, hs⟩ => ?_) 1000 _ _ ⟨by simp, hl⟩ hx
  obtain ⟨l, fnd⟩ := a
  have hm : ∀ d ∈ l, Cmp d := fun d hd => hc d (hp.subset (List.mem_append_right _ hd))
  by_cases c : l = []
  · subst c
    refine .inl ⟨by simp [ne_nilC], fnd, s, by simpa using hp, by simp, hs⟩
  · have h0 := List.length_pos_iff.mpr c
    have hlen : fnd.length + l.length = xs.length := by simpa using hp.length_eq
    obtain ⟨v, dl', e, v0, v1, l1⟩ := any_ok l.length (by omega) (by omega) s hs
    obtain ⟨n, rfl⟩ := Int.eq_ofNat_of_zero_le v0
    have hn : n < l.length := by omega
    have q1 : n ≤ 1000000 := by omega
    have q2 : fnd.length < 1000000 := by omega
    have q3 : (-1000000 : Int) ≤ n := by omega
    have q4 : (n : Int) ≤ 1000000 := by omega
    refine .inr ⟨by simp [ne_nilC hm, c], (l.eraseIdx n, fnd ++ [l[n]]), dl', ?_, ⟨?_, l1⟩, ?_⟩
    · simp [noLst_int, e, q1, q2, q3, q4, ixN_nat _ _ hn, hn]
    · refine List.Perm.trans ?_ hp
      simp only [List.append_assoc, List.singleton_append]
      exact List.Perm.append_left _ (perm_pick l n hn)
    · simp [List.length_eraseIdx, hn]
      omega
theorem draw_ok (ns : List Int) (hn : ns.length ≤ 63) : ∃ dl : Deal, m__law_draw [.scr ns, .int 21] = .ok (.lst [.lst (dl.1.map .int), .int dl.2]) ∧ dl.1.length ≤ 63 := by
  simp only [m__law_draw, pk__law_draw, ar2, R.bind_ok, asInt_int, opCut_scr, asItems_lst, asItems_tup]
  have hc : (cutL ns none (some 48)).length ≤ 63 := Nat.le_trans (cutL_le _ _ _) hn
  generalize cutL ns none (some 48) = xs at hc
  rw [show chk (decide ((xs.map D.int).length ≤ 1000000)) (xs.map D.int) = .ok (xs.map D.int) by simp [chk]; omega, R.bind_ok]
  rw [lcL_map (g := fun d => match d with | .int i => .int (if i < 0 then -i else i) | d => d) (fun d hd s => by
    obtain ⟨i, _, rfl⟩ := List.mem_map.mp hd
    simp [lcT, bAbs])]
  rw [show (xs.map D.int).map (fun d => match d with | .int i => .int (if i < 0 then -i else i) | d => d) = (xs.map fun i => if i < 0 then -i else i).map D.int by simp]
  have hc' : (xs.map fun i => if i < 0 then -i else i).length ≤ 63 := by simpa using hc
  generalize (xs.map fun i => if i < 0 then -i else i) = ys at hc'
  simp only [R.bind_ok, mul_int _ 21 (.inr (by decide)), opAdd_int]
  refine forL_run (P := fun r => ∃ dl : Deal, finish1 r = .ok (.lst [.lst (dl.1.map .int), .int dl.2]) ∧ dl.1.length ≤ 63) (fun _ (a : D) (_ : Unit) => ∃ i, a = .int i) ⟨_, rfl⟩ (fun j hj a s ⟨i, hi⟩ => ?_) (fun a s ⟨i, hi⟩ => ?_)
  · subst hi
    simp only [List.getElem_map]
    exact ⟨_, s, by simp [mul_int _ 48271 (.inr (by decide)), mod_int]; rfl, _, rfl⟩
  · subst hi
    rw [show chk (decide ((ys.map D.int).length ≤ 1000000)) (ys.map D.int) = .ok (ys.map D.int) by simp [chk]; omega, R.bind_ok]
    rw [lcL_fm (g := keepI fun i => decide (1000000000000000000 ≤ i)) (fun d hd s => by
      obtain ⟨i, _, rfl⟩ := List.mem_map.mp hd
      by_cases c : 1000000000000000000 ≤ i <;> simp [lcT, pow_18, c])]
    rw [ints_fm ys fun i => decide (1000000000000000000 ≤ i)]
    refine ⟨((ys.filter fun i => decide (1000000000000000000 ≤ i)).reverse, i), by simp, ?_⟩
    have := List.length_filter_le (fun i => decide (1000000000000000000 ≤ i)) ys
    simp at this ⊢
    omega
def pD (p : Int × Int) : D := .tup [.int p.1, .int p.2]
theorem rgD_len (m : Int) : (rgD 0 m).length = m.toNat := by simp [rgD]
/-- a whole number in [0, n) -/
def In (n : Int) (d : D) : Prop := ∃ i : Int, d = .int i ∧ 0 ≤ i ∧ i < n
def Col (n : Int) (d : D) : Prop := ∃ xs : List D, d = .lst xs ∧ xs.length = n.toNat ∧ ∀ x ∈ xs, In n x
theorem rgD_mem {m : Int} {d : D} (h : d ∈ rgD 0 m) : In m d := by
  simp only [rgD, List.mem_map, List.mem_range] at h
  obtain ⟨i, hi, rfl⟩ := h
  exact ⟨_, rfl, by omega, by omega⟩
theorem lc_run {τ ω : Type} {P : R ω → Prop} {k : List D × τ → R ω} {g : D → τ → R (D × τ)} {m n : Int} {s : τ} (Inv : τ → Prop) (hi : Inv s)
    (h : ∀ i : Int, 0 ≤ i → i < m → ∀ s, Inv s → ∃ j s', g (.int i) s = .ok (.int j, s') ∧ 0 ≤ j ∧ j < n ∧ Inv s') (hk : ∀ rs s, rs.length = m.toNat → (∀ r ∈ rs, In n r) → Inv s → P (k (rs, s))) :
    P ((lcL (lcT partName (ar1 (fun _ => R.bad) fun _ s => R.ok (true, s)) (ar1 (fun _ => R.bad) g)) (rgD 0 m) s).bind k) := by
  obtain ⟨rs, s', e, l, q, i'⟩ := lcL_inv (f := lcT partName (ar1 (fun _ => R.bad) fun _ s => R.ok (true, s)) (ar1 (fun _ => R.bad) g)) (ds := rgD 0 m) (s := s) (Inv := Inv) (Q := In n) hi (fun d hd' s' e => by
    obtain ⟨i, rfl, i0, i1⟩ := rgD_mem hd'
    obtain ⟨j, s2, e, j0, j1, i2⟩ := h i i0 i1 s' e
    exact ⟨.int j, s2, by simp [lcT, e], ⟨j, rfl, j0, j1⟩, i2⟩)
  rw [e]
  exact hk rs s' (by rw [l, rgD_len]) q i'
theorem rg_chk (m : Int) (h : m < 1000) : chk (decide ((rgD 0 m).length ≤ 1000000)) (rgD 0 m) = .ok (rgD 0 m) := by
  simp [chk, rgD_len]; omega
theorem column_ok (f : Int) (m : Int) (hm : 0 < m) (hm' : m < 900) (dl : Deal) (hl : dl.1.length ≤ 63) :
    ∃ (d : D) (dl' : Deal), m__law_column [.int f, .int m] dl = .ok (d, dl') ∧ Col m (unfre d) ∧ dl'.1.length ≤ 63 := by
  obtain ⟨v, s, e, v0, v1, l⟩ := any_ok m hm (by omega) dl hl
  have h1 : rgSm m = true := by simp [rgSm]; omega
  have h2 : rgOk 0 m = true := by simp [rgOk]; omega
  simp only [m__law_column, pk__law_column, ar2, R.bind_ok, callL_one, asInt_int, e, unfre_int, eq_int, asBool_bl, h1, h2, chk_true, rg_chk m (by omega), decide_eq_true_eq]
  have fin : ∀ (rs : List D) (s : Deal), rs.length = m.toNat → (∀ r ∈ rs, In m r) → s.1.length ≤ 63 → ∃ (d : D) (dl' : Deal), (R.ok (D.lst rs, s) : R (D × Deal)) = .ok (d, dl') ∧ Col m (unfre d) ∧ dl'.1.length ≤ 63 := fun rs s l1 q l2 => ⟨_, s, rfl, ⟨rs, rfl, l1, q⟩, l2⟩
  by_cases c0 : f = 0
  · simp only [if_pos c0, bind_as, flb_bind, finish_bind]
    exact lc_run (P := fun r => ∃ (d : D) (dl' : Deal), r = .ok (d, dl') ∧ Col m (unfre d) ∧ dl'.1.length ≤ 63) (fun s => s.1.length ≤ 63) l (fun i i0 i1 s hs => ⟨(i + v) % m, s, by simp [mod_int, hm], Int.emod_nonneg _ (by omega), Int.emod_lt_of_pos _ hm, hs⟩) fin
  simp only [if_neg c0, flb_nx]
  by_cases c1 : f = 1
  · rw [if_pos c1]
    refine ⟨.lst (List.replicate m.toNat (.int v)), s, ?_, ⟨_, rfl, by simp, fun r hr => ⟨v, (List.mem_replicate.mp hr).2, v0, v1⟩⟩, l⟩
    have q1 : m < 1000000 := by omega
    have q2 : m.toNat ≤ 1000000 := by omega
    have q3 : 0 ≤ m := by omega
    simp [opMul, chk, q1, q2, q3]
  simp only [if_neg c1, flb_nx]
  by_cases c2 : f = 2
  · simp only [if_pos c2, bind_as, flb_bind, finish_bind]
    exact lc_run (P := fun r => ∃ (d : D) (dl' : Deal), r = .ok (d, dl') ∧ Col m (unfre d) ∧ dl'.1.length ≤ 63) (fun s => s.1.length ≤ 63) l (fun i i0 i1 s hs => ⟨if i = 0 then v else i, s, by by_cases c : i = 0 <;> simp [eq_int, c], by split <;> omega, by split <;> omega, hs⟩) fin
  simp only [if_neg c2, flb_nx]
  by_cases c3 : f = 3
  · simp only [if_pos c3, bind_as, flb_bind, finish_bind]
    exact lc_run (P := fun r => ∃ (d : D) (dl' : Deal), r = .ok (d, dl') ∧ Col m (unfre d) ∧ dl'.1.length ≤ 63) (fun s => s.1.length ≤ 63) l (fun i i0 i1 s hs => ⟨if (if i + v - 1 < m - 1 then i + v - 1 else m - 1) > 0 then if i + v - 1 < m - 1 then i + v - 1 else m - 1 else 0, s, by simp only [opSub_int, opAdd_int, R.bind_ok, bMin2_int, bMax2_int], by omega, by omega, hs⟩) fin
  simp only [if_neg c3, flb_nx]
  by_cases c4 : f = 4
  · obtain ⟨ys, dl', hp, e, l'⟩ := mixed_ok (.lst (rgD 0 m)) (rgD 0 m) rfl (by rw [rgD_len]; omega) (fun d hd => by
      obtain ⟨i, rfl, _, _⟩ := rgD_mem hd
      exact ⟨.int i, rfl, by simp [PyData.canLay0], by simp [PyData.depth]⟩) s l
    refine ⟨.lst ys, dl', by simp [c4, e, unfre], ⟨ys, rfl, by rw [hp.length_eq, rgD_len], fun r hr => rgD_mem (hp.subset hr)⟩, l'⟩
  simp only [if_neg c4, flb_nx]
  by_cases c5 : f = 5
  · simp only [if_pos c5, bind_as, flb_bind, finish_bind]
    exact lc_run (P := fun r => ∃ (d : D) (dl' : Deal), r = .ok (d, dl') ∧ Col m (unfre d) ∧ dl'.1.length ≤ 63) (fun s => s.1.length ≤ 63) l (fun i i0 i1 s hs => ⟨if v > i then v else i, s, by simp only [R.bind_ok, bMax2_int], by split <;> omega, by split <;> omega, hs⟩) fin
  simp only [if_neg c5, flb_nx]
  by_cases c6 : f = 6
  · simp only [if_pos c6, bind_as, flb_bind, finish_bind, div_int m 2 (by decide) (by decide), R.bind_ok, d1_one, bInt_int, bMax2_int]
    have hh : 0 < (if m / 2 > 1 then m / 2 else 1) ∧ (if m / 2 > 1 then m / 2 else 1) ≤ m := by split <;> omega
    generalize (if m / 2 > 1 then m / 2 else 1) = w at hh
    refine lc_run (P := fun r => ∃ (d : D) (dl' : Deal), r = .ok (d, dl') ∧ Col m (unfre d) ∧ dl'.1.length ≤ 63) (fun s => s.1.length ≤ 63) l (fun i i0 i1 s hs => ?_) fin
    have r0 := Int.emod_nonneg (i + v) (b := w) (by omega)
    have r1 := Int.emod_lt_of_pos (i + v) hh.1
    refine ⟨(i + v) % w + (if w ≤ i ∧ 2 * w ≤ m then w else 0), s, ?_, by split <;> omega, by split <;> omega, hs⟩
    by_cases k1 : w ≤ i <;> by_cases k2 : 2 * w ≤ m <;> simp [mod_int, hh.1, k1, k2, mul_int 2 w (.inl (by decide)), opLe]
  simp only [if_neg c6, flb_nx, bind_as, flb_bind, finish_bind]
  exact lc_run (P := fun r => ∃ (d : D) (dl' : Deal), r = .ok (d, dl') ∧ Col m (unfre d) ∧ dl'.1.length ≤ 63) (fun s => s.1.length ≤ 63) l (fun i i0 i1 s hs => by
    obtain ⟨v, s', e, v0, v1, l⟩ := any_ok m hm (by omega) s hs
    exact ⟨v, s', by simp [e], v0, v1, l⟩) fin
def Row (n : Int) (k : Nat) (r : D) : Prop := ∃ xs : List D, r = .lst xs ∧ xs.length = k ∧ ∀ x ∈ xs, In n x
theorem columns_ok (n : Int) (h0 : 0 < n) (h1 : n < 900) (cs : List D) (hc : cs ≠ []) (hl : cs.length ≤ 3) (h : ∀ c ∈ cs, Col n c) :
    ∃ rows : List D, m__law_columns [.lst cs] = .ok (.lst rows) ∧ rows.length = n.toNat ∧ ∀ r ∈ rows, Row n cs.length r := by
  have hp := List.length_pos_iff.mpr hc
  obtain ⟨xs, e0, l0, _⟩ := h cs[0] (List.getElem_mem _)
  have hk : chk (decide (cs.length ≤ 1000000)) cs = .ok cs := by simp [chk]; omega
  have hr : rgSm xs.length = true := by simp [rgSm]; omega
  simp only [m__law_columns, pk__law_columns, ar1, R.bind_ok, asItems_lst, hk, show opIx (.lst cs) (.int 0) = .ok cs[0] from ix_nat cs 0 hp, e0, d1_one, bLen_lst, asInt_int, hr, chk_true, rg_chk _ (show (xs.length : Int) < 1000 by omega)]
  obtain ⟨rs, s, e, l, q, _⟩ := lcL_inv (ds := rgD 0 xs.length) (s := ()) (Inv := fun _ => True) (Q := Row n cs.length) (f := lcT partName (ar1 (fun x => R.bad) fun v1 s => R.ok (true, s))
                      (ar1 (fun x => R.bad) fun v1 s =>
                        (lcL
                                  (lcT partName (ar1 (fun x => R.bad) fun v1 s => R.ok (true, s))
                                    (ar1 (fun x => R.bad) fun v2 s => (opIx v2 v1).bind fun d => R.ok (d, s)))
                                  cs s).bind
                          fun q => R.ok (D.lst q.fst, q.snd))) trivial (fun d hd s _ => by
    obtain ⟨i, rfl, i0, i1⟩ := rgD_mem hd
    obtain ⟨j, rfl⟩ := Int.eq_ofNat_of_zero_le i0
    obtain ⟨rs, s', e, l, q, _⟩ := lcL_inv (ds := cs) (s := s) (Inv := fun _ => True) (Q := In n) (f := lcT partName (ar1 (fun x => R.bad) fun v1 s => R.ok (true, s))
                                    (ar1 (fun x => R.bad) fun v2 s => (opIx v2 (.int j)).bind fun d => R.ok (d, s))) trivial (fun c hc s _ => by
      obtain ⟨ys, rfl, ly, qy⟩ := h c hc
      have hj : j < ys.length := by omega
      exact ⟨ys[j], s, by simp [lcT, ix_nat ys j hj], qy _ (List.getElem_mem _), trivial⟩)
    exact ⟨.lst rs, s', by simp [lcT, e], ⟨rs, rfl, l, q⟩, trivial⟩)
  refine ⟨rs, by simp [e], by rw [l, rgD_len]; omega, q⟩
/-- a drawn machine: its commands and its table -/
def Mac (N k : Int) (d : D) : Prop := 0 < k ∧ k < 4 ∧ ∃ (n : Int) (rows : List D), 0 < n ∧ n ≤ N ∧ d = .lst rows ∧ rows.length = n.toNat ∧ ∀ r ∈ rows, Row n k.toNat r
theorem machine_ok (N : Int) (hN : 0 < N) (hN' : N < 800) (dl : Deal) (hl : dl.1.length ≤ 63) : ∃ (k : Int) (d : D) (dl' : Deal), m__law_machine [.int N] dl = .ok (.tup [.int k, d], dl') ∧ Mac N k d ∧ dl'.1.length ≤ 63 := by
  simp only [m__law_machine, pk__law_machine, ar1, R.bind_ok, callL_one, asInt_int, unfre_int]
  obtain ⟨f, s1, e1, f0, f1, l1⟩ := any_ok 12 (by decide) (by decide) dl hl
  obtain ⟨kd, s2, hkd, e2, l2⟩ := of_ok [D.int 1, D.int 2, D.int 2, D.int 2, D.int 3] (by simp) (by simp) s1 l1
  obtain ⟨k, rfl, k0, k1⟩ : ∃ k : Int, kd = .int k ∧ 0 < k ∧ k < 4 := by
    simp at hkd
    rcases hkd with rfl | rfl | rfl <;> exact ⟨_, rfl, by decide, by decide⟩
  simp only [e1, R.bind_ok, unfre_int, show ([D.int 1, D.int 2, D.int 2, D.int 2, D.int 3] : List D).length ≤ 1000000 by decide, if_true, callL_one, e2, two_two, eq_int, asBool_bl, opGt_int, decide_eq_true_eq]
  have mk2 : ∀ a b : Int, 0 ≤ a → a < 4 → 0 ≤ b → b < 4 → Row 4 2 (.lst [.int a, .int b]) := fun a b a0 a1 b0 b1 => ⟨_, rfl, rfl, fun x hx => by
    rcases List.mem_cons.mp hx with rfl | hx
    · exact ⟨a, rfl, a0, a1⟩
    · rw [List.mem_singleton.mp hx]; exact ⟨b, rfl, b0, b1⟩⟩
  by_cases c10 : f = 10 ∧ 3 < N
  · obtain ⟨c10, big⟩ := c10
    refine ⟨2, .lst [.lst [.int 0, .int 1], .lst [.int 2, .int 3], .lst [.int 0, .int 1], .lst [.int 2, .int 3]], s2, by simp [c10, big], ⟨by decide, by decide, 4, _, by decide, by omega, rfl, rfl, fun r hr => ?_⟩, l2⟩
    simp at hr
    rcases hr with rfl | rfl | rfl | rfl <;> exact mk2 _ _ (by decide) (by decide) (by decide) (by decide)
  by_cases c11 : f = 11 ∧ 3 < N
  · obtain ⟨c11, big⟩ := c11
    obtain ⟨o, s3, e3, o0, o1, l3⟩ := any_ok 2 (by decide) (by decide) s2 l2
    obtain ⟨w, s4, hw, e4, l4⟩ := of_ok [D.int 1, D.int 3] (by simp) (by simp) s3 l3
    have ho : o = 0 ∨ o = 1 := by omega
    have hw' : w = .int 1 ∨ w = .int 3 := by simpa using hw
    obtain ⟨v, rfl, v0⟩ : ∃ v : Int, w = .int v ∧ (v = 1 ∨ v = 3) := by rcases hw' with rfl | rfl <;> exact ⟨_, rfl, by decide⟩
    refine ⟨2, .lst [.lst [.int o, .int v], .lst [.int o, .int 3], .lst [.int (2 + o), .int ((2 + v) % 4)], .lst [.int (2 + o), .int 1]], s4, ?_, ⟨by decide, by decide, 4, _, by decide, by omega, rfl, rfl, fun r hr => ?_⟩, l4⟩
    · simp [c11, big, e3, e4, unfre, partTup, two]
      rcases ho with rfl | rfl <;> rcases v0 with rfl | rfl <;> rfl
    · simp at hr
      rcases hr with rfl | rfl | rfl | rfl <;> exact mk2 _ _ (by omega) (by omega) (by omega) (by omega)
  have t10 : (if f = 10 then (R.ok (decide (3 < N), s2) : R (Bool × Deal)) else .ok (false, s2)) = .ok (false, s2) := by
    by_cases c : f = 10
    · simp [c, show ¬ 3 < N from fun h => c10 ⟨c, h⟩]
    · simp [c]
  have t11 : (if f = 11 then (R.ok (decide (3 < N), s2) : R (Bool × Deal)) else .ok (false, s2)) = .ok (false, s2) := by
    by_cases c : f = 11
    · simp [c, show ¬ 3 < N from fun h => c11 ⟨c, h⟩]
    · simp [c]
  simp only [t10, t11, R.bind_ok, Bool.false_eq_true, if_false, flb_nx]
  obtain ⟨u, s3, e3, u0, u1, l3⟩ := any_ok N (by omega) (by omega) s2 l2
  have hr : rgSm k = true := by simp [rgSm]; omega
  simp only [e3, R.bind_ok, unfre_int, opAdd_int, asInt_int, hr, chk_true, show chk (decide (([] : List D).length ≤ 1000000)) ([] : List D) = .ok [] from rfl]
  refine forL_run (P := fun r => ∃ (k : Int) (d : D) (dl' : Deal), Pv.finish r = .ok (.tup [.int k, d], dl') ∧ Mac N k d ∧ dl'.1.length ≤ 63)
    (fun n (a : List D) (s : Deal) => a.length = n ∧ (∀ c ∈ a, Col (1 + u) c) ∧ s.1.length ≤ 63) ⟨rfl, by simp, l3⟩ (fun j hj a s ⟨al, ac, sl⟩ => ?_) (fun a s ⟨al, ac, sl⟩ => ?_)
  · have ha : a.length < 1000000 := by rw [rgD_len] at hj; omega
    have key : ∀ (g : Int) (s : Deal), s.1.length ≤ 63 → ∃ a' s', (((callL 2 0 [] m__law_column [.int g, .int (1 + u)] [] s).bind fun r => R.ok (unfre r.1, r.2)).bind fun p => (chk (decide (a.length < 1000000)) ()).bind fun x => (R.ok (Fl.nx (a ++ [p.1]), p.2) : R (Fl (List D) (List D) × Deal))) = .ok (.nx a', s') ∧ a'.length = j + 1 ∧ (∀ c ∈ a', Col (1 + u) c) ∧ s'.1.length ≤ 63 := fun g s hs => by
      obtain ⟨d, s', e, hc, l⟩ := column_ok g (1 + u) (by omega) (by omega) s hs
      refine ⟨a ++ [unfre d], s', ?_, by simp [al], fun c hc' => ?_, l⟩
      · simp [callL, argsM, e, ha]
      · rcases List.mem_append.mp hc' with h | h
        · exact ac c h
        · rw [List.mem_singleton.mp h]; exact hc
    by_cases c7 : 7 < f
    · obtain ⟨g, s4, e4, g0, g1, l4⟩ := any_ok 8 (by decide) (by decide) s sl
      simp only [c7, decide_true, R.bind_ok, if_true, e4, unfre_int]
      exact key g s4 l4
    · simp only [c7, decide_false, R.bind_ok, if_false, Bool.false_eq_true]
      exact key f s sl
  · rw [rgD_len] at al
    obtain ⟨rows, e, lr, hrw⟩ := columns_ok (1 + u) (by omega) (by omega) a (by rintro rfl; simp at al; omega) (by omega) ac
    refine ⟨k, .lst rows, s, ?_, ⟨k0, k1, 1 + u, rows, by omega, by omega, rfl, lr, fun r hr => ?_⟩, sl⟩
    · simp [callM, argsM, e, unfre]
    · rw [← al]; exact hrw r hr
end Gk21
set_option linter.all false
namespace Gk21
open PySem Pv L2
theorem ins_map {n : Nat} : ∀ {xs : List D}, (∀ x ∈ xs, In n x) → ∃ ys : List Nat, xs = ys.map nD ∧ ∀ y ∈ ys, y < n
  | [], _ => ⟨[], rfl, by simp⟩
  | x :: xs, h => by
    obtain ⟨ys, rfl, hy⟩ := ins_map fun x hx => h x (List.mem_cons_of_mem _ hx)
    obtain ⟨i, rfl, i0, i1⟩ := h x (List.mem_cons_self ..)
    obtain ⟨j, rfl⟩ := Int.eq_ofNat_of_zero_le i0
    refine ⟨j :: ys, rfl, fun y hy' => ?_⟩
    rcases List.mem_cons.mp hy' with rfl | h
    · omega
    · exact hy y h
theorem rows_map {n : Nat} {k : Nat} : ∀ {rows : List D}, (∀ r ∈ rows, Row n k r) → ∃ st : List (List Nat), rows = (st.map fun r => .lst (r.map nD)) ∧ ∀ r ∈ st, r.length = k ∧ ∀ x ∈ r, x < n
  | [], _ => ⟨[], rfl, by simp⟩
  | r :: rows, h => by
    obtain ⟨st, rfl, hst⟩ := rows_map fun r hr => h r (List.mem_cons_of_mem _ hr)
    obtain ⟨xs, rfl, l, q⟩ := h r (List.mem_cons_self ..)
    obtain ⟨ys, rfl, hy⟩ := ins_map q
    refine ⟨ys :: st, rfl, fun y hy' => ?_⟩
    rcases List.mem_cons.mp hy' with rfl | h
    · exact ⟨by simpa using l, hy⟩
    · exact hst y h
theorem machine_ok' (N : Nat) (hN : 0 < N) (hN' : N < 800) (dl : Deal) (hl : dl.1.length ≤ 63) : ∃ (m : Mt) (dl' : Deal), m__law_machine [.int (N : Int)] dl = .ok (.tup [.int m.k, m.given], dl') ∧ m.Ok ∧ m.k < 4 ∧ m.n ≤ N ∧ dl'.1.length ≤ 63 := by
  obtain ⟨k, d, dl', e, ⟨k0, k1, n, rows, n0, n1, rfl, lr, hr⟩, l⟩ := machine_ok N (by omega) (by omega) dl hl
  obtain ⟨k, rfl⟩ := Int.eq_ofNat_of_zero_le (Int.le_of_lt k0)
  obtain ⟨n, rfl⟩ := Int.eq_ofNat_of_zero_le (Int.le_of_lt n0)
  obtain ⟨st, rfl, hst⟩ := rows_map (n := n) (k := k) hr
  exact ⟨⟨k, n, st⟩, dl', e, ⟨by simpa using k0, by simpa using n0, by simpa using lr, hst⟩, by show k < 4; omega, by show n ≤ N; omega, l⟩
theorem ty_int (i : Int) : isTy [PySem.Str.ofString "Machine"] ["int"] (.int i) = .ok (.bl true) := rfl
theorem ty_bool (i : Int) : isTy [PySem.Str.ofString "Machine"] ["bool"] (.int i) = .ok (.bl false) := rfl
theorem ty_tup (i : List D) : isTy [PySem.Str.ofString "Machine"] ["tuple"] (.tup i) = .ok (.bl true) := rfl
theorem is_number_int (i : Int) : m_is_number [.int i] = .ok (.bl (decide (0 ≤ i))) := by
  by_cases c : 0 ≤ i <;> simp [m_is_number, pk_is_number, m_is_integer, pk_is_integer, ar1, callM, argsM, c, ty_int, ty_bool, unfre]
theorem is_seq_lst (xs : List D) : m_is_sequence [.lst xs] = .ok (.bl true) := rfl
theorem is_seq_tup (xs : List D) : m_is_sequence [.tup xs] = .ok (.bl true) := rfl
theorem is_index_int (i n : Int) : m_is_index [.int i, .int n] = .ok (.bl (decide (0 ≤ i ∧ i < n))) := by
  by_cases c : 0 ≤ i <;> by_cases e : i < n <;> simp [m_is_index, pk_is_index, ar2, callM, argsM, is_number_int, c, e, unfre, opLt]
theorem init_ok (m : Mt) (h : m.Ok) (hk : m.k < 1000) (hn : m.n < 1000) : m_Machine_init [.int m.k, m.given] = .ok m.fields := by
  obtain ⟨k0, n0, lr, hr⟩ := h
  have c0 : ¬ ((m.k : Int) = 0) := by omega
  have rl : ¬ ((m.st.length : Int) = 0) := by omega
  have e1 : callM 1 0 [] m_is_number [.int m.k] [] = .ok (.bl true) := by simp [callM, argsM, nD, is_number_int]
  have e2 : ∀ xs, callM 1 0 [] m_is_sequence [.lst xs] [] = .ok (.bl true) := fun xs => rfl
  simp only [m_Machine_init, pk_Machine_init, ar2, e1, Mt.given, e2, unfre_bl, R.bind_ok, asBool_bl, Bool.not_true, nD, eq_int, c0, decide_false, Bool.false_eq_true, if_false, flb_nx, d1_one, bLen_lst, List.length_map, rl, asItems_lst, chk_le m.st _ (show m.st.length ≤ 1000000 by omega), enD_enF]
  refine enF_run (P := fun r => finishI r id = .ok m.fields) (fun _ _ _ => True) trivial (fun pre x post a s e _ => ?_) (fun a s _ => ?_)
  · have hx : x ∈ m.st := by rw [e]; simp
    obtain ⟨lx, qx⟩ := hr x hx
    refine ⟨(), s, ?_, trivial⟩
    show R.bind (α := Bool × Unit) _ _ = _
    simp only [e2, unfre_bl, R.bind_ok, asBool_bl, Bool.not_true, Bool.false_eq_true, if_false, bLen_lst, ne_int, List.length_map, lx, ne_eq, not_true_eq_false, decide_false, asItems_lst, List.length_map, show m.k ≤ 1000000 by omega, decide_true, chk_true]
    rw [lc_map (g := fun _ => .bl true) (fun d hd s => by
      have := qx d hd
      simp [lcT, callM, argsM, is_index_int, nD, unfre, lr, this])]
    simp only [R.bind_ok, d1_one, bAll_map (fun _ => true), asBool_bl]
    simp
  · rw [lc_map (g := fun r => .tup (r.map nD)) (fun d hd s => by simp [lcT, bTuple])]
    simp only [R.bind_ok, bTuple_lst, Mt.fields, lr, nD]
    rfl
/-- a plain datum -/
def Pl : D → Prop
  | .non => True
  | .bl _ => True
  | .int _ => True
  | .str _ => True
  | .tup _ => True
  | .lst _ => True
  | _ => False
def isNum : D → Bool
  | .int i => decide (0 ≤ i)
  | _ => false
theorem is_number_d (d : D) (h : Pl d) : m_is_number [d] = .ok (.bl (isNum d)) := by
  cases d with
  | int i => exact is_number_int i
  | non => rfl
  | bl b => rfl
  | str z => rfl
  | tup xs => rfl
  | lst xs => rfl
  | _ => exact h.elim
def isIx (n : Int) : D → Bool
  | .int i => decide (0 ≤ i ∧ i < n)
  | _ => false
theorem is_index_d (d : D) (n : Int) (h : Pl d) : m_is_index [d, .int n] = .ok (.bl (isIx n d)) := by
  cases d with
  | int i => exact is_index_int i n
  | non => rfl
  | bl b => rfl
  | str z => rfl
  | tup xs => rfl
  | lst xs => rfl
  | _ => exact h.elim
/-- one step, a row of steps -/
def step (m : Mt) (s c : Nat) : Nat := (m.st.getD s []).getD c 0
def run (m : Mt) (s : Nat) (row : List Nat) : Nat := row.foldl (step m) s
theorem step_lt {m : Mt} (h : m.Ok) {s c : Nat} (hs : s < m.n) (hc : c < m.k) : step m s c < m.n := by
  obtain ⟨k0, n0, lr, hr⟩ := h
  have h1 : s < m.st.length := by omega
  have h2 := hr _ (List.getElem_mem h1)
  have h3 : c < m.st[s].length := by omega
  unfold step
  rw [show m.st.getD s [] = m.st[s] by simp [List.getD, h1], show m.st[s].getD c 0 = m.st[s][c] by simp [List.getD, h3]]
  exact h2.2 _ (List.getElem_mem h3)
theorem run_lt {m : Mt} (h : m.Ok) : ∀ {row : List Nat} {s : Nat}, s < m.n → (∀ c ∈ row, c < m.k) → run m s row < m.n
  | [], _, hs, _ => hs
  | c :: row, s, hs, hr => run_lt h (row := row) (step_lt h hs (hr c (List.mem_cons_self ..))) fun x hx => hr x (List.mem_cons_of_mem _ hx)
theorem ix_row {m : Mt} (h : m.Ok) {s c : Nat} (hs : s < m.n) (hc : c < m.k) (b e : Bool) : (opIx (sqD b (m.st.map fun r => sqD e (r.map nD))) (nD s)).bind (fun a => opIx a (nD c)) = .ok (nD (step m s c)) := by
  obtain ⟨k0, n0, lr, hr⟩ := h
  have h1 : s < m.st.length := by omega
  have h2 := hr _ (List.getElem_mem h1)
  have h3 : c < m.st[s].length := by omega
  have e1 : opIx (sqD b (m.st.map fun r => sqD e (r.map nD))) (nD s) = .ok (sqD e (m.st[s].map nD)) := by
    unfold nD
    cases b
    · show opIx (.tup _) _ = _
      rw [ix_natT _ _ (by simpa using h1), List.getElem_map]
    · show opIx (.lst _) _ = _
      rw [ix_nat _ _ (by simpa using h1), List.getElem_map]
  rw [e1, R.bind_ok]
  have e2 : opIx (sqD e (m.st[s].map nD)) (nD c) = .ok (nD m.st[s][c]) := by
    rw [show nD c = D.int (c : Int) from rfl]
    cases e
    · show opIx (.tup _) _ = _
      rw [ix_natT _ _ (by simpa using h3), List.getElem_map]
    · show opIx (.lst _) _ = _
      rw [ix_nat _ _ (by simpa using h3), List.getElem_map]
  rw [e2]
  unfold step
  rw [show m.st.getD s [] = m.st[s] by simp [List.getD, h1], show m.st[s].getD c 0 = m.st[s][c] by simp [List.getD, h3]]
theorem led_ok {m : Mt} (h : m.Ok) (b : Bool) (row : List Nat) (hr : ∀ c ∈ row, c < m.k) {s : Nat} (hs : s < m.n) : m_led [m.obj, nD s, sqD b (row.map nD)] = .ok (nD (run m s row)) := by
  simp only [m_led, pk_led, ar3, bind_as, flb_bind, finish1_bind, R.bind_ok, asItems_sq]
  refine forL_run' (P := fun r => finish1 r = _) (fun pre a _ => a = nD (run m s pre)) rfl (fun pre c post a s' e i => ?_) (fun a s' i => by rw [i]; rfl)
  subst i
  have hp : run m s pre < m.n := run_lt h hs fun x hx => hr x (by rw [e]; simp [hx])
  have := ix_row h hp (hr c (by rw [e]; simp)) false false
  refine ⟨nD (run m s (pre ++ [c])), s', ?_, rfl⟩
  simp only [Mt.at_steps, R.bind_ok]
  have e2 := this
  simp only [sqD, Bool.false_eq_true, if_false] at e2
  rw [← bind_as, e2]
  simp [run]
theorem law_led_ok {m : Mt} (h : m.Ok) (b : Bool) (row : List Nat) (hr : ∀ c ∈ row, c < m.k) {s : Nat} (hs : s < m.n) : m__law_led [m.given, nD s, sqD b (row.map nD)] = .ok (nD (run m s row)) := by
  simp only [m__law_led, pk__law_led, ar3, bind_as, flb_bind, finish1_bind, R.bind_ok, asItems_sq]
  refine forL_run' (P := fun r => finish1 r = _) (fun pre a _ => a = nD (run m s pre)) rfl (fun pre c post a s' e i => ?_) (fun a s' i => by rw [i]; rfl)
  subst i
  have hp : run m s pre < m.n := run_lt h hs fun x hx => hr x (by rw [e]; simp [hx])
  have := ix_row h hp (hr c (by rw [e]; simp)) true true
  refine ⟨nD (run m s (pre ++ [c])), s', ?_, rfl⟩
  have e2 := this
  simp only [sqD, if_true] at e2
  rw [← bind_as, show m.given = .lst (m.st.map fun r => .lst (r.map nD)) from rfl, e2]
  simp [run]
end Gk21
set_option linter.all false
set_option maxHeartbeats 4000000
namespace Gk21
open PySem Pv L2
/-! ### places in lists -/
def pos (xs : List Nat) (x : Nat) : Nat := xs.findIdx fun y => decide (y = x)
theorem pos_lt {xs : List Nat} {x : Nat} (h : x ∈ xs) : pos xs x < xs.length := List.findIdx_lt_length_of_exists ⟨x, h, by simp⟩
theorem getD_get {xs : List Nat} {j : Nat} (h : j < xs.length) : xs.getD j 0 = xs[j] := by rw [List.getD, List.getElem?_eq_getElem h]; rfl
theorem pos_get {xs : List Nat} {x : Nat} (h : x ∈ xs) : xs.getD (pos xs x) 0 = x := by
  have h1 := pos_lt h
  have h2 : decide (xs[pos xs x] = x) = true := List.findIdx_getElem (xs := xs) (p := fun y => decide (y = x)) (w := h1)
  rw [getD_get h1]
  exact of_decide_eq_true h2
theorem pos_le {xs : List Nat} {j : Nat} (h : j < xs.length) : pos xs (xs.getD j 0) ≤ j := by
  rw [getD_get h]
  apply Nat.le_of_not_lt
  intro c
  have := List.not_of_lt_findIdx c
  simp at this
theorem getD_mem {xs : List Nat} {j : Nat} (h : j < xs.length) : xs.getD j 0 ∈ xs := by rw [getD_get h]; exact List.getElem_mem _
/-- a kernel -/
def ker (xs : List Nat) : List Nat := xs.map (pos xs)
theorem ker_len (xs : List Nat) : (ker xs).length = xs.length := by simp [ker]
theorem ker_get {xs : List Nat} {i : Nat} (h : i < xs.length) : (ker xs).getD i 0 = pos xs (xs.getD i 0) := by
  rw [getD_get (by rw [ker_len]; exact h), getD_get h]
  simp [ker]
theorem ker_same {xs : List Nat} {i j : Nat} (hi : i < xs.length) (hj : j < xs.length) : (ker xs).getD i 0 = (ker xs).getD j 0 ↔ xs.getD i 0 = xs.getD j 0 := by
  rw [ker_get hi, ker_get hj]
  refine ⟨fun h => ?_, fun h => by rw [h]⟩
  rw [← pos_get (getD_mem hi), ← pos_get (getD_mem hj), h]
theorem ker_le {xs : List Nat} {i : Nat} (hi : i < xs.length) : (ker xs).getD i 0 ≤ i := by
  rw [ker_get hi]
  exact pos_le hi
theorem ker_least {xs : List Nat} {i : Nat} (hi : i < xs.length) : xs.getD ((ker xs).getD i 0) 0 = xs.getD i 0 := by
  rw [ker_get hi, pos_get (getD_mem hi)]
theorem ext_getD {xs ys : List Nat} (hl : xs.length = ys.length) (h : ∀ i, i < xs.length → xs.getD i 0 = ys.getD i 0) : xs = ys := by
  refine List.ext_getElem hl fun i h1 h2 => ?_
  rw [← getD_get h1, ← getD_get h2]
  exact h i h1
theorem ker_eq {xs ys : List Nat} (hl : xs.length = ys.length) (h : ∀ i j, i < xs.length → j < xs.length → (xs.getD i 0 = xs.getD j 0 ↔ ys.getD i 0 = ys.getD j 0)) : ker xs = ker ys := by
  refine ext_getD (by rw [ker_len, ker_len, hl]) fun i hi => ?_
  rw [ker_len] at hi
  rw [ker_get hi, ker_get (by omega)]
  have a1 := pos_lt (getD_mem hi)
  have a2 := pos_get (getD_mem hi)
  have hi' : i < ys.length := by omega
  have b1 := pos_lt (getD_mem hi')
  have b2 := pos_get (getD_mem hi')
  apply Nat.le_antisymm
  · have := (h _ i (by rw [hl]; exact b1) hi).mpr b2
    have z := pos_le (xs := xs) (j := pos ys (ys.getD i 0)) (by omega)
    rw [this] at z
    exact z
  · have := (h _ i a1 hi).mp a2
    have z := pos_le (xs := ys) (j := pos xs (xs.getD i 0)) (by omega)
    rw [this] at z
    exact z
theorem flat_nD (x : Nat) : flatD (nD x) = true := by simp [flatD, nD]
theorem eqF_nD (x y : Nat) : eqF (nD x) (nD y) = decide (x = y) := by
  have : eqF (nD x) (nD y) = decide ((x : Int) = (y : Int)) := by simp only [eqF, nD]; rfl
  rw [this]
  by_cases c : x = y
  · simp [c]
  · have : ¬ (x : Int) = y := by omega
    simp [c, this]
theorem idx_nat (xs : List Nat) {x : Nat} (h : x ∈ xs) : idxF (nD x) (xs.map nD) = .ok (nD (pos xs x)) := by
  have h1 : (xs.map nD).all flatD = true := by simp [List.all_map, Function.comp_def, flat_nD]
  have h2 : (xs.map nD).findIdx? (fun y => eqF y (nD x)) = some (pos xs x) := by
    rw [List.findIdx?_map]
    have e : ((fun y => eqF y (nD x)) ∘ nD) = fun y => decide (y = x) := by
      funext y
      exact eqF_nD y x
    rw [e]
    unfold pos
    rw [List.findIdx?_eq_some_iff_findIdx_eq]
    exact ⟨pos_lt h, rfl⟩
  simp only [idxF, flat_nD, h1, Bool.and_self, chk_true, R.bind_ok, h2, opt_some]
  rfl
theorem mIndex_lst (xs : List Nat) {x : Nat} (h : x ∈ xs) : mIndex (.lst (xs.map nD)) (nD x) = .ok (nD (pos xs x)) := idx_nat xs h
theorem mIndex_tpN (xs : List Nat) {x : Nat} (h : x ∈ xs) : mIndex (.tpN (xs.map nD)) (nD x) = .ok (nD (pos xs x)) := idx_nat xs h
theorem ix_natP (xs : List D) (v : Nat) (h : v < xs.length) : opIx (.tpN xs) (.int v) = .ok xs[v] := by
  simp [opIx, atI, ixN_nat _ _ h, opt, h]
theorem ixn_lst (xs : List Nat) {v : Nat} (h : v < xs.length) : opIx (.lst (xs.map nD)) (nD v) = .ok (nD (xs.getD v 0)) := by
  rw [show nD v = .int (v : Nat) from rfl, ix_nat _ _ (by simpa using h), getD_get h]; simp
theorem ixn_tup (xs : List Nat) {v : Nat} (h : v < xs.length) : opIx (.tup (xs.map nD)) (nD v) = .ok (nD (xs.getD v 0)) := by
  rw [show nD v = .int (v : Nat) from rfl, ix_natT _ _ (by simpa using h), getD_get h]; simp
theorem ixn_tpN (xs : List Nat) {v : Nat} (h : v < xs.length) : opIx (.tpN (xs.map nD)) (nD v) = .ok (nD (xs.getD v 0)) := by
  rw [show nD v = .int (v : Nat) from rfl, ix_natP _ _ (by simpa using h), getD_get h]; simp
/-! ### effects, kernels -/
def Rw (m : Mt) (row : List Nat) : Prop := ∀ c ∈ row, c < m.k
def eff (m : Mt) (row : List Nat) : List Nat := (List.range m.n).map fun s => run m s row
theorem eff_len (m : Mt) (row : List Nat) : (eff m row).length = m.n := by simp [eff]
theorem eff_get {m : Mt} {row : List Nat} {s : Nat} (h : s < m.n) : (eff m row).getD s 0 = run m s row := by
  rw [getD_get (by rw [eff_len]; exact h)]; simp [eff]
theorem chk_rg (n : Nat) (h : n < 1000) {α : Type} (a : α) : chk (rgSm (n : Int)) a = .ok a := by
  have : rgSm (n : Int) = true := by simp [rgSm]; omega
  rw [this, chk_true]
theorem chk_rgl (n : Nat) (h : n < 1000) {α : Type} (a : α) : chk (decide ((List.range n).length ≤ 1000000)) a = .ok a := by
  have : n ≤ 1000000 := by omega
  simp [chk, this]
theorem law_effect_ok {m : Mt} (hm : m.Ok) (hn : m.n < 1000) (b : Bool) (row : List Nat) (hr : Rw m row) : m__law_effect [m.given, sqD b (row.map nD)] = .ok (.tpN ((eff m row).map nD)) := by
  have lr : m.st.length = m.n := hm.2.2.1
  simp only [m__law_effect, pk__law_effect, ar2, bind_as, flb_bind, finish1_bind, R.bind_ok, callM3, d1_one, Mt.given, bLen_lst, List.length_map, lr, asInt_int, chk_rg m.n hn, rgD_nat, chk_rgl m.n hn]
  rw [show D.lst (m.st.map fun r => D.lst (r.map nD)) = m.given from rfl]
  rw [lc_map (g := fun s => nD (run m s row)) (fun s hs τ => by
    have := law_led_ok hm b row hr (s := s) (by simpa using hs)
    simp only [lcT, partName_d, opt_some, R.bind_ok, ar1_one, if_true, this, noErr_ok]
    rfl)]
  simp only [R.bind_ok, bTupleN, finish1]
  rw [eff, List.map_map]
  rfl
theorem is_seq_b (b : Bool) (xs : List D) : m_is_sequence [sqD b xs] = .ok (.bl true) := by cases b <;> rfl
theorem checked_row_ok (m : Mt) (b : Bool) (row : List Nat) (hr : Rw m row) : m_checked_row [m.obj, sqD b (row.map nD)] = .ok (.tup (row.map nD)) := by
  simp only [m_checked_row, pk_checked_row, ar2, bind_as, flb_bind, finish1_bind, R.bind_ok, callM1, callM2, is_seq_b, unfre_bl, asBool_bl, not_tt, if_ff, flb_nx, asItems_sq, enD_enF]
  refine enF_run (P := fun r => finish1 r = _) (fun _ _ _ => True) trivial (fun pre x post a s e _ => ⟨(), s, ?_, trivial⟩) (fun a s _ => ?_)
  · have hx := hr x (by rw [e]; simp)
    simp only [pair2, m.at_commands, R.bind_ok, show m_is_index [nD x, nD m.k] = .ok (.bl true) from by rw [nD, nD, is_index_int]; simp [hx], unfre_bl, asBool_bl, not_tt, if_ff, flb_nx]
  · simp only [d1_one, bTuple_sq, R.bind_ok]
    rfl
theorem effect_ok {m : Mt} (hm : m.Ok) (hn : m.n < 1000) (b : Bool) (row : List Nat) (hr : Rw m row) : m_effect [m.obj, sqD b (row.map nD)] = .ok (.tpN ((eff m row).map nD)) := by
  simp only [m_effect, pk_effect, ar2, bind_as, flb_bind, finish1_bind, R.bind_ok, callM2, callM3, checked_row_ok m b row hr, m.at_states, nD, asInt_int, chk_rg m.n hn, rgD_nat, List.length_map, chk_rgl m.n hn, unfre_tup]
  rw [lc_map (g := fun s => nD (run m s row)) (fun s hs τ => by
    have := led_ok hm false row hr (s := s) (by simpa using hs)
    simp only [sqD, Bool.false_eq_true, if_false] at this
    simp only [lcT, partName_d, opt_some, R.bind_ok, ar1_one, if_true]
    rw [this]
    rfl)]
  simp only [R.bind_ok, d1_one, bTupleN, finish1]
  rw [eff, List.map_map]
  rfl
theorem law_kernel_ok {m : Mt} (hm : m.Ok) (hn : m.n < 1000) (b : Bool) (row : List Nat) (hr : Rw m row) : m__law_kernel [m.given, sqD b (row.map nD)] = .ok (.tup ((ker (eff m row)).map nD)) := by
  simp only [m__law_kernel, pk__law_kernel, ar2, bind_as, flb_bind, finish1_bind, R.bind_ok, callM2, law_effect_ok hm hn b row hr, show ∀ xs, unfre (.tpN xs) = .tpN xs from fun _ => rfl, show ∀ xs : List D, asItems (.tpN xs) = .ok xs from fun _ => rfl, chk_len nD (eff m row) 1000000 (by rw [eff_len]; omega)]
  rw [lc_map (g := fun x => nD (pos (eff m row) x)) (fun x hx τ => by
    simp only [lcT, partName_d, opt_some, R.bind_ok, ar1_one, if_true, show ∀ xs : List D, sqQ (.tpN xs) = true from fun _ => rfl, chk_true, mIndex_tpN _ hx, noErr_ok])]
  simp only [R.bind_ok, d1_one, bTuple_lst]
  rw [ker, List.map_map]
  rfl
/-! ### the first clash -/
theorem forL_some {α γ τ : Type} {f : D → γ → τ → R (Fl γ γ × τ)} {enc : α → D} (q : α → Option D) {a : γ} {s : τ} : ∀ (xs : List α), (∀ x ∈ xs, f (enc x) a s = match q x with | some d => .ok (.rt d, s) | none => .ok (.nx a, s)) →
    (forL (γ := γ) f (xs.map enc) a s : R (Fl γ γ × τ)) = match xs.findSome? q with | some d => .ok (.rt d, s) | none => .ok (.nx a, s)
  | [], _ => rfl
  | x :: xs, h => by
    rw [List.map_cons, forL_cons, h x (List.mem_cons_self ..), List.findSome?_cons]
    cases e : q x with
    | some d => rfl
    | none =>
      simp only [R.bind_ok]
      exact forL_some q xs fun y hy => h y (List.mem_cons_of_mem _ hy)
def unlike (m : Mt) (c : Nat) (f : List Nat) (s o : Nat) : Bool := !decide (f.getD (step m (step m s c) o) 0 = f.getD (step m (step m s o) c) 0)
def clashQ (m : Mt) (c : Nat) (f : List Nat) (s : Nat) : Option D := (List.range m.k).findSome? fun o => if unlike m c f s o = true then some (D.tup [nD s, nD o]) else none
def clashO (m : Mt) (c : Nat) (f : List Nat) : Option D := (List.range m.n).findSome? (clashQ m c f)
def clashD (m : Mt) (c : Nat) (f : List Nat) : D := (clashO m c f).getD .non
theorem ne_nD (x y : Nat) : opNe (nD x) (nD y) = .ok (.bl (!decide (x = y))) := by
  unfold nD
  rw [ne_int]
  by_cases c : x = y
  · simp [c]
  · have : ¬ (x : Int) = y := by omega
    simp [c, this]
theorem clash_ok {m : Mt} (hm : m.Ok) (hn : m.n < 1000) (hk : m.k < 1000) (c : Nat) (hc : c < m.k) (f : List Nat) (hf : f.length = m.n) : m__law_clash [m.given, nD c, .tpN (f.map nD)] = .ok (clashD m c f) := by
  have lr : m.st.length = m.n := hm.2.2.1
  have h0 : 0 < m.st.length := by have := hm.2.1; omega
  have r0 : m.st[0].length = m.k := (hm.2.2.2 _ (List.getElem_mem h0)).1
  have i0 : opIx m.given (.int 0) = .ok (.lst (m.st[0].map nD)) := by
    rw [Mt.given, show (0 : Int) = ((0 : Nat) : Int) from rfl, ix_nat _ 0 (by simpa using h0)]; simp
  have ixr := fun {s c : Nat} (hs : s < m.n) (hc : c < m.k) => ix_row hm hs hc true true
  simp only [sqD, if_true] at ixr
  rw [show D.lst (m.st.map fun r => D.lst (r.map nD)) = m.given from rfl] at ixr
  simp only [m__law_clash, pk__law_clash, ar3, bind_as, flb_bind, finish1_bind, R.bind_ok, d1_one, show bLen m.given = .ok (.int (m.n : Nat)) from by rw [Mt.given, bLen_lst, List.length_map, lr], asInt_int, chk_rg m.n hn, rgD_nat, i0, bLen_lst, List.length_map, r0, chk_rg m.k hk]
  have inner : ∀ s, s < m.n → ∀ τ : Unit, (flb (forL (γ := Unit) (fun v4 (a3 : Unit) s_1 =>
      (opIx m.given (nD s)).bind fun a_8 => (opIx a_8 (nD c)).bind fun a_9 => (opIx m.given a_9).bind fun a_10 => (opIx a_10 v4).bind fun a_11 => (opIx (.tpN (f.map nD)) a_11).bind fun a_12 =>
      (opIx m.given (nD s)).bind fun a_13 => (opIx a_13 v4).bind fun a_14 => (opIx m.given a_14).bind fun a => (opIx a (nD c)).bind fun a => (opIx (.tpN (f.map nD)) a).bind fun a => (opNe a_12 a).bind fun a => (asBool a).bind fun a =>
      flb (if a = true then (if [nD s, v4].length ≤ 1000000 then R.ok (D.tup [nD s, v4], s_1) else R.bad).bind fun p => R.ok (Fl.rt p.fst, p.snd) else R.ok (Fl.nx (), s_1)) fun (a5 : Unit) s => R.ok (Fl.nx (), s)) ((List.range m.k).map nD) () τ)
      fun (a5 : Unit) s => (R.ok (Fl.nx (), s) : R (Fl Unit Unit × Unit))) = match clashQ m c f s with | some d => .ok (.rt d, τ) | none => .ok (.nx (), τ) := fun s hs τ => by
    rw [forL_some (q := fun o => if unlike m c f s o = true then some (D.tup [nD s, nD o]) else none) (List.range m.k) fun o ho => ?_]
    · show flb (match clashQ m c f s with | some d => R.ok (Fl.rt d, τ) | none => R.ok (Fl.nx (), τ)) _ = _
      cases clashQ m c f s <;> rfl
    · have ho' : o < m.k := by simpa using ho
      have s1 := step_lt hm hs hc
      have s2 := step_lt hm hs ho'
      have s3 := step_lt hm s1 ho'
      have s4 := step_lt hm s2 hc
      have e1 := ixr hs hc
      have e2 := ixr s1 ho'
      have e3 := ixr hs ho'
      have e4 := ixr s2 hc
      have go : ∀ {a b c : Nat} {k : D → R (Fl Unit Unit × Unit)}, ((opIx m.given (nD a)).bind fun x => opIx x (nD b)) = .ok (nD c) → ((opIx m.given (nD a)).bind fun x => (opIx x (nD b)).bind k) = k (nD c) := fun {a b c k} h => by
        rw [← bind_as, h]; rfl
      rw [go e1, go e2, ixn_tpN f (by omega), R.bind_ok, go e3, go e4, ixn_tpN f (by omega)]
      simp only [R.bind_ok, ne_nD, asBool_bl, tl2, if_T]
      show flb (if unlike m c f s o = true then _ else _) _ = _
      cases unlike m c f s o <;> rfl
  rw [forL_some (q := clashQ m c f) (List.range m.n) fun s hs => ?_]
  · show finish1 (flb (match clashO m c f with | some d => R.ok (Fl.rt d, ()) | none => R.ok (Fl.nx (), ())) _) = .ok ((clashO m c f).getD .non)
    cases clashO m c f <;> rfl
  · exact inner s (by simpa using hs) ()
end Gk21
set_option linter.all false
set_option maxHeartbeats 4000000
namespace Gk21
open PySem Pv L2
/-! ### all kernels of rows -/
def tD (k : List Nat) : D := .tup (k.map nD)
def kk (k : List Nat) : List Key := k.map fun x : Nat => (Sum.inl (x : Int) : Key)
def kv (p : List Nat × List Nat) : List Key × D := (kk p.1, tD p.2)
theorem kk_inj {a b : List Nat} (h : kk a = kk b) : a = b := by
  unfold kk at h
  refine List.map_inj_right (f := fun x : Nat => (Sum.inl (x : Int) : Key)) (fun x y e => ?_) |>.mp h
  have := Sum.inl.inj e
  omega
theorem keysQ_n : ∀ k : List Nat, keysQ (k.map nD) = some (kk k)
  | [] => rfl
  | x :: k => by
    have := keysQ_n k
    rw [List.map_cons]
    unfold keysQ
    rw [this]
    rfl
theorem keyT_t (k : List Nat) : keyT (tD k) = some (kk k) := keysQ_n k
theorem dkey_kk (k : List Nat) : (kk k).map dKey = k.map nD := by
  unfold kk
  rw [List.map_map]
  rfl
def keys (T : List (List Nat × List Nat)) : List (List Nat) := T.map (·.1)
theorem val_in : ∀ {T : List (List Nat × List Nat)} {k : List Nat}, k ∈ keys T → ∃ p ∈ T, p.1 = k ∧ valG (T.map kv) (kk k) = some (tD p.2)
  | [], k, h => by cases h
  | p :: T, k, h => by
    by_cases c : p.1 = k
    · refine ⟨p, List.mem_cons_self .., c, ?_⟩
      simp [valG, kv, c]
    · have hk : k ∈ keys T := by
        rcases List.mem_cons.mp h with e | e
        · exact absurd e.symm c
        · exact e
      obtain ⟨q, h1, h2, h3⟩ := val_in hk
      refine ⟨q, List.mem_cons_of_mem _ h1, h2, ?_⟩
      have c' : ¬ kk p.1 = kk k := fun e => c (kk_inj e)
      unfold valG at h3 ⊢
      rw [List.map_cons, List.find?_cons]
      simp only [kv, c', decide_false]
      exact h3
theorem val_out : ∀ {T : List (List Nat × List Nat)} {k : List Nat}, k ∉ keys T → valG (T.map kv) (kk k) = none
  | [], _, _ => rfl
  | p :: T, k, h => by
    have c : ¬ kk p.1 = kk k := fun e => h (by rw [← kk_inj e]; exact List.mem_cons_self ..)
    have h3 := val_out (T := T) (k := k) fun z => h (List.mem_cons_of_mem _ z)
    unfold valG at h3 ⊢
    rw [List.map_cons, List.find?_cons]
    simp only [kv, c, decide_false]
    exact h3
theorem put_out {T : List (List Nat × List Nat)} {k v : List Nat} (h : k ∉ keys T) : putG (T.map kv) (kk k) (tD v) = (T ++ [(k, v)]).map kv := by
  have : ((T.map kv).any fun q => decide (q.1 = kk k)) = false := by
    rw [List.any_map, List.any_eq_false]
    intro p hp
    have c : ¬ kk p.1 = kk k := fun e => h (by rw [← kk_inj e]; exact List.mem_map_of_mem hp)
    simp [kv, c]
  unfold putG
  rw [this]
  simp [kv]
/-- the kernel of a row with a command ahead -/
def succ (m : Mt) (k : List Nat) (c : Nat) : List Nat := ker (m.st.map fun r => k.getD (r.getD c 0) 0)
theorem st_get {m : Mt} (hm : m.Ok) {s c : Nat} (hs : s < m.n) : (m.st.map fun r => r.getD c 0).getD s 0 = step m s c := by
  have h1 : s < m.st.length := by have := hm.2.2.1; omega
  rw [getD_get (by simpa using h1)]
  simp [step, List.getD, h1]
theorem succ_eq {m : Mt} (hm : m.Ok) {w : List Nat} {c : Nat} (hc : c < m.k) : succ m (ker (eff m w)) c = ker (eff m (c :: w)) := by
  have lr : m.st.length = m.n := hm.2.2.1
  have at1 : ∀ i, i < m.n → (m.st.map fun r => (ker (eff m w)).getD (r.getD c 0) 0).getD i 0 = (ker (eff m w)).getD (step m i c) 0 := fun i hi => by
    have h1 : i < m.st.length := by omega
    rw [getD_get (by simpa using h1)]
    simp [step, List.getD, h1]
  refine ker_eq (by simp [eff_len, lr]) fun i j hi hj => ?_
  have hi : i < m.n := by simpa [lr] using hi
  have hj : j < m.n := by simpa [lr] using hj
  have s1 := step_lt hm hi hc
  have s2 := step_lt hm hj hc
  rw [at1 i hi, at1 j hj, ker_same (by rw [eff_len]; exact s1) (by rw [eff_len]; exact s2), eff_get s1, eff_get s2, eff_get hi, eff_get hj]
  exact Iff.rfl
/-- the kernels that may be: places not behind -/
def enumK : Nat → List (List Nat)
  | 0 => [[]]
  | n + 1 => (enumK n).flatMap fun l => (List.range (n + 1)).map fun x => l ++ [x]
theorem enumK_mem : ∀ {n : Nat} {k : List Nat}, k.length = n → (∀ i, i < n → k.getD i 0 ≤ i) → k ∈ enumK n
  | 0, k, h, _ => by rw [List.length_eq_zero_iff.mp h]; exact List.mem_cons_self ..
  | n + 1, k, h, le => by
    rcases List.eq_nil_or_concat k with rfl | ⟨l, x, rfl⟩
    · cases h
    · have hl : l.length = n := by simpa using h
      refine List.mem_flatMap.mpr ⟨l, enumK_mem hl fun i hi => ?_, List.mem_map.mpr ⟨x, ?_, by simp⟩⟩
      · have := le i (by omega)
        rw [getD_get (by simp; omega)] at this
        rw [getD_get (by omega)]
        simpa [List.getElem_append, hl, hi] using this
      · have := le n (by omega)
        rw [getD_get (by simp; omega)] at this
        simp [hl] at this ⊢
        omega
theorem enumK_len {n : Nat} (h : n ≤ 6) : (enumK n).length ≤ 720 := by
  obtain rfl | rfl | rfl | rfl | rfl | rfl | rfl : n = 0 ∨ n = 1 ∨ n = 2 ∨ n = 3 ∨ n = 4 ∨ n = 5 ∨ n = 6 := by omega
  all_goals decide +kernel
theorem nodup_le {α : Type} [DecidableEq α] : ∀ {l L : List α}, l.Nodup → (∀ x ∈ l, x ∈ L) → l.length ≤ L.length
  | [], _, _, _ => Nat.zero_le _
  | a :: l, L, h, s => by
    obtain ⟨h1, h2⟩ := List.nodup_cons.mp h
    have ha := s a (List.mem_cons_self ..)
    have z := nodup_le (L := L.erase a) h2 fun x hx => (List.mem_erase_of_ne (by rintro rfl; exact h1 hx)).mpr (s x (List.mem_cons_of_mem _ hx))
    rw [List.length_erase_of_mem ha] at z
    have := List.length_pos_of_mem ha
    simp
    omega
/-- a table of kernels with rows -/
structure Tab (m : Mt) (T : List (List Nat × List Nat)) : Prop where
  nd : (keys T).Nodup
  ent : ∀ p ∈ T, Rw m p.2 ∧ p.1 = ker (eff m p.2) ∧ p.2.length < T.length
theorem Tab.key {m : Mt} {T : List (List Nat × List Nat)} (t : Tab m T) {k : List Nat} (h : k ∈ keys T) : ∃ w, Rw m w ∧ k = ker (eff m w) := by
  obtain ⟨p, hp, rfl⟩ := List.mem_map.mp h
  obtain ⟨h1, h2, _⟩ := t.ent p hp
  exact ⟨p.2, h1, h2⟩
theorem Tab.len {m : Mt} (hn : m.n ≤ 6) {T : List (List Nat × List Nat)} (t : Tab m T) : T.length ≤ 720 := by
  have : (keys T).length ≤ (enumK m.n).length := nodup_le t.nd fun k hk => by
    obtain ⟨w, _, rfl⟩ := t.key hk
    refine enumK_mem (by rw [ker_len, eff_len]) fun i hi => ker_le (by rw [eff_len]; exact hi)
  have e := enumK_len hn
  simp [keys] at this
  omega
theorem Tab.add {m : Mt} {T : List (List Nat × List Nat)} (t : Tab m T) {k v : List Nat} (hk : k ∉ keys T) (hv : Rw m v) (he : k = ker (eff m v)) (hl : v.length ≤ T.length) : Tab m (T ++ [(k, v)]) where
  nd := by
    unfold keys
    rw [List.map_append]
    refine List.nodup_append.mpr ⟨t.nd, by simp, fun a ha b hb e => ?_⟩
    have : b = k := by simpa using hb
    exact hk (by rw [← this, ← e]; exact ha)
  ent := fun p hp => by
    rw [List.length_append]
    rcases List.mem_append.mp hp with h | h
    · obtain ⟨h1, h2, h3⟩ := t.ent p h
      exact ⟨h1, h2, by simp; omega⟩
    · rw [List.mem_singleton.mp h]
      exact ⟨hv, he, by simp; omega⟩
/-- all of them -/
structure Few (m : Mt) (T : List (List Nat × List Nat)) : Prop extends Tab m T where
  all : ∀ w, Rw m w → ker (eff m w) ∈ keys T
theorem few_body {m : Mt} (hm : m.Ok) (hn : m.n ≤ 6) {T : List (List Nat × List Nat)} (t : Tab m T) (L : List (List Nat)) (hL : L.length ≤ T.length) {k : List Nat} (hk : k ∈ keys T) {c : Nat} (hc : c < m.k) (s : Unit) :
    ∃ T' L', Tab m T' ∧ (∃ X, keys T' = keys T ++ X ∧ L' = L ++ X) ∧ succ m k c ∈ keys T' ∧ L'.length ≤ T'.length ∧
    ((asItems m.given).bind fun a => (chk (decide (a.length ≤ 1000000)) a).bind fun a =>
      (lcL (lcT partName (ar1 (fun x => R.bad) fun v11 s => R.ok (true, s)) (ar1 (fun x => R.bad) fun v11 s => (opIx v11 (nD c)).bind fun a => (opIx (tD k) a).bind fun d => R.ok (d, s))) a s).bind fun a =>
      (asItems (D.lst a.fst)).bind fun a_15 => (chk (decide (a_15.length ≤ 1000000)) a_15).bind fun a_16 =>
      (lcL (lcT partName (ar1 (fun x => R.bad) fun v11 s => R.ok (true, s)) (ar1 (fun x => R.bad) fun v13 s => (chk (sqQ (D.lst a.fst)) ()).bind fun x => (mIndex (D.lst a.fst) v13).bind fun d => R.ok (d, s))) a_16 a.snd).bind fun a =>
      (d1 bTuple [D.lst a.fst]).bind fun a_17 => (opt (keyT a_17)).bind fun a_18 =>
      flb (if (!(valG (T.map kv) a_18).isSome) = true then
        (if [nD c].length ≤ 1000000 then R.ok (D.tup [nD c], a.snd) else R.bad).bind fun a =>
        (opt (keyT (tD k))).bind fun a_19 => (opt (valG (T.map kv) a_19)).bind fun a_20 => (opAdd a.fst a_20).bind fun a_21 => (opt (keyT a_17)).bind fun ky =>
        (chk (decide ((T.map kv).length < 1000000)) ()).bind fun x => (chk (decide ((L.map tD).length < 1000000)) ()).bind fun x => R.ok (Fl.nx (putG (T.map kv) ky a_21, (L.map tD) ++ [a_17]), a.snd)
      else R.ok (Fl.nx (T.map kv, L.map tD), a.snd))
      fun (a14 : List (List Key × D) × List D) s => (R.ok (Fl.nx (a14.fst, a14.snd), s) : R (Fl (List (List Key × D) × List D) (List (List Key × D) × List D) × Unit))) = .ok (.nx (T'.map kv, L'.map tD), s) := by
  obtain ⟨k0, n0, lr, hr⟩ := hm
  obtain ⟨w, hw, ek⟩ := t.key hk
  have lk : k.length = m.n := by rw [ek, ker_len, eff_len]
  have tl := t.len hn
  have e1 : ∀ s : Unit, lcL (lcT partName (ar1 (fun x => R.bad) fun v11 s => R.ok (true, s)) (ar1 (fun x => R.bad) fun v11 s => (opIx v11 (nD c)).bind fun a => (opIx (tD k) a).bind fun d => R.ok (d, s))) (m.st.map fun r => D.lst (r.map nD)) s = .ok ((m.st.map fun r => k.getD (r.getD c 0) 0).map nD, s) := fun s => by
    rw [lc_map (g := fun r => nD (k.getD (r.getD c 0) 0)) (fun r hrm τ => ?_), List.map_map]
    · rfl
    · obtain ⟨rl, rq⟩ := hr r hrm
      have h1 : c < r.length := by omega
      have h2 : r.getD c 0 < k.length := by rw [lk]; exact rq _ (getD_mem h1)
      simp only [lcT, partName_d, opt_some, R.bind_ok, ar1_one, if_true, ixn_lst r h1, tD, ixn_tup k h2, noErr_ok]
  have e2 : ∀ s : Unit, lcL (lcT partName (ar1 (fun x => R.bad) fun v11 s => R.ok (true, s)) (ar1 (fun x => R.bad) fun v13 s => (chk (sqQ (D.lst ((m.st.map fun r => k.getD (r.getD c 0) 0).map nD))) ()).bind fun x => (mIndex (D.lst ((m.st.map fun r => k.getD (r.getD c 0) 0).map nD)) v13).bind fun d => R.ok (d, s))) ((m.st.map fun r => k.getD (r.getD c 0) 0).map nD) s = .ok ((succ m k c).map nD, s) := fun s => by
    rw [lc_map (g := fun x => nD (pos (m.st.map fun r => k.getD (r.getD c 0) 0) x)) (fun x hx τ => ?_)]
    · exact congrArg (fun z => R.ok (z, s)) (by simp [succ, ker, Function.comp_def])
    · simp only [lcT, partName_d, opt_some, R.bind_ok, ar1_one, if_true, show ∀ xs : List D, sqQ (.lst xs) = true from fun _ => rfl, chk_true, mIndex_lst _ hx, noErr_ok]
  have c1 : ∀ {α : Type} (a : α), chk (decide ((m.st.map fun r => D.lst (r.map nD)).length ≤ 1000000)) a = .ok a := fun a => chk_len (fun r : List Nat => D.lst (r.map nD)) m.st 1000000 (by omega) a
  have c2 : ∀ {α : Type} (a : α), chk (decide (((m.st.map fun r => k.getD (r.getD c 0) 0).map nD).length ≤ 1000000)) a = .ok a := fun a => chk_len nD (m.st.map fun r => k.getD (r.getD c 0) 0) 1000000 (by simp; omega) a
  have g1 : asItems m.given = .ok (m.st.map fun r => D.lst (r.map nD)) := rfl
  rw [g1]
  simp only [R.bind_ok, c1, e1, asItems_lst, c2, e2, d1_one, bTuple_lst, show D.tup ((succ m k c).map nD) = tD (succ m k c) from rfl, keyT_t, opt_some]
  by_cases h : succ m k c ∈ keys T
  · obtain ⟨p, _, _, hv⟩ := val_in h
    refine ⟨T, L, t, ⟨[], by simp, by simp⟩, h, hL, ?_⟩
    rw [hv]
    rfl
  · obtain ⟨p, hp, hpk, hv⟩ := val_in hk
    obtain ⟨q1, q2, q3⟩ := t.ent p hp
    have esucc : succ m k c = ker (eff m (c :: p.2)) := by rw [← hpk, q2]; exact succ_eq ⟨k0, n0, lr, hr⟩ hc
    refine ⟨T ++ [(succ m k c, c :: p.2)], L ++ [succ m k c], t.add h (fun x hx => ?_) esucc (by simp; omega), ⟨[succ m k c], by simp [keys], rfl⟩, by simp [keys], by simp; omega, ?_⟩
    · rcases List.mem_cons.mp hx with rfl | hx
      · exact hc
      · exact q1 x hx
    · rw [val_out h]
      have a1 : opAdd (.tup [nD c]) (tD p.2) = .ok (tD (c :: p.2)) := add_tup _ _ (by simp; omega)
      simp only [Option.isSome_none, Bool.not_false, if_true, tl1, if_T, R.bind_ok, keyT_t, opt_some, hv, a1, chk_len, chk_lt, List.length_map, show decide (T.length < 1000000) = true from decide_eq_true (by omega), show decide (L.length < 1000000) = true from decide_eq_true (by omega), chk_true, put_out h, flb_nx]
      simp
end Gk21
set_option linter.all false
set_option maxHeartbeats 4000000
namespace Gk21
open PySem Pv L2
theorem tD_cmp {m : Mt} (hn : m.n ≤ 6) {k : List Nat} (h : ∃ w, Rw m w ∧ k = ker (eff m w)) : Cmp (tD k) := by
  obtain ⟨w, _, rfl⟩ := h
  refine (Sh.tup (k := 0) (n := 19) (m := 200) (ds := (ker (eff m w)).map nD) (fun d hd => ?_) ?_).cmp (by decide)
  · obtain ⟨x, hx, rfl⟩ := List.mem_map.mp hd
    have hx' : x ∈ ker (eff m w) := hx
    unfold ker at hx'
    obtain ⟨y, hy, rfl⟩ := List.mem_map.mp hx'
    have := pos_lt hy
    rw [eff_len] at this
    exact .int (by omega) (by decide)
  · rw [List.length_map, ker_len, eff_len]; omega
def isE : D → Nat
  | .lst [] => 0
  | _ => 1
def msF (a : List (List Key × D) × D) : Nat := (721 - a.1.length) + isE a.2
theorem few_ok {m : Mt} (hm : m.Ok) (hn : m.n ≤ 6) (hk : m.k < 1000) : ∃ T, m__law_few [m.given] = .ok (.dcT (T.map kv)) ∧ Few m T := by
  have lr : m.st.length = m.n := hm.2.2.1
  have h0 : 0 < m.st.length := by have := hm.2.1; omega
  have r0 : m.st[0].length = m.k := (hm.2.2.2 _ (List.getElem_mem h0)).1
  have i0 : opIx m.given (.int 0) = .ok (.lst (m.st[0].map nD)) := by
    rw [Mt.given, show (0 : Int) = ((0 : Nat) : Int) from rfl, ix_nat _ 0 (by simpa using h0)]; simp
  have rg : rgOk 0 (m.n : Int) = true := by simp [rgOk]; omega
  have eI : ker (eff m []) = List.range m.n := by
    have e : eff m [] = List.range m.n := by simp [eff, run]
    rw [e]
    refine ext_getD (by rw [ker_len]) fun i hi => ?_
    rw [ker_len] at hi
    rw [ker_get hi]
    have hi' : i < m.n := by simpa using hi
    have g : (List.range m.n).getD i 0 = i := by rw [getD_get hi]; simp
    have a := pos_le hi
    have b := pos_get (getD_mem hi)
    rw [g] at a b ⊢
    have hp : pos (List.range m.n) i < m.n := by omega
    rw [getD_get (by simpa using hp)] at b
    simpa using b
  simp only [m__law_few, pk__law_few, ar1, bind_as, flb_bind, finish1_bind, R.bind_ok, d1_one, show bLen m.given = .ok (.int (m.n : Nat)) from by rw [Mt.given, bLen_lst, List.length_map, lr], asInt_int, rg, chk_true, rgD_nat, bTuple_lst, noErr_ok, tl0, if_T, show D.tup ((List.range m.n).map nD) = tD (List.range m.n) from rfl, keyT_t, opt_some, tl1, i0, bLen_lst, List.length_map, r0, chk_rg m.k hk, decide_true, chk_true]
  have step1 : ∀ (T0 T : List (List Nat × List Nat)) (L : List (List Nat)) (k : List Nat), Tab m T → L.length ≤ T.length → keys T = keys T0 ++ L → k ∈ keys T0 → True := fun _ _ _ _ _ _ _ _ => trivial
  refine while_run (P := fun r => ∃ T, finish1 r = .ok (.dcT (T.map kv)) ∧ Few m T) (fun (a : List (List Key × D) × D) (_ : Unit) => ∃ (T : List (List Nat × List Nat)) (Fr : List (List Nat)), a = (T.map kv, .lst (Fr.map tD)) ∧ Tab m T ∧ (∀ k ∈ Fr, k ∈ keys T) ∧ Fr.length ≤ T.length ∧ ker (eff m []) ∈ keys T ∧ ∀ k ∈ keys T, k ∉ Fr → ∀ c, c < m.k → succ m k c ∈ keys T)
    (fun a _ => msF a) (fun a s ⟨T, Fr, ha, t, hF, hFl, hI, hp⟩ => ?_) 1000 _ _ ⟨[(List.range m.n, [])], [List.range m.n], rfl, ⟨by simp [keys], fun p hp => ?_⟩, by simp [keys], by simp, by rw [eI]; simp [keys], fun k hk hn' => ?_⟩ (by simp [msF, isE])
  rotate_left
  · rw [List.mem_singleton.mp hp]
    exact ⟨fun c hc => (by cases hc), eI.symm, by simp⟩
  · simp [keys] at hk hn'
    exact absurd hk hn'
  subst ha
  have tl := t.len hn
  have cF : ∀ d ∈ Fr.map tD, Cmp d := fun d hd => by
    obtain ⟨k, hk, rfl⟩ := List.mem_map.mp hd
    exact tD_cmp hn (t.key (hF k hk))
  by_cases c : Fr = []
  · subst c
    refine .inl ⟨by simp [ne_nilC], T, rfl, ⟨t, fun w => ?_⟩⟩
    have hp' : ∀ k ∈ keys T, ∀ c, c < m.k → succ m k c ∈ keys T := fun k hk => hp k hk (by simp)
    induction w with
    | nil => exact fun _ => hI
    | cons c w ih =>
      intro hw
      rw [← succ_eq hm (hw c (List.mem_cons_self ..))]
      exact hp' _ (ih fun x hx => hw x (List.mem_cons_of_mem _ hx)) c (hw c (List.mem_cons_self ..))
  · refine .inr ⟨by simp [ne_nilC cF, c], ?_⟩
    simp only [asItems_lst, R.bind_ok]
    refine forL_run' (P := fun (r : R (Fl (List (List Key × D) × D) (List (List Key × D) × D) × Unit)) => ∃ a' s', r = .ok (.nx a', s') ∧ (∃ (T' : List (List Nat × List Nat)) (Fr' : List (List Nat)), a' = (T'.map kv, .lst (Fr'.map tD)) ∧ Tab m T' ∧ (∀ k ∈ Fr', k ∈ keys T') ∧ Fr'.length ≤ T'.length ∧ ker (eff m []) ∈ keys T' ∧ ∀ k ∈ keys T', k ∉ Fr' → ∀ c, c < m.k → succ m k c ∈ keys T') ∧ msF a' < msF (T.map kv, .lst (Fr.map tD)))
      (fun (pre : List (List Nat)) (b : List (List Key × D) × List D) (_ : Unit) => ∃ (T1 : List (List Nat × List Nat)) (L : List (List Nat)), b = (T1.map kv, L.map tD) ∧ Tab m T1 ∧ L.length ≤ T1.length ∧ keys T1 = keys T ++ L ∧ ∀ k ∈ pre, ∀ c, c < m.k → succ m k c ∈ keys T1) ?_ ?_ ?_
    · exact ⟨T, [], rfl, t, Nat.zero_le _, by simp, by simp⟩
    · intro pre k post b s ez ⟨T1, L, hb, t1, hl, hks, hpr⟩
      subst hb
      have hkF : k ∈ Fr := by rw [ez]; simp
      refine forL_run' (P := fun (r : R (Fl (List (List Key × D) × List D) (List (List Key × D) × List D) × Unit)) => ∃ a' s', r = .ok (.nx a', s') ∧ ∃ (T1 : List (List Nat × List Nat)) (L : List (List Nat)), a' = (T1.map kv, L.map tD) ∧ Tab m T1 ∧ L.length ≤ T1.length ∧ keys T1 = keys T ++ L ∧ ∀ k' ∈ pre ++ [k], ∀ c, c < m.k → succ m k' c ∈ keys T1)
        (fun (pre2 : List Nat) (b : List (List Key × D) × List D) (_ : Unit) => ∃ (T1 : List (List Nat × List Nat)) (L : List (List Nat)), b = (T1.map kv, L.map tD) ∧ Tab m T1 ∧ L.length ≤ T1.length ∧ keys T1 = keys T ++ L ∧ (∀ k ∈ pre, ∀ c, c < m.k → succ m k c ∈ keys T1) ∧ ∀ c ∈ pre2, succ m k c ∈ keys T1) ?_ ?_ ?_
      · exact ⟨T1, L, rfl, t1, hl, hks, hpr, by simp⟩
      · intro pre2 c post2 b s2 ez2 ⟨T2, L2, hb, t2, hl2, hks2, hpr2, hpc⟩
        subst hb
        have hc : c < m.k := by
          have : c ∈ List.range m.k := by rw [ez2]; simp
          simpa using this
        obtain ⟨T', L', t', ⟨X, hX, hLX⟩, hin, hl', e⟩ := few_body hm hn t2 L2 hl2 (k := k) (by rw [hks2]; exact List.mem_append_left _ (hF k hkF)) hc s2
        refine ⟨_, s2, e, T', L', rfl, t', hl', by rw [hX, hks2, hLX, List.append_assoc], fun k' hk' c' hc' => ?_, fun c' hc' => ?_⟩
        · rw [hX]; exact List.mem_append_left _ (hpr2 k' hk' c' hc')
        · rcases List.mem_append.mp hc' with h | h
          · rw [hX]; exact List.mem_append_left _ (hpc c' h)
          · rw [List.mem_singleton.mp h]; exact hin
      · intro b s2 ⟨T2, L2, hb, t2, hl2, hks2, hpr2, hpc⟩
        subst hb
        refine ⟨_, s2, rfl, T2, L2, rfl, t2, hl2, hks2, fun k' hk' c hc => ?_⟩
        rcases List.mem_append.mp hk' with h | h
        · exact hpr2 k' h c hc
        · rw [List.mem_singleton.mp h]; exact hpc c (by simpa using hc)
    · intro b s ⟨T1, L, hb, t1, hl, hks, hpr⟩
      subst hb
      refine ⟨_, s, rfl, ⟨T1, L, rfl, t1, fun k hk => by rw [hks]; exact List.mem_append_right _ hk, hl, by rw [hks]; exact List.mem_append_left _ hI, fun k hk hnk c hc => ?_⟩, ?_⟩
      · rw [hks] at hk
        rcases List.mem_append.mp hk with h | h
        · by_cases cf : k ∈ Fr
          · exact hpr k cf c hc
          · rw [hks]; exact List.mem_append_left _ (hp k h cf c hc)
        · exact absurd h hnk
      · have tl1 := t1.len hn
        have e1 : T1.length = T.length + L.length := by
          have := congrArg List.length hks
          simpa [keys] using this
        obtain ⟨f0, Fr', rfl⟩ := List.exists_cons_of_ne_nil c
        simp only [msF, isE, List.length_map, List.map_cons]
        cases L with
        | nil => simp; simp at e1; omega
        | cons l L => simp at e1 ⊢; omega
/-! ### blind -/
def blindQ (m : Mt) (k : List Nat) : Bool := (List.range m.n).any fun s => (List.range m.k).any fun c => !decide (k.getD (step m s c) 0 = k.getD (step m (k.getD s 0) c) 0)
theorem some_any {α : Type} (b : α → Bool) : ∀ xs : List α, (xs.findSome? fun x => if b x = true then some (D.bl true) else none) = if xs.any b = true then some (D.bl true) else none
  | [] => rfl
  | x :: xs => by
    rw [List.findSome?_cons, List.any_cons]
    cases b x with
    | true => rfl
    | false =>
      simp only [Bool.false_eq_true, if_false, Bool.false_or]
      exact some_any b xs
theorem forL_any {α : Type} {f : D → Unit → Unit → R (Fl Unit Unit × Unit)} {enc : α → D} (b : α → Bool) (xs : List α) (h : ∀ x ∈ xs, f (enc x) () () = if b x = true then .ok (.rt (.bl true), ()) else .ok (.nx (), ())) :
    (forL (γ := Unit) f (xs.map enc) () () : R (Fl Unit Unit × Unit)) = if xs.any b = true then .ok (.rt (.bl true), ()) else .ok (.nx (), ()) := by
  rw [forL_some (q := fun x => if b x = true then some (D.bl true) else none) xs fun x hx => ?_]
  · rw [some_any]
    cases xs.any b <;> rfl
  · rw [h x hx]
    split <;> rfl
theorem blind_ok {m : Mt} (hm : m.Ok) (hn : m.n ≤ 6) (hk : m.k < 1000) {T : List (List Nat × List Nat)} (t : Tab m T) : m__law_blind [m.given, .dcT (T.map kv)] = .ok (.bl ((keys T).any (blindQ m))) := by
  have lr : m.st.length = m.n := hm.2.2.1
  have h0 : 0 < m.st.length := by have := hm.2.1; omega
  have r0 : m.st[0].length = m.k := (hm.2.2.2 _ (List.getElem_mem h0)).1
  have i0 : opIx m.given (.int 0) = .ok (.lst (m.st[0].map nD)) := by
    rw [Mt.given, show (0 : Int) = ((0 : Nat) : Int) from rfl, ix_nat _ 0 (by simpa using h0)]; simp
  have ixr := fun {s c : Nat} (hs : s < m.n) (hc : c < m.k) => ix_row hm hs hc true true
  simp only [sqD, if_true] at ixr
  rw [show D.lst (m.st.map fun r => D.lst (r.map nD)) = m.given from rfl] at ixr
  have go : ∀ {a b c : Nat} {k : D → R (Fl Unit Unit × Unit)}, ((opIx m.given (nD a)).bind fun x => opIx x (nD b)) = .ok (nD c) → ((opIx m.given (nD a)).bind fun x => (opIx x (nD b)).bind k) = k (nD c) := fun {a b c k} h => by
    rw [← bind_as, h]; rfl
  have eK : (T.map kv).map (fun kv => D.tup (kv.1.map dKey)) = (keys T).map tD := by
    unfold keys
    rw [List.map_map, List.map_map]
    refine List.map_congr_left fun p _ => ?_
    simp [kv, dkey_kk, tD]
  simp only [m__law_blind, pk__law_blind, ar2, bind_as, flb_bind, finish1_bind, R.bind_ok, d1_one, show bList (.dcT (T.map kv)) = .ok (.lst ((keys T).map tD)) from by rw [← eK]; rfl, asItems_lst, show bLen m.given = .ok (.int (m.n : Nat)) from by rw [Mt.given, bLen_lst, List.length_map, lr], asInt_int, chk_rg m.n (by omega), rgD_nat, i0, bLen_lst, List.length_map, r0, chk_rg m.k hk]
  rw [forL_any (b := blindQ m) (keys T) fun k hk' => ?_]
  · cases (keys T).any (blindQ m) <;> rfl
  · obtain ⟨w, hw, ek⟩ := t.key hk'
    have lk : k.length = m.n := by rw [ek, ker_len, eff_len]
    have kle : ∀ i, i < m.n → k.getD i 0 < m.n := fun i hi => by
      have := ker_le (xs := eff m w) (i := i) (by rw [eff_len]; exact hi)
      rw [ek]; omega
    rw [forL_any (b := fun s => (List.range m.k).any fun c => !decide (k.getD (step m s c) 0 = k.getD (step m (k.getD s 0) c) 0)) (List.range m.n) fun s hs => ?_]
    · unfold blindQ
      split <;> rfl
    · have hs' : s < m.n := by simpa using hs
      simp only [tD, ixn_tup k (show s < k.length by omega), R.bind_ok]
      rw [forL_any (b := fun c => !decide (k.getD (step m s c) 0 = k.getD (step m (k.getD s 0) c) 0)) (List.range m.k) fun c hc => ?_]
      · split <;> rfl
      · have hc' : c < m.k := by simpa using hc
        have s1 := step_lt hm hs' hc'
        have s2 := step_lt hm (kle s hs') hc'
        rw [go (ixr hs' hc'), ixn_tup k (by omega), R.bind_ok, go (ixr (kle s hs') hc'), ixn_tup k (by omega)]
        simp only [R.bind_ok, ne_nD, asBool_bl]
        split <;> rfl
end Gk21
set_option linter.all false
set_option maxHeartbeats 4000000
namespace Gk21
open PySem Pv L2
/-! ### what is free -/
def FreeP (m : Mt) (c : Nat) (w : List Nat) : Prop := ∀ s, s < m.n → ∀ o, o < m.k → run m (step m (step m s c) o) w = run m (step m (step m s o) c) w
def isFree (m : Mt) (c : Nat) (w : List Nat) : Bool := (clashO m c (eff m w)).isNone
theorem unlike_eq {m : Mt} (hm : m.Ok) {w : List Nat} {c s o : Nat} (hs : s < m.n) (hc : c < m.k) (ho : o < m.k) : unlike m c (eff m w) s o = !decide (run m (step m (step m s c) o) w = run m (step m (step m s o) c) w) := by
  unfold unlike
  rw [eff_get (step_lt hm (step_lt hm hs hc) ho), eff_get (step_lt hm (step_lt hm hs ho) hc)]
theorem free_iff {m : Mt} (hm : m.Ok) {w : List Nat} {c : Nat} (hc : c < m.k) : isFree m c w = true ↔ FreeP m c w := by
  unfold isFree clashO
  rw [Option.isNone_iff_eq_none, List.findSome?_eq_none_iff]
  refine ⟨fun h s hs o ho => ?_, fun h s hs => ?_⟩
  · have z := h s (by simpa using hs)
    unfold clashQ at z
    rw [List.findSome?_eq_none_iff] at z
    have z := z o (by simpa using ho)
    rw [unlike_eq hm hs hc ho] at z
    apply Classical.byContradiction
    intro n
    simp [n] at z
  · have hs' : s < m.n := by simpa using hs
    unfold clashQ
    rw [List.findSome?_eq_none_iff]
    intro o ho
    have ho' : o < m.k := by simpa using ho
    rw [unlike_eq hm hs' hc ho']
    simp [h s hs' o ho']
theorem some_congr {α β : Type} {f g : α → Option β} : ∀ {xs : List α}, (∀ x ∈ xs, f x = g x) → xs.findSome? f = xs.findSome? g
  | [], _ => rfl
  | x :: xs, h => by
    rw [List.findSome?_cons, List.findSome?_cons, h x (List.mem_cons_self ..), some_congr fun y hy => h y (List.mem_cons_of_mem _ hy)]
theorem clash_same {m : Mt} (hm : m.Ok) {w w' : List Nat} {c : Nat} (hc : c < m.k) (h : ker (eff m w) = ker (eff m w')) : clashO m c (eff m w) = clashO m c (eff m w') := by
  unfold clashO
  refine some_congr fun s hs => ?_
  have hs' : s < m.n := by simpa using hs
  unfold clashQ
  refine some_congr fun o ho => ?_
  have ho' : o < m.k := by simpa using ho
  have a := step_lt hm (step_lt hm hs' hc) ho'
  have b := step_lt hm (step_lt hm hs' ho') hc
  have e : unlike m c (eff m w) s o = unlike m c (eff m w') s o := by
    unfold unlike
    have k1 := ker_same (xs := eff m w) (by rw [eff_len]; exact a) (by rw [eff_len]; exact b)
    have k2 := ker_same (xs := eff m w') (by rw [eff_len]; exact a) (by rw [eff_len]; exact b)
    rw [← h] at k2
    have := k1.symm.trans k2
    by_cases q : (eff m w).getD (step m (step m s c) o) 0 = (eff m w).getD (step m (step m s o) c) 0
    · rw [decide_eq_true q, decide_eq_true (this.mp q)]
    · rw [decide_eq_false q, decide_eq_false fun z => q (this.mpr z)]
  rw [e]
def NotBlind (m : Mt) : Prop := ∀ w, Rw m w → ∀ s t, s < m.n → t < m.n → run m s w = run m t w → ∀ c, c < m.k → run m (step m s c) w = run m (step m t c) w
theorem not_blind {m : Mt} (hm : m.Ok) {T : List (List Nat × List Nat)} (t : Few m T) (h : (keys T).any (blindQ m) = false) : NotBlind m := by
  intro w hw s u hs hu e c hc
  have hk := t.all w hw
  have hb := List.any_eq_false.mp h _ hk
  have key : ∀ s, s < m.n → run m (step m s c) w = run m (step m ((ker (eff m w)).getD s 0) c) w := fun s hs => by
    have ls : (ker (eff m w)).getD s 0 < m.n := by
      have := ker_le (xs := eff m w) (i := s) (by rw [eff_len]; exact hs)
      omega
    have z : ¬ ((List.range m.k).any fun c => !decide ((ker (eff m w)).getD (step m s c) 0 = (ker (eff m w)).getD (step m ((ker (eff m w)).getD s 0) c) 0)) = true := fun y => hb (List.any_eq_true.mpr ⟨s, by simpa using hs, y⟩)
    have z2 := List.any_eq_false.mp (Bool.eq_false_iff.mpr z) c (by simpa using hc)
    have z3 : (ker (eff m w)).getD (step m s c) 0 = (ker (eff m w)).getD (step m ((ker (eff m w)).getD s 0) c) 0 := by simpa using z2
    rw [ker_same (by rw [eff_len]; exact step_lt hm hs hc) (by rw [eff_len]; exact step_lt hm ls hc), eff_get (step_lt hm hs hc), eff_get (step_lt hm ls hc)] at z3
    exact z3
  have same : (ker (eff m w)).getD s 0 = (ker (eff m w)).getD u 0 := by
    rw [ker_same (by rw [eff_len]; exact hs) (by rw [eff_len]; exact hu), eff_get hs, eff_get hu]
    exact e
  rw [key s hs, key u hu, same]
def Within (m : Mt) (w w' : List Nat) : Prop := ∀ s t, s < m.n → t < m.n → run m s w = run m t w → run m s w' = run m t w'
theorem run_app (m : Mt) (s : Nat) (u v : List Nat) : run m s (u ++ v) = run m (run m s u) v := by simp [run]
theorem within_ins {m : Mt} (hm : m.Ok) (nb : NotBlind m) {u v : List Nat} {c : Nat} (hu : Rw m u) (hv : Rw m v) (hc : c < m.k) : Within m (u ++ v) (u ++ [c] ++ v) := by
  intro s t hs ht e
  simp only [run_app] at e ⊢
  exact nb v hv _ _ (run_lt hm hs hu) (run_lt hm ht hu) e c hc
theorem Within.trans {m : Mt} {a b c : List Nat} (h : Within m a b) (k : Within m b c) : Within m a c := fun s t hs ht e => k s t hs ht (h s t hs ht e)
theorem FreeP.within {m : Mt} (hm : m.Ok) {c : Nat} (hc : c < m.k) {w w' : List Nat} (f : FreeP m c w) (h : Within m w w') : FreeP m c w' := fun s hs o ho =>
  h _ _ (step_lt hm (step_lt hm hs hc) ho) (step_lt hm (step_lt hm hs ho) hc) (f s hs o ho)
theorem commute {m : Mt} (hm : m.Ok) (nb : NotBlind m) {c : Nat} (hc : c < m.k) {w : List Nat} (hw : Rw m w) (f : FreeP m c w) : ∀ (a : List Nat), Rw m a → (Within m w (a ++ w)) ∧ ∀ s, s < m.n → run m s (a ++ [c] ++ w) = run m s ([c] ++ a ++ w)
  | [], _ => ⟨fun s t _ _ e => e, fun s _ => rfl⟩
  | x :: a, h => by
    have hx := h x (List.mem_cons_self ..)
    have ha : Rw m a := fun y hy => h y (List.mem_cons_of_mem _ hy)
    obtain ⟨i1, i2⟩ := commute hm nb hc hw f a ha
    have haw : Rw m (a ++ w) := fun y hy => (List.mem_append.mp hy).elim (ha y) (hw y)
    refine ⟨i1.trans ?_, fun s hs => ?_⟩
    · exact within_ins hm nb (u := []) (v := a ++ w) (fun y hy => by cases hy) haw hx
    · have e := i2 (step m s x) (step_lt hm hs hx)
      have fr := f.within hm hc i1 s hs x hx
      have l : run m s (x :: a ++ [c] ++ w) = run m (step m s x) (a ++ [c] ++ w) := rfl
      rw [l, e]
      show run m (step m (step m s x) c) (a ++ w) = run m (step m (step m s c) x) (a ++ w)
      exact fr.symm
/-! ### the program's -/
theorem clash_behind_ok {m : Mt} (hm : m.Ok) (hn : m.n < 1000) (hk : m.k < 1000) (c : Nat) (hc : c < m.k) (f : List Nat) (hf : f.length = m.n) : m_clash_behind [m.obj, nD c, .tpN (f.map nD)] = .ok (clashD m c f) := by
  have ixr := fun {s c : Nat} (hs : s < m.n) (hc : c < m.k) => ix_row hm hs hc false false
  simp only [sqD, Bool.false_eq_true, if_false] at ixr
  generalize hS : D.tup (m.st.map fun r => D.tup (r.map nD)) = S at ixr
  have at1 : attrD (Str.ofString "Machine") (Str.ofString "steps") m.obj = .ok S := by rw [← hS]; rfl
  have c1 : ∀ {α : Type} (f : List D → R α), (chk (rgSm (m.n : Int)) (rgD 0 (m.n : Int))).bind f = f ((List.range m.n).map nD) := fun f => by rw [chk_rg m.n hn, rgD_nat]; rfl
  have c2 : ∀ {α : Type} (f : List D → R α), (chk (rgSm (m.k : Int)) (rgD 0 (m.k : Int))).bind f = f ((List.range m.k).map nD) := fun f => by rw [chk_rg m.k hk, rgD_nat]; rfl
  have ai : ∀ n : Nat, asInt (nD n) = .ok (n : Int) := fun _ => rfl
  simp only [m_clash_behind, pk_clash_behind, ar3, bind_as, flb_bind, finish1_bind, R.bind_ok, m.at_states, m.at_commands, at1, ai, c1, c2]
  rw [forL_some (q := clashQ m c f) (List.range m.n) fun s hs => ?_]
  · show finish1 (flb (match clashO m c f with | some d => R.ok (Fl.rt d, ()) | none => R.ok (Fl.nx (), ())) _) = .ok ((clashO m c f).getD .non)
    cases clashO m c f <;> rfl
  · have hs' : s < m.n := by simpa using hs
    rw [forL_some (q := fun o => if unlike m c f s o = true then some (D.tup [nD s, nD o]) else none) (List.range m.k) fun o ho => ?_]
    · show flb (match clashQ m c f s with | some d => R.ok (Fl.rt d, ()) | none => R.ok (Fl.nx (), ())) _ = _
      cases clashQ m c f s <;> rfl
    · have ho' : o < m.k := by simpa using ho
      have s1 := step_lt hm hs' hc
      have s2 := step_lt hm hs' ho'
      have s3 := step_lt hm s1 ho'
      have s4 := step_lt hm s2 hc
      have go : ∀ {a b c : Nat} {k : D → R (Fl Unit Unit × Unit)}, ((opIx S (nD a)).bind fun x => opIx x (nD b)) = .ok (nD c) → ((opIx S (nD a)).bind fun x => (opIx x (nD b)).bind k) = k (nD c) := fun {a b c k} h => by
        rw [← bind_as, h]; rfl
      rw [go (ixr hs' hc), go (ixr s1 ho'), go (ixr hs' ho'), go (ixr s2 hc), ixn_tpN f (by omega), R.bind_ok, ixn_tpN f (by omega)]
      simp only [R.bind_ok, ne_nD, asBool_bl, tl2, if_T]
      show flb (if unlike m c f s o = true then _ else _) _ = _
      cases unlike m c f s o <;> rfl
theorem clash_cases (m : Mt) (c : Nat) (f : List Nat) : clashD m c f = .non ∧ clashO m c f = none ∨ ∃ s o, s < m.n ∧ o < m.k ∧ clashD m c f = .tup [nD s, nD o] ∧ clashO m c f = some (.tup [nD s, nD o]) := by
  unfold clashD
  cases e : clashO m c f with
  | none => exact .inl ⟨rfl, rfl⟩
  | some d =>
    right
    unfold clashO at e
    obtain ⟨s, hs, e2⟩ := List.exists_of_findSome?_eq_some e
    unfold clashQ at e2
    obtain ⟨o, ho, e3⟩ := List.exists_of_findSome?_eq_some e2
    by_cases q : unlike m c f s o = true
    · rw [if_pos q] at e3
      cases e3
      exact ⟨s, o, by simpa using hs, by simpa using ho, rfl, rfl⟩
    · rw [if_neg q] at e3; cases e3
theorem clash_un (m : Mt) (c : Nat) (f : List Nat) : unfre (clashD m c f) = clashD m c f := by
  rcases clash_cases m c f with ⟨e, _⟩ | ⟨s, o, _, _, e, _⟩ <;> rw [e] <;> rfl
theorem clash_non (m : Mt) (c : Nat) (w : List Nat) : opIs (clashD m c (eff m w)) .non = .ok (.bl (isFree m c w)) := by
  unfold isFree
  rcases clash_cases m c (eff m w) with ⟨e, e2⟩ | ⟨s, o, _, _, e, e2⟩ <;> rw [e, e2] <;> rfl
theorem clash_sh {m : Mt} (hn : m.n ≤ 6) (hk : m.k < 1000) (c : Nat) (f : List Nat) : Sh 1 100 (clashD m c f) := by
  rcases clash_cases m c f with ⟨e, _⟩ | ⟨s, o, hs, ho, e, _⟩
  · rw [e]; exact .non (by decide)
  · rw [e]
    refine .tup (k := 0) (n := 19) (fun d hd => ?_) (by simp)
    simp only [List.mem_cons, List.not_mem_nil, or_false] at hd
    rcases hd with rfl | rfl
    · exact .int (by omega) (by decide)
    · exact .int (by omega) (by decide)
theorem clash_prog {m : Mt} (hm : m.Ok) (hn : m.n < 1000) (hk : m.k < 1000) (b : Bool) (row : List Nat) (hr : Rw m row) (c : Nat) (hc : c < m.k) : m_clash [m.obj, nD c, sqD b (row.map nD)] = .ok (clashD m c (eff m row)) := by
  simp only [m_clash, pk_clash, ar3, bind_as, flb_bind, finish1_bind, R.bind_ok, m.at_commands, callM2, callM3, show m_is_index [nD c, nD m.k] = .ok (.bl true) from by rw [nD, nD, is_index_int]; simp [hc], unfre_bl, asBool_bl, not_tt, if_ff, flb_nx, effect_ok hm hn b row hr, show ∀ xs, unfre (.tpN xs) = .tpN xs from fun _ => rfl, clash_behind_ok hm hn hk c hc (eff m row) (eff_len m row), clash_un]
  rfl
theorem is_free_prog {m : Mt} (hm : m.Ok) (hn : m.n < 1000) (hk : m.k < 1000) (b : Bool) (row : List Nat) (hr : Rw m row) (c : Nat) (hc : c < m.k) : m_is_free [m.obj, nD c, sqD b (row.map nD)] = .ok (.bl (isFree m c row)) := by
  simp only [m_is_free, pk_is_free, ar3, bind_as, flb_bind, finish1_bind, R.bind_ok, callM3, clash_prog hm hn hk b row hr c hc, clash_un, clash_non]
  rfl
def frees (m : Mt) (w : List Nat) : List Nat := (List.range m.k).filter fun c => isFree m c w
theorem free_commands_ok {m : Mt} (hm : m.Ok) (hn : m.n < 1000) (hk : m.k < 1000) (b : Bool) (row : List Nat) (hr : Rw m row) : m_free_commands [m.obj, sqD b (row.map nD)] = .ok (.tup ((frees m row).map nD)) := by
  have c2 : ∀ {α : Type} (f : List D → R α), (chk (rgSm (m.k : Int)) (rgD 0 (m.k : Int))).bind f = f ((List.range m.k).map nD) := fun f => by rw [chk_rg m.k hk, rgD_nat]; rfl
  have ai : ∀ n : Nat, asInt (nD n) = .ok (n : Int) := fun _ => rfl
  simp only [m_free_commands, pk_free_commands, ar2, bind_as, flb_bind, finish1_bind, R.bind_ok, callM2, callM3, effect_ok hm hn b row hr, m.at_commands, ai, c2, List.length_map, chk_rgl m.k hk, show ∀ xs, unfre (.tpN xs) = .tpN xs from fun _ => rfl]
  rw [lc_filter (q := fun c => isFree m c row) (g := nD) (fun c hc τ => by
    simp only [lcT, partName_d, opt_some, R.bind_ok, ar1_one, clash_behind_ok hm hn hk c (by simpa using hc) (eff m row) (eff_len m row), clash_un, clash_non, asBool_bl]
    cases isFree m c row <;> rfl)]
  rfl
theorem law_frees_ok {m : Mt} (hm : m.Ok) (hn : m.n < 1000) (hk : m.k < 1000) (row : List Nat) (s : Deal) :
    lcL (lcT partName (ar1 (fun x => R.bad) fun v27 s => (m__law_clash [m.given, v27, .tpN ((eff m row).map nD)]).bind fun a => (opIs (unfre a) D.non).bind fun d => (asBool d).bind fun c => R.ok (c, s)) (ar1 (fun x => R.bad) fun v27 s => R.ok (v27, s))) ((List.range m.k).map nD) s = .ok ((frees m row).map nD, s) := by
  rw [lc_filter (q := fun c => isFree m c row) (g := nD) (fun c hc τ => by
    simp only [lcT, partName_d, opt_some, R.bind_ok, ar1_one, clash_ok hm hn hk c (by simpa using hc) (eff m row) (eff_len m row), clash_un, clash_non, asBool_bl]
    cases isFree m c row <;> rfl)]
  rfl
/-! ### wrong rows -/
theorem row_loop {β : Type} (m : Mt) (f : D → Unit → Unit → R (Fl Unit Unit × Unit)) (hf : ∀ (i : Nat) (c : Nat), c < m.k → f (.tup [.int (i : Nat), nD c]) () () = .ok (.nx (), ())) :
    ∀ (pre : List Nat) (n : Nat) (rest : List D), Rw m pre → (forL (γ := β) f (enF id n (pre.map nD ++ rest)) () () : R (Fl Unit β × Unit)) = forL f (enF id (n + pre.length) rest) () ()
  | [], n, rest, _ => by simp
  | c :: pre, n, rest, h => by
    rw [List.map_cons, List.cons_append, enF_cons, forL_cons]
    simp only [id]
    rw [hf n c (h c (List.mem_cons_self ..)), R.bind_ok]
    have := row_loop (β := β) m f hf pre (n + 1) rest fun x hx => h x (List.mem_cons_of_mem _ hx)
    rw [show n + (c :: pre).length = n + 1 + pre.length by simp; omega]
    exact this
theorem enD_id' (xs : List D) : enD xs = enF id 0 xs := by
  have := enD_enF id xs
  rwa [List.map_id] at this
theorem checked_row_err (m : Mt) (pre : List Nat) (hp : Rw m pre) (d : D) (rest : List D) (hd : Pl d) (hx : isIx m.k d = false) : m_checked_row [m.obj, .lst (pre.map nD ++ d :: rest)] = .err "InvalidRow" (.int pre.length) := by
  simp only [m_checked_row, pk_checked_row, ar2, bind_as, flb_bind, finish1_bind, R.bind_ok, callM1, callM2, is_seq_lst, unfre_bl, asBool_bl, not_tt, if_ff, flb_nx, asItems_lst, enD_id']
  rw [row_loop m _ (fun i c hc => by
    simp only [pair2, m.at_commands, R.bind_ok, show m_is_index [nD c, nD m.k] = .ok (.bl true) from by rw [nD, nD, is_index_int]; simp [hc], unfre_bl, asBool_bl, not_tt, if_ff, flb_nx]) pre 0 (d :: rest) hp]
  rw [enF_cons, forL_cons]
  simp only [id, pair2, m.at_commands, R.bind_ok, show m_is_index [d, nD m.k] = .ok (.bl false) from by rw [show nD m.k = .int (m.k : Nat) from rfl, is_index_d d m.k hd, hx], unfre_bl, asBool_bl, not_ff, if_tt, Nat.zero_add]
  rfl
theorem checked_row_no (m : Mt) (d : D) (h : d = .non ∨ ∃ z, d = .str z) : m_checked_row [m.obj, d] = .err "InvalidRow" (.int 0) := by
  rcases h with rfl | ⟨z, rfl⟩ <;> rfl
theorem effect_bad {m : Mt} {r : D} {n : Nat} (h : m_checked_row [m.obj, r] = .err "InvalidRow" (.int n)) : m_effect [m.obj, r] = .err "InvalidRow" (.int n) := by
  simp only [m_effect, pk_effect, ar2, bind_as, flb_bind, finish1_bind, R.bind_ok, callM2, h]
  rfl
theorem clash_bad {m : Mt} {r : D} {n : Nat} (h : m_checked_row [m.obj, r] = .err "InvalidRow" (.int n)) {c : Nat} (hc : c < m.k) : m_clash [m.obj, nD c, r] = .err "InvalidRow" (.int n) := by
  simp only [m_clash, pk_clash, ar3, bind_as, flb_bind, finish1_bind, R.bind_ok, m.at_commands, callM2, callM3, show m_is_index [nD c, nD m.k] = .ok (.bl true) from by rw [nD, nD, is_index_int]; simp [hc], unfre_bl, asBool_bl, not_tt, if_ff, flb_nx, effect_bad h]
  rfl
theorem clash_ref (m : Mt) (r : D) {d : D} (hd : Pl d) (hx : isIx m.k d = false) : m_clash [m.obj, d, r] = .err "Refused" (.int 0) := by
  simp only [m_clash, pk_clash, ar3, bind_as, flb_bind, finish1_bind, R.bind_ok, m.at_commands, callM2, callM3, show m_is_index [d, nD m.k] = .ok (.bl false) from by rw [show nD m.k = .int (m.k : Nat) from rfl, is_index_d d m.k hd, hx], unfre_bl, asBool_bl, not_ff, if_tt]
  rfl
def ansR (r : R D) : R D := match r with
  | .ok d => .ok (.tup [.str "told", unfre d])
  | .err c d => if excSub c "Refused" = true then .ok (.tup [.str "Refused", d]) else if excSub c "InvalidRow" = true then .ok (.tup [.str "InvalidRow", d]) else .err c d
  | .bad => .bad
theorem answer_eq (w : Int) (mo c r : D) : m__law_answer [.int w, mo, c, r] = ansR (if w = 0 then m_is_free [mo, c, r] else if w = 1 then m_clash [mo, c, r] else m_free_commands [mo, r]) := by
  simp only [m__law_answer, pk__law_answer, ar4, bind_as, flb_bind, finish1_bind, R.bind_ok, eq_int, asBool_bl, decide_eq_true_eq, callM2, callM3, tl2, if_T]
  have fin : ∀ r : R D, finish1 (flb (tryR (r.bind fun d => R.ok (Fl.rt (D.tup [D.str (Str.ofString "told"), unfre d]), ())) [{ k := Str.ofString "Refused", f := fun d => R.ok (Fl.rt (D.tup [D.str (Str.ofString "Refused"), d]), ()) }, { k := Str.ofString "InvalidRow", f := fun d => R.ok (Fl.rt (D.tup [D.str (Str.ofString "InvalidRow"), d]), ()) }] ()) fun (a1 : Unit) s => (R.ok (Fl.nx (), s) : R (Fl Unit Unit × Unit))) = ansR r := fun r => by
    cases r with
    | ok d => rfl
    | bad => rfl
    | err c d =>
      simp only [R.bind_err, ansR, flb_err, tryR, handle]
      split
      · rfl
      · split <;> rfl
  by_cases c0 : w = 0
  · simp only [c0, if_true, flb_bind, flb_rt]
    exact fin _
  simp only [c0, if_false, flb_nx]
  by_cases c1 : w = 1
  · simp only [c1, if_true, flb_bind, flb_rt]
    exact fin _
  simp only [c1, if_false, flb_nx, bind_as]
  exact fin _
end Gk21
set_option linter.all false
set_option maxHeartbeats 4000000
namespace Gk21
open PySem Pv L2
theorem In.sh {n : Int} (hn : n < 1000) {d : D} (h : In n d) : Sh 0 19 d := by
  obtain ⟨i, rfl, i0, i1⟩ := h
  exact .int (by omega) (by decide)
theorem In.cmp {n : Int} (hn : n < 1000) {d : D} (h : In n d) : Cmp d := (h.sh hn).cmp (by decide)
theorem row_ok (k : Nat) (hk : 0 < k) (hk' : k < 100) (l : Int) (l0 : 0 ≤ l) (l1 : l < 100) (dl : Deal) (hl : dl.1.length ≤ 63) :
    ∃ (row : List Nat) (dl' : Deal), m__law_row [.int (k : Nat), .int l] dl = .ok (.tup (row.map nD), dl') ∧ row.length = l.toNat ∧ (∀ c ∈ row, c < k) ∧ dl'.1.length ≤ 63 := by
  have h1 : rgSm l = true := by simp [rgSm]; omega
  simp only [m__law_row, pk__law_row, ar2, bind_as, flb_bind, finish_bind, R.bind_ok, asInt_int, h1, chk_true, rg_chk l (by omega), callL1]
  refine lc_run (P := fun r : R (D × Deal) => ∃ (row : List Nat) (dl' : Deal), r = .ok (D.tup (row.map nD), dl') ∧ row.length = l.toNat ∧ (∀ c ∈ row, c < k) ∧ dl'.1.length ≤ 63) (n := k) (fun s : Deal => s.1.length ≤ 63) hl (fun i i0 i1 s hs => ?_) (fun rs s lr q i => ?_)
  · obtain ⟨v, s', e, v0, v1, l⟩ := any_ok k (by omega) (by omega) s hs
    exact ⟨v, s', by rw [e]; rfl, v0, v1, l⟩
  · obtain ⟨ys, rfl, hy⟩ := ins_map q
    exact ⟨ys, s, rfl, by simpa using lr, hy, i⟩
theorem ix_in {n : Int} {xs : List D} (hl : xs.length = n.toNat) {i : D} (hi : In n i) : ∃ (j : Nat) (h : j < xs.length), i = .int j ∧ opIx (.lst xs) i = .ok xs[j] := by
  obtain ⟨v, rfl, v0, v1⟩ := hi
  obtain ⟨j, rfl⟩ := Int.eq_ofNat_of_zero_le v0
  have hj : j < xs.length := by omega
  exact ⟨j, hj, rfl, ix_nat xs j hj⟩
theorem noLst_in {n : Int} {d : D} (h : In n d) : noLst d = true := by
  obtain ⟨i, rfl, _⟩ := h
  exact noLst_int i
/-- columns as drawn make a machine -/
theorem cols_mt (n : Int) (h0 : 0 < n) (h1 : n < 900) (cs : List D) (hc : cs ≠ []) (hl : cs.length ≤ 4) (h : ∀ c ∈ cs, Col n c) : ∃ m : Mt, m__law_columns [.lst cs] = .ok m.given ∧ m.Ok ∧ m.k = cs.length ∧ m.n = n.toNat := by
  have hp := List.length_pos_iff.mpr hc
  obtain ⟨xs, e0, l0, _⟩ := h cs[0] (List.getElem_mem _)
  have hk : chk (decide (cs.length ≤ 1000000)) cs = .ok cs := by simp [chk]; omega
  have hr : rgSm xs.length = true := by simp [rgSm]; omega
  have main : ∃ rows : List D, m__law_columns [.lst cs] = .ok (.lst rows) ∧ rows.length = n.toNat ∧ ∀ r ∈ rows, Row n cs.length r := by
    simp only [m__law_columns, pk__law_columns, ar1, R.bind_ok, asItems_lst, hk, show opIx (.lst cs) (.int 0) = .ok cs[0] from ix_nat cs 0 hp, e0, d1_one, bLen_lst, asInt_int, hr, chk_true, rg_chk _ (show (xs.length : Int) < 1000 by omega)]
    obtain ⟨rs, s, e, l, q, _⟩ := lcL_inv (ds := rgD 0 xs.length) (s := ()) (Inv := fun _ => True) (Q := Row n cs.length) (f := lcT partName (ar1 (fun x => R.bad) fun v1 s => R.ok (true, s)) (ar1 (fun x => R.bad) fun v1 s => (lcL (lcT partName (ar1 (fun x => R.bad) fun v1 s => R.ok (true, s)) (ar1 (fun x => R.bad) fun v2 s => (opIx v2 v1).bind fun d => R.ok (d, s))) cs s).bind fun q => R.ok (D.lst q.fst, q.snd))) trivial (fun d hd s _ => by
      obtain ⟨i, rfl, i0, i1⟩ := rgD_mem hd
      obtain ⟨j, rfl⟩ := Int.eq_ofNat_of_zero_le i0
      obtain ⟨rs, s', e, l, q, _⟩ := lcL_inv (ds := cs) (s := s) (Inv := fun _ => True) (Q := In n) (f := lcT partName (ar1 (fun x => R.bad) fun v1 s => R.ok (true, s)) (ar1 (fun x => R.bad) fun v2 s => (opIx v2 (.int j)).bind fun d => R.ok (d, s))) trivial (fun c hc s _ => by
        obtain ⟨ys, rfl, ly, qy⟩ := h c hc
        have hj : j < ys.length := by omega
        exact ⟨ys[j], s, by simp [lcT, ix_nat ys j hj], qy _ (List.getElem_mem _), trivial⟩)
      exact ⟨.lst rs, s', by simp [lcT, e], ⟨rs, rfl, l, q⟩, trivial⟩)
    exact ⟨rs, by simp [e], by rw [l, rgD_len]; omega, q⟩
  obtain ⟨rows, er, lr, hr⟩ := main
  obtain ⟨st, rfl, hst⟩ := rows_map (n := n.toNat) (k := cs.length) (rows := rows) (fun r hr' => by
    obtain ⟨xs, e, l, q⟩ := hr r hr'
    exact ⟨xs, e, l, fun x hx => by obtain ⟨i, e, i0, i1⟩ := q x hx; exact ⟨i, e, i0, by omega⟩⟩)
  exact ⟨⟨cs.length, n.toNat, st⟩, er, ⟨hp, by show 0 < n.toNat; omega, by simpa using lr, hst⟩, rfl, rfl⟩
def Stk (d : D) (s : Deal) : Prop := ∃ (m : Mt) (last : List Nat), d = .tup [.int m.k, m.given, .tup (last.map nD)] ∧ m.Ok ∧ m.k ≤ 4 ∧ m.n ≤ 6 ∧ last.length ≤ 3 ∧ Rw m last ∧ s.1.length ≤ 63
theorem guard_pair (kc j : Nat) (hk : kc < 4) (hj : j < 6) : ∃ t : Nat, t < 6 ∧ ∀ (ys : List D), ((opIx (.lst [.lst [if decide ((0 : Int) < (j : Int) / 2) = true then .int 1 else .int 0, .int 1], .lst [if decide ((0 : Int) < (j : Int) / 2) = true then .int 2 else .int 0, .int ((j : Int) % 2)], .lst [.int 0, .int 0], .lst [.int ((j : Int) / 2), .int 0]]) (nD kc)).bind fun a_13 =>
      (opIx a_13 (D.int 0)).bind fun a => (opMul (D.int 2) a).bind fun a => (opIx a_13 (D.int 1)).bind fun a_14 => (opAdd a a_14).bind fun a => opIx (D.lst ys) a) = opIx (.lst ys) (.int (t : Nat)) := by
  obtain rfl | rfl | rfl | rfl : kc = 0 ∨ kc = 1 ∨ kc = 2 ∨ kc = 3 := by omega
  all_goals obtain rfl | rfl | rfl | rfl | rfl | rfl : j = 0 ∨ j = 1 ∨ j = 2 ∨ j = 3 ∨ j = 4 ∨ j = 5 := by omega
  · exact ⟨1, by decide, fun _ => rfl⟩
  · exact ⟨1, by decide, fun _ => rfl⟩
  · exact ⟨3, by decide, fun _ => rfl⟩
  · exact ⟨3, by decide, fun _ => rfl⟩
  · exact ⟨3, by decide, fun _ => rfl⟩
  · exact ⟨3, by decide, fun _ => rfl⟩
  · exact ⟨0, by decide, fun _ => rfl⟩
  · exact ⟨1, by decide, fun _ => rfl⟩
  · exact ⟨4, by decide, fun _ => rfl⟩
  · exact ⟨5, by decide, fun _ => rfl⟩
  · exact ⟨4, by decide, fun _ => rfl⟩
  · exact ⟨5, by decide, fun _ => rfl⟩
  · exact ⟨0, by decide, fun _ => rfl⟩
  · exact ⟨0, by decide, fun _ => rfl⟩
  · exact ⟨0, by decide, fun _ => rfl⟩
  · exact ⟨0, by decide, fun _ => rfl⟩
  · exact ⟨0, by decide, fun _ => rfl⟩
  · exact ⟨0, by decide, fun _ => rfl⟩
  · exact ⟨0, by decide, fun _ => rfl⟩
  · exact ⟨0, by decide, fun _ => rfl⟩
  · exact ⟨2, by decide, fun _ => rfl⟩
  · exact ⟨2, by decide, fun _ => rfl⟩
  · exact ⟨4, by decide, fun _ => rfl⟩
  · exact ⟨4, by decide, fun _ => rfl⟩
theorem if_pair {α τ : Type} (b : Bool) (x y : α) (s : τ) {β : Type} (k : α × τ → R β) : (if b = true then (R.ok (x, s) : R (α × τ)) else R.ok (y, s)).bind k = k (if b = true then x else y, s) := by cases b <;> rfl
theorem guarded_ok (dl : Deal) (hl : dl.1.length ≤ 63) : ∃ d dl', m__law_guarded [] dl = .ok (d, dl') ∧ Stk d dl' := by
  obtain ⟨ys, d1', hpy, e1, l1⟩ := mixed_ok (.lst [.int 0, .int 1, .int 2, .int 3, .int 4, .int 5]) [.int 0, .int 1, .int 2, .int 3, .int 4, .int 5] rfl (by simp) (fun d hd => by
    simp only [List.mem_cons, List.not_mem_nil, or_false] at hd
    rcases hd with rfl | rfl | rfl | rfl | rfl | rfl <;> exact ((Sh.int (k := 0) (by decide) (Nat.le_refl _)).cmp (by decide))) dl hl
  have hyl : ys.length = (6 : Int).toNat := by rw [hpy.length_eq]; rfl
  have hyi : ∀ y ∈ ys, In 6 y := fun y hy => by
    have := hpy.subset hy
    simp only [List.mem_cons, List.not_mem_nil, or_false] at this
    rcases this with rfl | rfl | rfl | rfl | rfl | rfl <;> exact ⟨_, rfl, by decide, by decide⟩
  obtain ⟨zs, d2', hpz, e2, l2⟩ := mixed_ok (.lst [.int 0, .int 1, .int 2, .int 3]) [.int 0, .int 1, .int 2, .int 3] rfl (by simp) (fun d hd => by
    simp only [List.mem_cons, List.not_mem_nil, or_false] at hd
    rcases hd with rfl | rfl | rfl | rfl <;> exact ((Sh.int (k := 0) (by decide) (Nat.le_refl _)).cmp (by decide))) d1' l1
  obtain ⟨ks, rfl, hks⟩ := perm_map (enc := nD) hpz (xs := [0, 1, 2, 3]) rfl
  have kl : ks.length = 4 := hks.length_eq
  have klt : ∀ c ∈ ks, c < 4 := fun c hc => by
    have := hks.subset hc
    simp at this
    omega
  have kin : ∀ c, c < 4 → c ∈ ks := fun c hc => hks.symm.subset (by simp; omega)
  simp only [m__law_guarded, pk__law_guarded, bind_as, flb_bind, finish_bind, R.bind_ok, callL1, tl6, tl4, if_T, e1, asFre_fre, decide_true, tl0, chk_true, e2, unfre_fre, noErr_ok, asItems_lst, asInt_int, show chk (rgSm 6) (rgD 0 6) = .ok ((List.range 6).map nD) from rfl]
  refine forL_run' (P := fun (r : R (Fl Unit Unit × Deal)) => ∃ d dl', Pv.finish r = .ok (d, dl') ∧ Stk d dl') (fun (pre : List Nat) (a : List D × List D) (s : Deal) => a.1.length = (6 : Int).toNat ∧ (∀ y ∈ a.1, In 6 y) ∧ a.2.length = pre.length ∧ (∀ c ∈ a.2, Col 6 c) ∧ s.1.length ≤ 63) ?_ ?_ ?_
  · exact ⟨hyl, hyi, rfl, by simp, l2⟩
  · intro pre kc post a s ez ⟨q1, q2, q3, q4, q5⟩
    have hkc := klt kc (by rw [ez]; simp)
    have hpl : pre.length < 4 := by
      have : ks.length = (pre ++ kc :: post).length := by rw [ez]
      simp at this; omega
    refine forL_run' (P := fun (r : R (Fl (List D × List D) (List D × List D) × Deal)) => ∃ a' s', r = R.ok (Fl.nx a', s') ∧ a'.1.length = (6 : Int).toNat ∧ (∀ y ∈ a'.1, In 6 y) ∧ a'.2.length = (pre ++ [kc]).length ∧ (∀ c ∈ a'.2, Col 6 c) ∧ s'.1.length ≤ 63) (fun (_ : List Nat) (b : List D × List D) (s : Deal) => b.1.length = (6 : Int).toNat ∧ (∀ y ∈ b.1, In 6 y) ∧ b.2.length = (6 : Int).toNat ∧ (∀ y ∈ b.2, In 6 y) ∧ s.1.length ≤ 63) ?_ ?_ ?_
    · exact ⟨q1, q2, rfl, fun y hy => by
        simp only [List.mem_cons, List.not_mem_nil, or_false] at hy
        rcases hy with rfl | rfl | rfl | rfl | rfl | rfl <;> exact ⟨0, rfl, by decide, by decide⟩, q5⟩
    · intro pre2 j post2 b s2 ez2 ⟨b1, b2, b3, b4, b5⟩
      have hj : j < 6 := by
        have : j ∈ List.range 6 := by rw [ez2]; simp
        simpa using this
      obtain ⟨t, ht, et⟩ := guard_pair kc j hkc hj
      have hjl : j < b.1.length := by rw [b1]; exact hj
      have htl : t < b.1.length := by rw [b1]; exact ht
      have i1 := b2 b.1[t] (List.getElem_mem _)
      obtain ⟨u, eu, u0, u1⟩ := b2 b.1[j] (List.getElem_mem _)
      obtain ⟨u, rfl⟩ := Int.eq_ofNat_of_zero_le u0
      have hu : u < b.2.length := by rw [b3]; omega
      have et' := et b.1
      rw [ix_nat b.1 t htl] at et'
      refine ⟨(b.1, b.2.set u b.1[t]), s2, ?_, b1, b2, by simp [b3], fun y hy => ?_, b5⟩
      · have nd : nD j = .int (j : Nat) := rfl
        simp only [nd, div_int (j : Int) 2 (by decide) (by decide), mod_int (j : Int) 2 (by decide), R.bind_ok, two_two, opGt_int, asBool_bl, if_pair, tl2, tl4, if_T, ix_nat b.1 j hjl]
        simp only [nD] at et'
        have key : ∀ {β : Type} (k : D → R β), ((opIx (.lst [.lst [if decide ((0 : Int) < (j : Int) / 2) = true then .int 1 else .int 0, .int 1], .lst [if decide ((0 : Int) < (j : Int) / 2) = true then .int 2 else .int 0, .int ((j : Int) % 2)], .lst [.int 0, .int 0], .lst [.int ((j : Int) / 2), .int 0]]) (.int (kc : Nat))).bind fun a_13 =>
            (noErr ((opIx a_13 (D.int 0)).bind fun a => (opMul (D.int 2) a).bind fun a => (opIx a_13 (D.int 1)).bind fun a_14 => (opAdd a a_14).bind fun a => (opIx (D.lst b.1) a).bind fun d => R.ok (d, ()))).bind fun a_14 => k a_14.1) = k b.1[t] := fun k => by
          cases e0 : opIx (.lst [.lst [if decide ((0 : Int) < (j : Int) / 2) = true then .int 1 else .int 0, .int 1], .lst [if decide ((0 : Int) < (j : Int) / 2) = true then .int 2 else .int 0, .int ((j : Int) % 2)], .lst [.int 0, .int 0], .lst [.int ((j : Int) / 2), .int 0]]) (.int (kc : Nat)) with
          | bad => rw [e0] at et'; cases et'
          | err c d => rw [e0] at et'; cases et'
          | ok p =>
            rw [e0] at et'
            have : ((opIx p (D.int 0)).bind fun a => (opMul (D.int 2) a).bind fun a => (opIx p (D.int 1)).bind fun a_14 => (opAdd a a_14).bind fun a => (opIx (D.lst b.1) a).bind fun d => (R.ok (d, ()) : R (D × Unit))) = ((opIx p (D.int 0)).bind fun a => (opMul (D.int 2) a).bind fun a => (opIx p (D.int 1)).bind fun a_14 => (opAdd a a_14).bind fun a => opIx (D.lst b.1) a).bind fun d => R.ok (d, ()) := by
              simp only [bind_as]
            rw [R.bind_ok, this]
            rw [R.bind_ok] at et'
            rw [et']
            rfl
        exact (key fun d => (chk (noLst d) d).bind fun a_15 => (noErr (R.ok (b.1[j], ()))).bind fun a_16 => (chk (noLst a_16.fst) a_16.fst).bind fun a_17 => (asInt a_17).bind fun jj => (opt (ixN b.2.length jj)).bind fun n => R.ok (Fl.nx (b.1, b.2.set n a_15), s2)).trans (by
          simp only [noLst_in i1, chk_true, R.bind_ok, noErr_ok, eu, noLst_int, asInt_int, ixN_nat _ _ hu, opt_some])
      · rcases List.mem_or_eq_of_mem_set hy with h | h
        · exact b4 y h
        · rw [h]; exact i1
    · intro b s2 ⟨b1, b2, b3, b4, b5⟩
      refine ⟨(b.1, a.2 ++ [.lst b.2]), s2, ?_, b1, b2, by simp [q3], fun c hc => ?_, b5⟩
      · simp only [flb_nx, show decide (a.2.length < 1000000) = true from decide_eq_true (by omega), chk_true, R.bind_ok]
      · rcases List.mem_append.mp hc with h | h
        · exact q4 c h
        · rw [List.mem_singleton.mp h]; exact ⟨b.2, rfl, b3, b4⟩
  · intro a s ⟨q1, q2, q3, q4, q5⟩
    obtain ⟨v, s2, e3, v0, v1, l3⟩ := any_ok 2 (by decide) (by decide) s q5
    obtain ⟨v, rfl⟩ := Int.eq_ofNat_of_zero_le v0
    obtain ⟨m, em, hm, mk, mn⟩ := cols_mt 6 (by decide) (by decide) a.2 (by rintro h; rw [h] at q3; simp [kl] at q3) (by omega) q4
    have sq : ∀ xs : List D, sqQ (.lst xs) = true := fun _ => rfl
    have i0 : mIndex (.lst (ks.map nD)) (.int (v : Nat)) = _ := mIndex_lst ks (kin v (by omega))
    have i2 : mIndex (.lst (ks.map nD)) (.int 2) = _ := mIndex_lst ks (kin 2 (by decide))
    have i3 : mIndex (.lst (ks.map nD)) (.int 3) = _ := mIndex_lst ks (kin 3 (by decide))
    refine ⟨_, s2, ?_, m, [pos ks v, pos ks 2, pos ks 3], rfl, hm, by omega, by rw [mn]; decide, by simp, fun c hc => ?_, l3⟩
    · simp only [sq, chk_true, R.bind_ok, e3, unfre_int, i0, i2, i3, tl3, if_T, callM1, em]
      rw [show unfre m.given = m.given from rfl]
      have : m.k = 4 := by rw [mk, q3, kl]
      rw [this]
      rfl
    · have hk4 : m.k = ks.length := by rw [mk, q3]
      rw [hk4]
      simp only [List.mem_cons, List.not_mem_nil, or_false] at hc
      rcases hc with rfl | rfl | rfl
      · exact pos_lt (kin v (by omega))
      · exact pos_lt (kin 2 (by decide))
      · exact pos_lt (kin 3 (by decide))
theorem beside_ok {m : Mt} (hm : m.Ok) (hn : m.n < 100) (hk : m.k < 100) (bits : List D) (hb : bits.length = m.k) (hq : ∀ b ∈ bits, ∃ x y : Int, b = .lst [.int x, .int y] ∧ 0 ≤ x ∧ x < 2 ∧ 0 ≤ y ∧ y < 2) :
    ∃ (m' : Mt) (d : D), m__law_beside [m.given, .lst bits] = .ok d ∧ unfre d = m'.given ∧ m'.Ok ∧ m'.k = m.k ∧ m'.n = 2 * m.n := by
  obtain ⟨k0, n0, lr, hr⟩ := hm
  have r1 : rgSm (m.k : Int) = true := by simp [rgSm]; omega
  have main : ∃ rows : List D, m__law_beside [m.given, .lst bits] = .ok (.fre rows) ∧ rows.length = 2 * m.n ∧ ∀ r ∈ rows, Row (2 * m.n : Nat) m.k r := by
    simp only [m__law_beside, pk__law_beside, ar2, bind_as, flb_bind, finish1_bind, R.bind_ok, decide_true, tl0, chk_true, show asItems m.given = .ok (m.st.map fun r => D.lst (r.map nD)) from rfl, asInt_int, show chk (rgSm 2) (rgD 0 2) = .ok ((List.range 2).map nD) from rfl, d1_one, bLen_lst, hb, r1, rg_chk (m.k : Int) (by omega)]
    refine forL_run' (enc := fun r : List Nat => D.lst (r.map nD)) (P := fun (r : R (Fl Unit Unit × Unit)) => ∃ rows : List D, finish1 r = .ok (.fre rows) ∧ rows.length = 2 * m.n ∧ ∀ r ∈ rows, Row (2 * m.n : Nat) m.k r) (fun (pre : List (List Nat)) (a : List D) (_ : Unit) => a.length = 2 * pre.length ∧ ∀ r ∈ a, Row (2 * m.n : Nat) m.k r) ?_ ?_ ?_
    · exact ⟨rfl, by simp⟩
    · intro pre r post a s ez ⟨al, ar⟩
      obtain ⟨rl, rq⟩ := hr r (by rw [ez]; simp)
      have pl : pre.length < m.n := by
        have : m.st.length = (pre ++ r :: post).length := by rw [ez]
        simp at this; omega
      refine forL_run' (P := fun (z : R (Fl (List D) (List D) × Unit)) => ∃ a' s', z = .ok (.nx a', s') ∧ a'.length = 2 * (pre ++ [r]).length ∧ ∀ r ∈ a', Row (2 * m.n : Nat) m.k r) (fun (pre2 : List Nat) (b : List D) (_ : Unit) => b.length = 2 * pre.length + pre2.length ∧ ∀ r ∈ b, Row (2 * m.n : Nat) m.k r) ?_ ?_ ?_
      · exact ⟨by simpa using al, ar⟩
      · intro pre2 j post2 b s2 ez2 ⟨bl, br⟩
        have hj : j < 2 := by
          have : j ∈ List.range 2 := by rw [ez2]; simp
          simpa using this
        have p2 : pre2.length < 2 := by
          have : (List.range 2).length = (pre2 ++ j :: post2).length := by rw [ez2]
          simp at this; omega
        obtain ⟨rs, s3, e, l, q, _⟩ := lcL_inv (f := lcT partName (ar1 (fun x => R.bad) fun v7 s => R.ok (true, s)) (ar1 (fun x => R.bad) fun v7 s => (opIx (.lst (r.map nD)) v7).bind fun a => (opMul (D.int 2) a).bind fun a => (opIx (.lst bits) v7).bind fun a_2 => (opIx a_2 (nD j)).bind fun a_3 => (opAdd a a_3).bind fun d => R.ok (d, s))) (ds := rgD 0 m.k) (s := s2) (Inv := fun _ => True) (Q := In (2 * m.n : Nat)) trivial (fun d hd s _ => by
          obtain ⟨i, rfl, i0, i1⟩ := rgD_mem hd
          obtain ⟨i, rfl⟩ := Int.eq_ofNat_of_zero_le i0
          have hi : i < r.length := by omega
          have hi2 : i < bits.length := by omega
          obtain ⟨x, y, eb, x0, x1, y0, y1⟩ := hq bits[i] (List.getElem_mem _)
          have hx := rq (r.getD i 0) (getD_mem hi)
          obtain ⟨z, ez, z0, z1⟩ : ∃ z : Int, opIx (.lst [.int x, .int y]) (nD j) = .ok (.int z) ∧ 0 ≤ z ∧ z < 2 := by
            obtain rfl | rfl : j = 0 ∨ j = 1 := by omega
            · exact ⟨x, rfl, x0, x1⟩
            · exact ⟨y, rfl, y0, y1⟩
          refine ⟨.int (2 * ((r.getD i 0 : Nat) : Int) + z), s, ?_, ⟨_, rfl, by omega, by omega⟩, trivial⟩
          have e1 : opIx (.lst (r.map nD)) (.int (i : Nat)) = .ok (.int ((r.getD i 0 : Nat) : Int)) := ixn_lst r hi
          simp only [lcT, partName_d, opt_some, R.bind_ok, ar1_one, if_true, e1, mul_int 2 _ (.inl (by decide)), ix_nat bits i hi2, eb, ez, opAdd_int, noErr_ok])
        refine ⟨b ++ [.lst rs], s3, ?_, by simp [bl]; omega, fun x hx => ?_⟩
        · rw [e]
          simp only [R.bind_ok, show decide (b.length < 1000000) = true from decide_eq_true (by omega), chk_true]
        · rcases List.mem_append.mp hx with h | h
          · exact br x h
          · rw [List.mem_singleton.mp h]
            exact ⟨rs, rfl, by rw [l, rgD_len]; simp, q⟩
      · intro b s2 ⟨bl, br⟩
        exact ⟨b, s2, rfl, by simp at bl ⊢; omega, br⟩
    · intro a s ⟨al, ar⟩
      exact ⟨a, rfl, by rw [al, lr], ar⟩
  obtain ⟨rows, er, l, hrr⟩ := main
  obtain ⟨st, rfl, hst⟩ := rows_map (n := 2 * m.n) (k := m.k) (rows := rows) hrr
  exact ⟨⟨m.k, 2 * m.n, st⟩, _, er, rfl, ⟨k0, by show 0 < 2 * m.n; omega, by simpa using l, hst⟩, rfl, rfl⟩
theorem forL_ret {β α : Type} {f : D → Unit → Deal → R (Fl Unit Unit × Deal)} {enc : α → D} (Inv : Deal → Prop) (Q : D → Deal → Prop) : ∀ (xs : List α) (s : Deal), Inv s → (∀ x ∈ xs, ∀ s, Inv s → (∃ d s', f (enc x) () s = .ok (.rt d, s') ∧ Q d s') ∨ ∃ s', f (enc x) () s = .ok (.nx (), s') ∧ Inv s') →
    (∃ d s', (forL (γ := β) f (xs.map enc) () s : R (Fl Unit β × Deal)) = .ok (.rt d, s') ∧ Q d s') ∨ ∃ s', (forL (γ := β) f (xs.map enc) () s : R (Fl Unit β × Deal)) = .ok (.nx (), s') ∧ Inv s'
  | [], s, i, _ => .inr ⟨s, rfl, i⟩
  | x :: xs, s, i, h => by
    rw [List.map_cons, forL_cons]
    rcases h x (List.mem_cons_self ..) s i with ⟨d, s', e, q⟩ | ⟨s', e, i'⟩
    · rw [e]; exact .inl ⟨d, s', rfl, q⟩
    · rw [e]; exact forL_ret Inv Q xs s' i' fun y hy => h y (List.mem_cons_of_mem _ hy)
noncomputable def stkC (k : Int) (a11 : D) (s : Deal) : R (Fl Unit Unit × Deal) := (m__law_any [D.int 8] s).bind fun a_12 =>
        (opEq (unfre a_12.fst) (D.int 0)).bind fun a_13 => (asBool a_13).bind fun a_14 =>
        (if a_14 = true then R.ok (true, a_12.snd) else (m__law_few [a11]).bind fun a => (m__law_blind [a11, unfre a]).bind fun a => (asBool (unfre a)).bind fun a => R.ok (!a, a_12.snd)).bind fun p =>
        flb (if p.fst = true then R.ok (Fl.rt (D.tup [D.int k, a11, D.tup []]), p.snd) else R.ok (Fl.nx (), p.snd)) fun (a14 : Unit) s => (R.ok (Fl.nx (), s) : R (Fl Unit Unit × Deal))
theorem stkC_ok (m' : Mt) (s : Deal) (h' : m'.Ok) (k' : m'.k < 4) (n' : m'.n ≤ 6) (hs' : s.1.length ≤ 63) : (∃ d s', stkC m'.k m'.given s = .ok (.rt d, s') ∧ Stk d s') ∨ ∃ s', stkC m'.k m'.given s = .ok (.nx (), s') ∧ s'.1.length ≤ 63 := by
  obtain ⟨v, s2, e, v0, v1, l⟩ := any_ok 8 (by decide) (by decide) s hs'
  obtain ⟨T, eT, t⟩ := few_ok h' n' (by omega)
  have eB := blind_ok h' n' (by omega) t.toTab
  simp only [stkC, e, R.bind_ok, unfre_int, eq_int, asBool_bl, eT, show ∀ x, unfre (.dcT x) = .dcT x from fun _ => rfl, eB, unfre_bl]
  have two : ∀ b : Bool, (∃ d s', (flb (if b = true then R.ok (Fl.rt (D.tup [D.int m'.k, m'.given, D.tup []]), s2) else R.ok (Fl.nx (), s2)) fun (a14 : Unit) s => (R.ok (Fl.nx (), s) : R (Fl Unit Unit × Deal))) = .ok (.rt d, s') ∧ Stk d s') ∨ ∃ s', (flb (if b = true then R.ok (Fl.rt (D.tup [D.int m'.k, m'.given, D.tup []]), s2) else R.ok (Fl.nx (), s2)) fun (a14 : Unit) s => (R.ok (Fl.nx (), s) : R (Fl Unit Unit × Deal))) = .ok (.nx (), s') ∧ s'.1.length ≤ 63 := fun b => by
    cases b with
    | true => exact .inl ⟨_, s2, rfl, m', [], rfl, h', by omega, n', by simp, fun c hc => (by cases hc), l⟩
    | false => exact .inr ⟨s2, rfl, l⟩
  by_cases q : v = 0
  · simp only [q, decide_true, if_true, R.bind_ok]
    exact two true
  · simp only [q, decide_false, if_ff, R.bind_ok]
    exact two _
theorem forL_retP {α β γ : Type} {f : D → Unit → Deal → R (Fl Unit Unit × Deal)} {k : Unit → Deal → R (Fl γ β × Deal)} {P : R (Fl γ β × Deal) → Prop} {enc : α → D} (Inv : Deal → Prop) (Q : D → Deal → Prop) {xs : List α} {s : Deal} (i : Inv s) (h : ∀ x ∈ xs, ∀ s, Inv s → (∃ d s', f (enc x) () s = .ok (.rt d, s') ∧ Q d s') ∨ ∃ s', f (enc x) () s = .ok (.nx (), s') ∧ Inv s')
    (hr : ∀ d s, Q d s → P (.ok (.rt d, s))) (hk : ∀ s, Inv s → P (k () s)) : P (flb (forL f (xs.map enc) () s) k) := by
  rcases forL_ret (β := β) Inv Q xs s i h with ⟨d, s', e, q⟩ | ⟨s', e, i'⟩
  · rw [e]; exact hr d s' q
  · rw [e]; exact hk s' i'
theorem stock_ok (dl : Deal) (hl : dl.1.length ≤ 63) : ∃ d dl', m__law_stock [.int 5, .int 8] dl = .ok (d, dl') ∧ Stk d dl' := by
  obtain ⟨u, d1', e1, u0, u1, l1⟩ := any_ok 4 (by decide) (by decide) dl hl
  simp only [m__law_stock, pk__law_stock, ar2, bind_as, flb_bind, finish_bind, R.bind_ok, callL1, callL0, e1, unfre_int, eq_int, asBool_bl, decide_eq_true_eq]
  by_cases c : u = 0
  · obtain ⟨d, dl', e, h⟩ := guarded_ok d1' l1
    simp only [c, if_true, bind_as, flb_bind, e, R.bind_ok, flb_rt]
    obtain ⟨m, last, rfl, r⟩ := h
    exact ⟨_, dl', rfl, m, last, rfl, r⟩
  obtain ⟨v, d2', e2, v0, v1, l2⟩ := any_ok 8 (by decide) (by decide) d1' l1
  simp only [c, if_false, flb_nx, bind_as, flb_bind, finish_bind, R.bind_ok, e2, unfre_int, eq_int, asBool_bl, decide_eq_true_eq]
  by_cases c2 : v = 0
  · obtain ⟨ys, d3', hpy, e3, l3⟩ := mixed_ok (.lst [.int 0, .int 1, .int 2]) [.int 0, .int 1, .int 2] rfl (by simp) (fun d hd => by
      simp only [List.mem_cons, List.not_mem_nil, or_false] at hd
      rcases hd with rfl | rfl | rfl <;> exact ((Sh.int (k := 0) (by decide) (Nat.le_refl _)).cmp (by decide))) d2' l2
    obtain ⟨ps, rfl, hps⟩ := perm_map (enc := nD) hpy (xs := [0, 1, 2]) rfl
    have pl : ps.length = 3 := hps.length_eq
    have plt : ∀ c ∈ ps, c < 3 := fun c hc => by
      have := hps.subset hc
      simp at this
      omega
    obtain ⟨p0, p1, p2, rfl⟩ : ∃ a b c, ps = [a, b, c] := by
      match ps, pl with
      | [a, b, c], _ => exact ⟨a, b, c, rfl⟩
    have q0 := plt p0 (by simp)
    have q1 := plt p1 (by simp)
    have q2 := plt p2 (by simp)
    have ct : opCut (.lst ([p0, p1, p2].map nD)) (some 1) none = .ok (.lst [nD p1, nD p2]) := rfl
    have inner : ∀ (x : Nat) (s : Deal), lcL (lcT partName (ar1 (fun x => R.bad) fun v5 s => R.ok (true, s)) (ar1 (fun x => R.bad) fun v6 s => (opIx (.lst ([p0, p1, p2].map nD)) (D.int 0)).bind fun a => (opEq v6 a).bind fun a => (asBool a).bind fun a => if a = true then R.ok (nD x, s) else R.ok (v6, s))) ((List.range 3).map nD) s = .ok (((List.range 3).map fun i => if i = p0 then x else i).map nD, s) := fun x s => by
      rw [lc_map (g := fun i => nD (if i = p0 then x else i)) (fun i hi τ => ?_), List.map_map]
      · rfl
      · have e : opIx (.lst ([p0, p1, p2].map nD)) (D.int 0) = .ok (nD p0) := ixL0 _ _
        have e2 : opEq (nD i) (nD p0) = .ok (.bl (decide (i = p0))) := by
          unfold nD
          rw [eq_int]
          by_cases q : i = p0
          · simp [q]
          · have : ¬ (i : Int) = p0 := by omega
            simp [q, this]
        simp only [lcT, partName_d, opt_some, R.bind_ok, ar1_one, if_true, e, e2, asBool_bl]
        by_cases q : i = p0 <;> simp [q]
    obtain ⟨m, em, hm, mk, mn⟩ := cols_mt 3 (by decide) (by decide) [.lst (((List.range 3).map fun i => if i = p0 then p1 else i).map nD), .lst (((List.range 3).map fun i => if i = p0 then p2 else i).map nD)] (by simp) (by simp) (fun c hc => by
      simp only [List.mem_cons, List.not_mem_nil, or_false] at hc
      have key : ∀ x, x < 3 → Col 3 (.lst (((List.range 3).map fun i => if i = p0 then x else i).map nD)) := fun x hx => ⟨_, rfl, by simp, fun d hd => by
        obtain ⟨y, hy, rfl⟩ := List.mem_map.mp hd
        obtain ⟨i, hi, rfl⟩ := List.mem_map.mp hy
        have : i < 3 := by simpa using hi
        refine ⟨_, rfl, by omega, ?_⟩
        split <;> omega⟩
      rcases hc with rfl | rfl
      · exact key p1 q1
      · exact key p2 q2)
    have lc2 : ∀ s : Deal, lcL (lcT partName (ar1 (fun x => R.bad) fun v5 s => R.ok (true, s)) (ar1 (fun x => R.bad) fun v5 s => (lcL (lcT partName (ar1 (fun x => R.bad) fun v5 s => R.ok (true, s)) (ar1 (fun x => R.bad) fun v6 s => (opIx (.lst ([p0, p1, p2].map nD)) (D.int 0)).bind fun a => (opEq v6 a).bind fun a => (asBool a).bind fun a => if a = true then R.ok (v5, s) else R.ok (v6, s))) ((List.range 3).map nD) s).bind fun q => R.ok (D.lst q.fst, q.snd))) [nD p1, nD p2] s = .ok ([.lst (((List.range 3).map fun i => if i = p0 then p1 else i).map nD), .lst (((List.range 3).map fun i => if i = p0 then p2 else i).map nD)], s) := fun s => by
      have := lc_map (enc := nD) (xs := [p1, p2]) (s := s) (f := lcT partName (ar1 (fun x => R.bad) fun v5 s => R.ok (true, s)) (ar1 (fun x => R.bad) fun v5 s => (lcL (lcT partName (ar1 (fun x => R.bad) fun v5 s => R.ok (true, s)) (ar1 (fun x => R.bad) fun v6 s => (opIx (.lst ([p0, p1, p2].map nD)) (D.int 0)).bind fun a => (opEq v6 a).bind fun a => (asBool a).bind fun a => if a = true then R.ok (v5, s) else R.ok (v6, s))) ((List.range 3).map nD) s).bind fun q => R.ok (D.lst q.fst, q.snd))) (g := fun x => D.lst (((List.range 3).map fun i => if i = p0 then x else i).map nD)) (fun x hx τ => by
        simp only [lcT, partName_d, opt_some, R.bind_ok, ar1_one, if_true]
        rw [inner]
        rfl)
      exact this
    have e3' : m__law_mixed [D.lst [D.int 0, D.int 1, D.int 2]] d2' = .ok (.fre ([p0, p1, p2].map nD), d3') := e3
    simp only [c2, if_true, tl3, if_T, bind_as, flb_bind, R.bind_ok, e3', unfre_fre, asInt_int, ct, asItems_lst, decide_true, chk_true, show chk (rgSm 3) (rgD 0 3) = .ok ((List.range 3).map nD) from rfl, chk_len nD (List.range 3) 1000000 (by simp), lc2, callM1, em, tl2, flb_rt, show unfre m.given = m.given from rfl]
    refine ⟨_, d3', rfl, m, [0, 1], ?_, hm, by rw [mk]; simp, by rw [mn]; decide, by simp, fun c hc => ?_, l3⟩
    · rw [mk]; rfl
    · rw [mk]
      simp at hc ⊢
      omega
  simp only [c2, if_false, flb_nx, R.bind_ok, asInt_int, show chk (rgSm 4) (rgD 0 4) = .ok ((List.range 4).map nD) from rfl, bind_as, flb_bind]
  refine forL_retP (P := fun (r : R (Fl Unit Unit × Deal)) => ∃ d dl', Pv.finish r = .ok (d, dl') ∧ Stk d dl') (fun s => s.1.length ≤ 63) Stk l2 (fun x _ s hs => ?_) (fun d s q => ?_) (fun s hs => ?_)
  · obtain ⟨m, d3', e3, hm, mk, mn, l3⟩ := machine_ok' 5 (by decide) (by decide) s hs
    rw [show ((5 : Nat) : Int) = 5 from rfl] at e3
    have lr : m.st.length = m.n := hm.2.2.1
    have bl : bLen m.given = .ok (.int (m.n : Nat)) := by rw [Mt.given, bLen_lst, List.length_map, lr]
    have lt4 : opLt (D.int (m.n : Nat)) (D.int 4) = .ok (.bl (decide ((m.n : Int) < 4))) := rfl
    simp only [e3, R.bind_ok, unfre_tup, part2, opt_some, d1_one, bl, lt4, asBool_bl, decide_eq_true_eq, tl0, tl2, tl4, tl3, if_T, asInt_int]
    by_cases c3 : (m.n : Int) < 4
    · obtain ⟨q, d4', e4, _, _, l4⟩ := any_ok 2 (by decide) (by decide) d3' l3
      simp only [c3, if_true, e4, R.bind_ok, unfre_int, eq_int, asBool_bl, decide_eq_true_eq]
      by_cases c4 : q = 0
      · have r1 : rgSm (m.k : Int) = true := by simp [rgSm]; omega
        obtain ⟨bits, d5', e5, lb, qb, l5⟩ := lcL_inv (f := lcT partName (ar1 (fun x => R.bad) fun v5 s => R.ok (true, s)) (ar1 (fun x => R.bad) fun v13 dl => (m__law_of [D.lst [D.lst [D.int 0, D.int 1], D.lst [D.int 0, D.int 0], D.lst [D.int 1, D.int 1], D.lst [D.int 1, D.int 0]]] dl).bind fun r => R.ok (unfre r.fst, r.snd))) (ds := rgD 0 m.k) (s := d4') (Inv := fun s : Deal => s.1.length ≤ 63) (Q := fun b => ∃ x y : Int, b = .lst [.int x, .int y] ∧ 0 ≤ x ∧ x < 2 ∧ 0 ≤ y ∧ y < 2) l4 (fun d hd s hs => by
          obtain ⟨b, s2, hb, e, l⟩ := of_ok [D.lst [D.int 0, D.int 1], D.lst [D.int 0, D.int 0], D.lst [D.int 1, D.int 1], D.lst [D.int 1, D.int 0]] (by simp) (by simp) s hs
          refine ⟨unfre b, s2, by simp only [lcT, partName_d, opt_some, R.bind_ok, ar1_one, if_true, e, noErr_ok], ?_, l⟩
          simp only [List.mem_cons, List.not_mem_nil, or_false] at hb
          rcases hb with rfl | rfl | rfl | rfl
          · exact ⟨0, 1, rfl, by decide⟩
          · exact ⟨0, 0, rfl, by decide⟩
          · exact ⟨1, 1, rfl, by decide⟩
          · exact ⟨1, 0, rfl, by decide⟩)
        obtain ⟨m', db, eb, ub, hm', k', n'⟩ := beside_ok hm (by omega) (by omega) bits (by rw [lb, rgD_len]; simp) qb
        simp only [c4, if_true, r1, chk_true, R.bind_ok, rg_chk (m.k : Int) (by omega), e5, callM2, callM1, eb, ub, flb_nx, decide_true, bind_as, flb_bind]
        rw [← k']
        exact stkC_ok m' d5' hm' (by omega) (by omega) l5
      · simp only [c4, if_false, if_ff, flb_nx, decide_false]
        exact stkC_ok m d4' hm mk (by omega) l4
    · simp only [c3, if_false, R.bind_ok, if_ff, flb_nx, decide_false]
      exact stkC_ok m d3' hm mk (by omega) l3
  · obtain ⟨m, last, rfl, r⟩ := q
    exact ⟨_, s, rfl, m, last, rfl, r⟩
  · simp only [tl0, tl2, tl3, if_T, R.bind_ok]
    exact ⟨_, s, rfl, ⟨2, 2, [[0, 1], [0, 1]]⟩, [], rfl, ⟨by decide, by decide, rfl, by decide⟩, by decide, by decide, by decide, fun c hc => (by cases hc), hs⟩
end Gk21
set_option linter.all false
set_option maxHeartbeats 4000000
namespace Gk21
open PySem Pv L2
theorem is_free_of {m : Mt} {c r : D} {cl : Str} {d : D} (h : m_clash [m.obj, c, r] = .err cl d) : m_is_free [m.obj, c, r] = .err cl d := by
  simp only [m_is_free, pk_is_free, ar3, bind_as, flb_bind, finish1_bind, R.bind_ok, callM3, h]
  rfl
theorem free_bad {m : Mt} {r : D} {n : Nat} (h : m_checked_row [m.obj, r] = .err "InvalidRow" (.int n)) : m_free_commands [m.obj, r] = .err "InvalidRow" (.int n) := by
  simp only [m_free_commands, pk_free_commands, ar2, bind_as, flb_bind, finish1_bind, R.bind_ok, callM2, effect_bad h]
  rfl
theorem ans_ref : ansR (.err "Refused" (.int 0)) = .ok (.tup [.str "Refused", .int 0]) := rfl
theorem ans_row (n : Nat) : ansR (.err "InvalidRow" (.int n)) = .ok (.tup [.str "InvalidRow", .int n]) := rfl
theorem repr_ref : bRepr (.tup [.str "Refused", .int 0]) = .ok (.str (Str.ofString "('Refused', 0)")) := by
  have e : (PyData.tuple [.str "Refused", .int 0]).shown = Str.ofString "('Refused', 0)" := by decide +kernel
  have h : reprOk (.tuple [.str "Refused", .int 0]) = true := by decide +kernel
  show chk (reprOk (.tuple [.str "Refused", .int 0])) (D.str (PyData.tuple [.str "Refused", .int 0]).shown) = _
  rw [h, chk_true, e]
theorem sh_row {row : List Nat} (hl : row.length ≤ 100) (h : ∀ c ∈ row, c < 1000) : Sh 1 3000 (.tup (row.map nD)) := by
  refine .tup (k := 0) (n := 19) (fun d hd => ?_) (by simp; omega)
  obtain ⟨x, hx, rfl⟩ := List.mem_map.mp hd
  have := h x hx
  exact .int (by omega) (by decide)
theorem sh_lst {row : List Nat} (hl : row.length ≤ 100) (h : ∀ c ∈ row, c < 1000) : Sh 1 3000 (.lst (row.map nD)) := by
  refine .lst (k := 0) (n := 19) (fun d hd => ?_) (by simp; omega)
  obtain ⟨x, hx, rfl⟩ := List.mem_map.mp hd
  have := h x hx
  exact .int (by omega) (by decide)
theorem sh_inv (n : Nat) (hn : n < 1000) : Sh 1 200 (.tup [.str "InvalidRow", .int n]) := by
  refine .tup (k := 0) (n := 50) (fun d hd => ?_) (by simp)
  simp only [List.mem_cons, List.not_mem_nil, or_false] at hd
  rcases hd with rfl | rfl
  · exact .str (by decide +kernel) (by decide +kernel)
  · exact .int (by omega) (by decide)
theorem str_rows : ∀ n : Fin 60, PyData.strOk (PyData.tuple [.str "InvalidRow", .int ((n.val : Nat) : Int)]).shown = true := by decide +kernel
theorem errors_ok {m : Mt} (hm : m.Ok) (hn : m.n < 1000) (hk : m.k ≤ 4) (row : List Nat) (hr : Rw m row) (hl : row.length ≤ 50) (dl : Deal) (hdl : dl.1.length ≤ 63) : ∃ dl', m__law_errors [m.obj, .int (m.k : Nat), .tup (row.map nD)] dl = .ok (.bl true, dl') ∧ dl'.1.length ≤ 63 := by
  have k0 := hm.1
  have hrow : Sh 1 3000 (.tup (row.map nD)) := sh_row (by omega) fun c hc => by have := hr c hc; omega
  have est : bStr (.tup (row.map nD)) = .ok (.str (shw (.tup (row.map nD)))) := hrow.repr (by decide) (by decide)
  have a1 : opAdd (.lst (row.map nD)) (.lst [.int (m.k : Nat)]) = .ok (.lst (row.map nD ++ [.int (m.k : Nat)])) := add_lst _ _ (by simp; omega)
  have a2 : opAdd (.lst (row.map nD ++ [.int (m.k : Nat)])) (.lst (row.map nD)) = .ok (.lst (row.map nD ++ [.int (m.k : Nat)] ++ row.map nD)) := add_lst _ _ (by simp; omega)
  have a3 : opAdd (.lst [.bl true]) (.lst (row.map nD)) = .ok (.lst ([.bl true] ++ row.map nD)) := add_lst _ _ (by simp; omega)
  obtain ⟨d, d1', hd, e1, l1⟩ := of_ok [.tup [.lst (row.map nD ++ [.int (m.k : Nat)] ++ row.map nD), .int (row.length : Nat)], .tup [.lst ([.bl true] ++ row.map nD), .int 0], .tup [.str (shw (.tup (row.map nD))), .int 0], .tup [.non, .int 0]] (by simp) (by simp) dl hdl
  obtain ⟨no, n, rfl, hno, hnn, uno⟩ : ∃ (no : D) (n : Nat), d = .tup [no, .int (n : Nat)] ∧ m_checked_row [m.obj, no] = .err "InvalidRow" (.int n) ∧ n < 60 ∧ unfre no = no := by
    simp only [List.mem_cons, List.not_mem_nil, or_false] at hd
    rcases hd with rfl | rfl | rfl | rfl
    · refine ⟨_, row.length, rfl, ?_, by omega, rfl⟩
      have := checked_row_err m row hr (.int (m.k : Nat)) (row.map nD) trivial (by simp [isIx])
      rw [List.append_assoc]
      exact this
    · exact ⟨_, 0, rfl, checked_row_err m [] (fun c hc => by cases hc) (.bl true) (row.map nD) trivial rfl, by decide, rfl⟩
    · exact ⟨_, 0, rfl, checked_row_no m _ (.inr ⟨_, rfl⟩), by decide, rfl⟩
    · exact ⟨_, 0, rfl, checked_row_no m _ (.inl rfl), by decide, rfl⟩
  obtain ⟨oc, d2', hoc, e2, l2⟩ := of_ok [.int (m.k : Nat), .int (-1), .bl true, .non, .str "0", .tup [.int 0]] (by simp) (by simp) d1' l1
  have hoc' : Pl oc ∧ isIx m.k oc = false ∧ unfre oc = oc := by
    simp only [List.mem_cons, List.not_mem_nil, or_false] at hoc
    rcases hoc with rfl | rfl | rfl | rfl | rfl | rfl
    · exact ⟨trivial, by simp [isIx], rfl⟩
    · exact ⟨trivial, by simp [isIx], rfl⟩
    · exact ⟨trivial, rfl, rfl⟩
    · exact ⟨trivial, rfl, rfl⟩
    · exact ⟨trivial, rfl, rfl⟩
    · exact ⟨trivial, rfl, rfl⟩
  simp only [m__law_errors, pk__law_errors, ar3, bind_as, flb_bind, finish_bind, R.bind_ok, d1_one, bList_tup, bLen_tup, List.length_map, tl1, tl2, tl4, tl6, if_T, a1, a2, a3, est, callL1, e1, unfre_tup, part2, opt_some, ar2_two, opNeg_int, e2, hoc'.2.2, asInt_int, show chk (rgSm 2) (rgD 0 2) = .ok ((List.range 2).map nD) from rfl, show chk (rgSm 3) (rgD 0 3) = .ok ((List.range 3).map nD) from rfl]
  refine forL_run' (P := fun (r : R (Fl Unit Unit × Deal)) => ∃ dl', Pv.finish r = .ok (.bl true, dl') ∧ dl'.1.length ≤ 63) (fun (_ : List Nat) (_ : Unit) (s : Deal) => s.1.length ≤ 63) ?_ ?_ ?_
  · exact l2
  · intro pre w post _ s ez hs
    have hw : w < 2 := by
      have : w ∈ List.range 2 := by rw [ez]; simp
      simpa using this
    obtain ⟨r, s2, hr2, e3, l3⟩ := of_ok [.tup (row.map nD), no] (by simp) (by simp) s hs
    have ur : unfre r = r := by
      simp only [List.mem_cons, List.not_mem_nil, or_false] at hr2
      rcases hr2 with rfl | rfl
      · rfl
      · exact uno
    have cr := clash_ref m r hoc'.1 hoc'.2.1
    have ea : m__law_answer [nD w, m.obj, oc, r] = .ok (.tup [.str "Refused", .int 0]) := by
      rw [show nD w = .int (w : Nat) from rfl, answer_eq]
      obtain rfl | rfl : w = 0 ∨ w = 1 := by omega
      · rw [if_pos (show ((0 : Nat) : Int) = 0 from rfl), is_free_of cr]; rfl
      · rw [if_neg (by decide), if_pos (show ((1 : Nat) : Int) = 1 from rfl), cr]; rfl
    refine ⟨(), s2, ?_, l3⟩
    simp only [e3, R.bind_ok, ur, callM4, ea, unfre_tup, repr_ref, str_ne, decide_true, Bool.not_true, asBool_bl, if_ff, flb_nx]
  · intro _ s hs
    have cb := clash_bad hno (c := 0) (by omega)
    have each : ∀ w ∈ List.range 3, m__law_answer [nD w, m.obj, .int 0, no] = .ok (.tup [.str "InvalidRow", .int (n : Nat)]) := fun w hw => by
      have hw' : w < 3 := by simpa using hw
      rw [show nD w = .int (w : Nat) from rfl, answer_eq]
      have cb' : m_clash [m.obj, .int 0, no] = .err "InvalidRow" (.int (n : Nat)) := cb
      obtain rfl | rfl | rfl : w = 0 ∨ w = 1 ∨ w = 2 := by omega
      · rw [if_pos (show ((0 : Nat) : Int) = 0 from rfl), is_free_of cb']; rfl
      · rw [if_neg (by decide), if_pos (show ((1 : Nat) : Int) = 1 from rfl), cb']; rfl
      · rw [if_neg (by decide), if_neg (by decide), free_bad hno]; rfl
    have rp := (sh_inv n (by omega)).repr (by decide) (by decide)
    have lcE : ∀ s : Deal, lcL (lcT partName (ar1 (fun x => R.bad) fun v7 s => R.ok (true, s)) (ar1 (fun x => R.bad) fun v7 s => (m__law_answer [v7, m.obj, D.int 0, no]).bind fun a => (bRepr (unfre a)).bind fun d => R.ok (d, s))) ((List.range 3).map nD) s = .ok ((List.range 3).map fun _ => D.str (shw (.tup [.str "InvalidRow", .int (n : Nat)])), s) := fun s =>
      lc_map (g := fun _ => D.str (shw (.tup [.str "InvalidRow", .int (n : Nat)]))) fun w hw τ => by
        simp only [lcT, partName_d, opt_some, R.bind_ok, ar1_one, if_true, each w hw, unfre_tup, rp, noErr_ok]
    simp only [show chk (decide ((List.range 3).length ≤ 1000000)) ((List.range 3).map nD) = .ok ((List.range 3).map nD) from rfl, R.bind_ok, callM4, lcE, rp]
    refine ⟨s, ?_, hs⟩
    have hs3 : Cmp (.lst [.str (shw (.tup [.str "InvalidRow", .int (n : Nat)])), .str (shw (.tup [.str "InvalidRow", .int (n : Nat)])), .str (shw (.tup [.str "InvalidRow", .int (n : Nat)]))]) := by
      have ok := str_rows ⟨n, hnn⟩
      have es : shw (.tup [.str "InvalidRow", .int (n : Nat)]) = (PyData.tuple [.str "InvalidRow", .int (n : Nat)]).shown := rfl
      rw [es]
      refine ⟨.list [.str _, .str _, .str _], rfl, ?_, by simp [PyData.depth, PyData.depthAll]⟩
      simp only [PyData.canLay0, PyData.canLayAll0, ok, Bool.and_self]
    have m3 : opMul (.lst [.str (shw (.tup [.str "InvalidRow", .int (n : Nat)]))]) (.int 3) = .ok (.lst [.str (shw (.tup [.str "InvalidRow", .int (n : Nat)])), .str (shw (.tup [.str "InvalidRow", .int (n : Nat)])), .str (shw (.tup [.str "InvalidRow", .int (n : Nat)]))]) := rfl
    rw [m3]
    simp only [R.bind_ok, show ((List.range 3).map fun _ => D.str (shw (.tup [.str "InvalidRow", .int (n : Nat)]))) = [.str (shw (.tup [.str "InvalidRow", .int (n : Nat)])), .str (shw (.tup [.str "InvalidRow", .int (n : Nat)])), .str (shw (.tup [.str "InvalidRow", .int (n : Nat)]))] from rfl]
    rw [eq_self' hs3]
    rfl
end Gk21
set_option Elab.async false
set_option maxRecDepth 100000
set_option linter.all false
set_option maxHeartbeats 4000000
namespace Gk21
open PySem Pv L2
theorem ar3_three {ω : Type} (z : ω) (f : D → D → D → ω) (a b c : D) : ar3 z f [a, b, c] = f a b c := by simp [ar3]
theorem kw3a {α : Type} (f : List D → R α) (x y z : D) : callM 0 3 [2, 1, 0] f [] [x, y, z] = f [z, y, x] := by simp [callM, argsM]
theorem kw3b {α : Type} (f : List D → R α) (x y z : D) : callM 0 3 [1, 2, 0] f [] [x, y, z] = f [y, z, x] := by simp [callM, argsM]
theorem kw2a {α : Type} (f : List D → R α) (x y : D) : callM 0 2 [1, 0] f [] [x, y] = f [y, x] := by simp [callM, argsM]
theorem notin_nat (c : Nat) (xs : List Nat) : opNotIn (nD c) (.tup (xs.map nD)) = .ok (.bl (!decide (c ∈ xs))) := by
  have h1 : (xs.map nD).all flatD = true := by simp [List.all_map, Function.comp_def, flat_nD]
  simp only [opNotIn, asItems_tup, R.bind_ok, flat_nD, h1, Bool.and_self, chk_true]
  congr 3
  rw [List.any_map]
  induction xs with
  | nil => simp
  | cons x xs ih =>
    rw [List.any_cons, ih (by simp [List.all_map, Function.comp_def, flat_nD])]
    simp only [Function.comp, eqF_nD]
    by_cases q : x = c
    · simp [q]
    · have : ¬ c = x := fun z => q z.symm
      simp [q, this]
theorem cmp_tpN {xs : List D} (h : Cmp (.tup xs)) : Cmp (.tpN xs) := by
  obtain ⟨p, e, r⟩ := h
  refine ⟨p, ?_, r⟩
  rw [← e]
  rfl
theorem law_true (ns : List Int) (hns : ns.length ≤ 63) : m_law ns = .ok (.rt (.bl true), ()) := by
  obtain ⟨dl0, e0, l0⟩ := draw_ok ns hns
  obtain ⟨st, dl1, e1, m, last, rfl, hm, hk, hn, hll, hlast, l1⟩ := stock_ok dl0 l0
  have k0 := hm.1
  have hk' : m.k < 1000 := by omega
  have hn' : m.n < 1000 := by omega
  obtain ⟨T, eT, t⟩ := few_ok hm hn hk'
  obtain ⟨v2, dl2, e2, v20, v21, l2⟩ := any_ok 5 (by decide) (by decide) dl1 l1
  obtain ⟨r1, dl3, e3, lr1, hr1, l3⟩ := row_ok m.k k0 (by omega) v2 v20 (by omega) dl2 l2
  obtain ⟨v4, dl4, e4, v40, v41, l4⟩ := any_ok 2 (by decide) (by decide) dl3 l3
  obtain ⟨v5, dl5, e5, v50, v51, l5⟩ := any_ok 4 (by decide) (by decide) dl4 l4
  obtain ⟨a4, rfl⟩ := Int.eq_ofNat_of_zero_le v40
  obtain ⟨a5, rfl⟩ := Int.eq_ofNat_of_zero_le v50
  have emul : opMul (.int (a4 : Nat)) (.int (a5 : Nat)) = .ok (.int ((a4 * a5 : Nat) : Int)) := by
    rw [mul_int _ _ (.inl (by
      have : a4 = 0 ∨ a4 = 1 := by omega
      rcases this with rfl | rfl <;> decide))]
    rw [Int.natCast_mul]
  obtain ⟨row, hrow⟩ : ∃ row, row = r1 ++ last.take (a4 * a5) := ⟨_, rfl⟩
  have hrw : Rw m row := fun c hc => by
    rw [hrow] at hc
    rcases List.mem_append.mp hc with h | h
    · exact hr1 c h
    · exact hlast c (List.mem_of_mem_take h)
  have hrl : row.length ≤ 8 := by
    rw [hrow, List.length_append, List.length_take]; omega
  have ecut : opCut (.tup (last.map nD)) none (some ((a4 * a5 : Nat) : Int)) = .ok (.tup ((last.take (a4 * a5)).map nD)) := by rw [cut_tL, List.map_take]
  have eadd : opAdd (.tup (r1.map nD)) (.tup ((last.take (a4 * a5)).map nD)) = .ok (.tup (row.map nD)) := by
    rw [add_tup _ _ (by simp; omega), hrow, List.map_append]
  have ek := law_kernel_ok hm hn' false row hrw
  have ee := law_effect_ok hm hn' false row hrw
  simp only [sqD, Bool.false_eq_true, if_false] at ek ee
  obtain ⟨p, hp, hpk, hpv⟩ := val_in (t.all row hrw)
  obtain ⟨hpw, hpe, hpl⟩ := t.ent p hp
  have eix : opIx (.dcT (T.map kv)) (.tup ((ker (eff m row)).map nD)) = .ok (tD p.2) := by
    show ((opt (keyT (tD (ker (eff m row))))).bind fun ks => opt (valG (T.map kv) ks)) = _
    rw [keyT_t, opt_some, R.bind_ok, hpv]
    rfl
  have hker : ker (eff m p.2) = ker (eff m row) := by rw [← hpe, hpk]
  have mo : D.obj (Str.ofString "Machine") m.fields = m.obj := rfl
  have c2 : ∀ {α : Type} (f : List D → R α), (chk (rgSm (m.k : Int)) (rgD 0 (m.k : Int))).bind f = f ((List.range m.k).map nD) := fun f => by rw [chk_rg m.k hk', rgD_nat]; rfl
  have mg : unfre m.given = m.given := rfl
  simp -implicitDefEqProofs only [m_law, pk_law, bind_as, flb_bind, R.bind_ok, callL1, callL2, callL3, callM1, callM2, callM3, e0, dealOf_ok, noErr_ok, unfre_tup, unfre_lst, e1, part3, opt_some, ar3_three, init_ok m hm hk' hn', eT, two_two, show ∀ x, unfre (.dcT x) = .dcT x from fun _ => rfl, mo, e2, unfre_int, e3, e4, e5, emul, asInt_int, ecut, eadd, ek, eix, ee, decide_true, tl0, chk_true, c2, show ∀ xs, unfre (.tpN xs) = .tpN xs from fun _ => rfl, kw3a, kw3b, d1_one, bList_tup]
  have hrow1000 : ∀ c ∈ row, c < 1000 := fun c hc => by have := hrw c hc; omega
  have nel := ne_self ((sh_lst (by omega) hrow1000).cmp (by decide))
  refine forL_run' (P := fun r => r.bind (fun r => R.ok (r.1, ())) = R.ok (Fl.rt (D.bl true), ())) (fun (pre : List Nat) (a : List D) (s : Deal) => a = (pre.filter fun c => isFree m c row).map nD ∧ s.1.length ≤ 63) ?_ ?_ ?_
  · exact ⟨rfl, l5⟩
  · intro pre c post a s ez ⟨ha, hs⟩
    subst ha
    have hc : c < m.k := by
      have : c ∈ List.range m.k := by rw [ez]; simp
      simpa using this
    have hpre : pre.length < m.k := by
      have : (List.range m.k).length = (pre ++ c :: post).length := by rw [ez]
      simp at this; omega
    have hfl := List.length_filter_le (fun c => isFree m c row) pre
    have ec := clash_ok hm hn' hk' c hc (eff m row) (eff_len m row)
    have ep := clash_prog hm hn' hk' true row hrw c hc
    have ef := is_free_prog hm hn' hk' false row hrw c hc
    have ep2 := clash_prog hm hn' hk' false p.2 hpw c hc
    have ef2 := is_free_prog hm hn' hk' true p.2 hpw c hc
    have sm := clash_same hm hc hker
    have sD : clashD m c (eff m p.2) = clashD m c (eff m row) := by unfold clashD; rw [sm]
    have sF : isFree m c p.2 = isFree m c row := by unfold isFree; rw [sm]
    rw [sD] at ep2
    rw [sF] at ef2
    simp only [sqD, Bool.false_eq_true, if_false, if_true] at ep ef ep2 ef2
    have rc := repr_ne_self (clash_sh hn hk' c (eff m row)) (by decide) (by decide)
    have rb := repr_ne_self (Sh.bl (k := 0) (n := 5) (isFree m c row) (Nat.le_refl _)) (by decide) (by decide)
    have lt : decide (((pre.filter fun c => isFree m c row).map nD).length < 1000000) = true := decide_eq_true (by simp; omega)
    refine ⟨((pre ++ [c]).filter fun c => isFree m c row).map nD, s, ?_, rfl, hs⟩
    simp only [ec, R.bind_ok, clash_un, ep, rc.1, rc.2.1, asBool_bl, if_ff, nel, flb_nx, ef, unfre_bl, rb.1, clash_non, rb.2.1, tD, ep2, bList_tup, ef2, lt, chk_true]
    cases q : isFree m c row with
    | true => simp [List.filter_append, q]
    | false => simp [List.filter_append, q]
  · intro a s ⟨ha, hs⟩
    subst ha
    rw [show ((List.range m.k).filter fun c => isFree m c row) = frees m row from rfl]
    have efr := free_commands_ok hm hn' hk' true row hrw
    simp only [sqD, if_true] at efr
    have frl : (frees m row).length ≤ 100 := by
      have := List.length_filter_le (fun c => isFree m c row) (List.range m.k)
      simp at this
      unfold frees; omega
    have fr1000 : ∀ c ∈ frees m row, c < 1000 := fun c hc => by
      have := (List.mem_filter.mp hc).1
      have : c < m.k := by simpa using this
      omega
    have rf := repr_ne_self (sh_row frl fr1000) (by decide) (by decide)
    obtain ⟨v6, dl6, e6, v60, v61, l6⟩ := any_ok 5 (by decide) (by decide) s hs
    obtain ⟨n6, rfl⟩ := Int.eq_ofNat_of_zero_le v60
    simp only [kw2a, efr, R.bind_ok, unfre_tup, rf.1, bTuple_lst, rf.2.1, asBool_bl, if_ff, flb_nx, asItems_tup, e6, unfre_int, asInt_int, rgD_nat, chk_rg n6 (show n6 < 1000 by omega)]
    refine forL_run' (P := fun r => r.bind (fun r => R.ok (r.1, ())) = R.ok (Fl.rt (D.bl true), ())) (fun (pre : List Nat) (a : List D) (s : Deal) => ∃ l : List Nat, a = l.map nD ∧ Rw m l ∧ (NotBlind m → Within m row l) ∧ l.length = row.length + pre.length ∧ s.1.length ≤ 63) ?_ ?_ ?_
    · exact ⟨row, rfl, hrw, fun _ s t _ _ e => e, rfl, l6⟩
    · intro pre x post a s ez ⟨l, ha, hl, hw, hlen, hs⟩
      subst ha
      have hpre : pre.length < 5 := by
        have : (List.range n6).length = (pre ++ x :: post).length := by rw [ez]
        simp at this; omega
      obtain ⟨j, dl7, e7, j0, j1, l7⟩ := any_ok ((l.length : Int) + 1) (by omega) (by omega) s hs
      obtain ⟨c, dl8, e8, c0, c1, l8⟩ := any_ok m.k (by omega) (by omega) dl7 l7
      obtain ⟨j, rfl⟩ := Int.eq_ofNat_of_zero_le j0
      obtain ⟨c, rfl⟩ := Int.eq_ofNat_of_zero_le c0
      have hc : c < m.k := by omega
      refine ⟨(l.take j ++ [c] ++ l.drop j).map nD, dl8, ?_, l.take j ++ [c] ++ l.drop j, rfl, fun y hy => ?_, fun nb => ?_, ?_, l8⟩
      · have cc : (decide ((0 : Int) ≤ ((j : Nat) : Int)) && decide (((j : Nat) : Int) ≤ 1000000) && decide ((l.map nD).length < 1000000)) = true := by
          simp; omega
        simp only [bLen_lst, List.length_map, R.bind_ok, opAdd_int, noErr_ok, noLst_int, chk_true, e7, e8, unfre_int, asInt_int]
        simp only [List.length_map] at cc
        rw [cc, chk_true]
        simp [nD]
      · simp only [List.mem_append, List.mem_singleton] at hy
        rcases hy with (h | h) | h
        · exact hl y (List.mem_of_mem_take h)
        · rw [h]; exact hc
        · exact hl y (List.mem_of_mem_drop h)
      · have z := within_ins hm nb (u := l.take j) (v := l.drop j) (c := c) (fun y hy => hl y (List.mem_of_mem_take hy)) (fun y hy => hl y (List.mem_of_mem_drop hy)) hc
        rw [List.take_append_drop] at z
        exact (hw nb).trans z
      · simp; omega
    · intro a s ⟨l, ha, hl, hw, hlen, hs⟩
      subst ha
      have hll2 : l.length ≤ 20 := by simp at hlen; omega
      have efl := free_commands_ok hm hn' hk' true l hl
      have eel := law_effect_ok hm hn' true l hl
      simp only [sqD, if_true] at efl eel
      have fl2 : (frees m l).length ≤ 100 := by
        have := List.length_filter_le (fun c => isFree m c l) (List.range m.k)
        simp at this
        unfold frees; omega
      have fl1000 : ∀ c ∈ frees m l, c < 1000 := fun c hc => by
        have := (List.mem_filter.mp hc).1
        have : c < m.k := by simpa using this
        omega
      have rf2 := repr_ne_self (sh_row fl2 fl1000) (by decide) (by decide)
      have eB := blind_ok hm hn hk' t.toTab
      have cl : ∀ {α : Type} (a : α), chk (decide ((List.range m.k).length ≤ 1000000)) a = .ok a := fun a => chk_rgl m.k hk' a
      simp only [efl, eel, R.bind_ok, unfre_tup, show ∀ xs, unfre (.tpN xs) = .tpN xs from fun _ => rfl, rf2.1, List.length_map, cl, law_frees_ok hm hn' hk' l, bTuple_lst, rf2.2.1, asBool_bl, if_ff, flb_nx, eB, unfre_bl]
      obtain ⟨fin, hfin⟩ : ∃ fin : Deal → R (Fl Unit Unit × Deal), fin = fun s => (m__law_errors [m.obj, .int (m.k : Nat), .tup (row.map nD)] s).bind fun a => R.ok (Fl.rt (unfre a.fst), a.snd) := ⟨_, rfl⟩
      have hend : ∀ s : Deal, s.1.length ≤ 63 → ((m__law_errors [m.obj, .int (m.k : Nat), .tup (row.map nD)] s).bind fun a => (R.ok (Fl.rt (unfre a.fst), a.snd) : R (Fl Unit Unit × Deal))).bind (fun r => R.ok (r.1, ())) = R.ok (Fl.rt (D.bl true), ()) := fun s hs => by
        obtain ⟨s', e, _⟩ := errors_ok hm hn' hk row hrw (by omega) s hs
        rw [e]
        rfl
      cases hb : (keys T).any (blindQ m) with
      | true =>
        simp only [not_tt, if_ff, flb_nx]
        exact hend s hs
      | false =>
        have nb := not_blind hm t hb
        have wit := hw nb
        obtain ⟨v9, dl9, e9, v90, v91, l9⟩ := any_ok 4 (by decide) (by decide) s hs
        obtain ⟨ah, dl10, e10, lah, hah, l10⟩ := row_ok m.k k0 (by omega) (1 + v9) (by omega) (by omega) dl9 l9
        have hal : ah.length ≤ 5 := by omega
        simp only [not_ff, if_tt, if_true, bind_as, flb_bind, e9, unfre_int, opAdd_int, R.bind_ok, e10, unfre_tup, bList_tup, asItems_lst, flb_as]
        refine forL_run' (P := fun r => r.bind (fun r => R.ok (r.1, ())) = R.ok (Fl.rt (D.bl true), ())) (fun (_ : List Nat) (_ : Unit) (s : Deal) => s.1.length ≤ 63) ?_ ?_ ?_
        · exact l10
        · intro pre c post _ s ez hs
          have hcf : c ∈ frees m row := by rw [ez]; simp
          obtain ⟨h1, h2⟩ := List.mem_filter.mp hcf
          have hc : c < m.k := by simpa using h1
          have fp := (free_iff hm hc).mp h2
          have fpl := fp.within hm hc wit
          have hin : c ∈ frees m l := List.mem_filter.mpr ⟨h1, (free_iff hm hc).mpr fpl⟩
          have com := (commute hm nb hc hl fpl ah hah).2
          have rw1 : Rw m (ah ++ [c] ++ l) := fun y hy => by
            simp only [List.mem_append, List.mem_singleton] at hy
            rcases hy with (h | h) | h
            · exact hah y h
            · rw [h]; exact hc
            · exact hl y h
          have rw2 : Rw m ([c] ++ ah ++ l) := fun y hy => by
            simp only [List.mem_append, List.mem_singleton] at hy
            rcases hy with (h | h) | h
            · rw [h]; exact hc
            · exact hah y h
            · exact hl y h
          have same : eff m (ah ++ [c] ++ l) = eff m ([c] ++ ah ++ l) := by
            unfold eff
            refine List.map_congr_left fun s hs => ?_
            exact com s (by simpa using hs)
          have f1 := law_effect_ok hm hn' true (ah ++ [c] ++ l) rw1
          have f2 := law_effect_ok hm hn' true ([c] ++ ah ++ l) rw2
          simp only [sqD, if_true] at f1 f2
          rw [← same] at f2
          have a1 : opAdd (.lst (ah.map nD)) (.lst [nD c]) = .ok (.lst ((ah ++ [c]).map nD)) := by
            rw [add_lst _ _ (by simp; omega)]; simp
          have a2 : opAdd (.lst ((ah ++ [c]).map nD)) (.lst (l.map nD)) = .ok (.lst ((ah ++ [c] ++ l).map nD)) := by
            rw [add_lst _ _ (by simp; omega)]; simp
          have a3 : opAdd (.lst [nD c]) (.lst (ah.map nD)) = .ok (.lst (([c] ++ ah).map nD)) := by
            rw [add_lst _ _ (by simp; omega)]; simp
          have a4 : opAdd (.lst (([c] ++ ah).map nD)) (.lst (l.map nD)) = .ok (.lst (([c] ++ ah ++ l).map nD)) := by
            rw [add_lst _ _ (by simp; omega)]; simp
          have ef1000 : ∀ x ∈ eff m (ah ++ [c] ++ l), x < 1000 := fun x hx => by
            unfold eff at hx
            obtain ⟨s, hs, rfl⟩ := List.mem_map.mp hx
            have := run_lt hm (s := s) (by simpa using hs) rw1
            omega
          have cne := ne_self (cmp_tpN ((sh_row (by rw [eff_len]; omega) ef1000).cmp (by decide)))
          refine ⟨(), s, ?_, hs⟩
          simp only [notin_nat, hin, decide_true, Bool.not_true, R.bind_ok, asBool_bl, if_ff, flb_nx, tl1, if_T, a1, a2, a3, a4, f1, f2, show ∀ xs, unfre (.tpN xs) = .tpN xs from fun _ => rfl, cne]
        · intro _ s hs
          exact hend s hs
end Gk21
set_option Elab.async false
set_option linter.all false
set_option maxRecDepth 100000
set_option maxHeartbeats 4000000
namespace Gk21
open PySem PySem.Spec PyProof.Rows L2 Pv
theorem all_mk {l : PySem.W.OpenLaw} {w : World} {K : PySem.W.Frag} {h : Heap} {mg : Str → Option Value} {fa : Addr} {C_Machine C_InvalidMachine C_InvalidRow C_Refused f__law_draw f__law_any f__law_mixed f__law_columns f__law_guarded f__law_of f__law_column f__law_machine f__law_beside f__law_blind f__law_few f__law_stock f_is_sequence f_is_integer f_is_number f_is_index f_checked_row f_led f_effect f_clash_behind f_free_commands f__law_led f__law_effect f_clash f_is_free f__law_answer f__law_errors f__law_row f__law_kernel f__law_clash f_law f_Machine_init fi_InvalidMachine fi_InvalidRow fi_Refused : Addr} {od__law_draw an__law_draw od__law_any an__law_any od__law_mixed an__law_mixed od__law_columns an__law_columns od__law_guarded an__law_guarded od__law_of an__law_of od__law_column an__law_column od__law_machine an__law_machine od__law_beside an__law_beside od__law_blind an__law_blind od__law_few an__law_few od__law_stock an__law_stock od_is_sequence an_is_sequence od_is_integer an_is_integer od_is_number an_is_number od_is_index an_is_index od_checked_row an_checked_row od_led an_led od_effect an_effect od_clash_behind an_clash_behind od_free_commands an_free_commands od__law_led an__law_led od__law_effect an__law_effect od_clash an_clash od_is_free an_is_free od__law_answer an__law_answer od__law_errors an__law_errors od__law_row an__law_row od__law_kernel an__law_kernel od__law_clash an__law_clash od_law an_law od_Machine_init an_Machine_init : Option Addr} {sl__law_draw sl__law_any sl__law_mixed sl__law_columns sl__law_guarded sl__law_of sl__law_column sl__law_machine sl__law_beside sl__law_blind sl__law_few sl__law_stock sl_is_sequence sl_is_integer sl_is_number sl_is_index sl_checked_row sl_led sl_effect sl_clash_behind sl_free_commands sl__law_led sl__law_effect sl_clash sl_is_free sl__law_answer sl__law_errors sl__law_row sl__law_kernel sl__law_clash sl_law sl_Machine_init : Array (Option Value)} {oc__law_draw kV__law_draw dc__law_draw pm__law_draw cd__law_draw ct__law_draw oc__law_any kV__law_any dc__law_any pm__law_any cd__law_any ct__law_any oc__law_mixed kV__law_mixed dc__law_mixed pm__law_mixed cd__law_mixed ct__law_mixed oc__law_columns kV__law_columns dc__law_columns pm__law_columns cd__law_columns ct__law_columns oc__law_guarded kV__law_guarded dc__law_guarded pm__law_guarded cd__law_guarded ct__law_guarded oc__law_of kV__law_of dc__law_of pm__law_of cd__law_of ct__law_of oc__law_column kV__law_column dc__law_column pm__law_column cd__law_column ct__law_column oc__law_machine kV__law_machine dc__law_machine pm__law_machine cd__law_machine ct__law_machine oc__law_beside kV__law_beside dc__law_beside pm__law_beside cd__law_beside ct__law_beside oc__law_blind kV__law_blind dc__law_blind pm__law_blind cd__law_blind ct__law_blind oc__law_few kV__law_few dc__law_few pm__law_few cd__law_few ct__law_few oc__law_stock kV__law_stock dc__law_stock pm__law_stock cd__law_stock ct__law_stock oc_is_sequence kV_is_sequence dc_is_sequence pm_is_sequence cd_is_sequence ct_is_sequence oc_is_integer kV_is_integer dc_is_integer pm_is_integer cd_is_integer ct_is_integer oc_is_number kV_is_number dc_is_number pm_is_number cd_is_number ct_is_number oc_is_index kV_is_index dc_is_index pm_is_index cd_is_index ct_is_index oc_checked_row kV_checked_row dc_checked_row pm_checked_row cd_checked_row ct_checked_row oc_led kV_led dc_led pm_led cd_led ct_led oc_effect kV_effect dc_effect pm_effect cd_effect ct_effect oc_clash_behind kV_clash_behind dc_clash_behind pm_clash_behind cd_clash_behind ct_clash_behind oc_free_commands kV_free_commands dc_free_commands pm_free_commands cd_free_commands ct_free_commands oc__law_led kV__law_led dc__law_led pm__law_led cd__law_led ct__law_led oc__law_effect kV__law_effect dc__law_effect pm__law_effect cd__law_effect ct__law_effect oc_clash kV_clash dc_clash pm_clash cd_clash ct_clash oc_is_free kV_is_free dc_is_free pm_is_free cd_is_free ct_is_free oc__law_answer kV__law_answer dc__law_answer pm__law_answer cd__law_answer ct__law_answer oc__law_errors kV__law_errors dc__law_errors pm__law_errors cd__law_errors ct__law_errors oc__law_row kV__law_row dc__law_row pm__law_row cd__law_row ct__law_row oc__law_kernel kV__law_kernel dc__law_kernel pm__law_kernel cd__law_kernel ct__law_kernel oc__law_clash kV__law_clash dc__law_clash pm__law_clash cd__law_clash ct__law_clash oc_law kV_law dc_law pm_law cd_law ct_law oc_Machine_init kV_Machine_init dc_Machine_init pm_Machine_init cd_Machine_init ct_Machine_init : Value} {cdt_Machine cde_InvalidRow cde_Refused : ClassData} (X : K.In h) (G : h.Ns mainGlobals mg) (hfa : mg "law" = some (.ref fa))
    (a_Machine : PySem.W.nsIn K mainGlobals "Machine" = some (some (.ref C_Machine)))
    (a_InvalidMachine : PySem.W.nsIn K mainGlobals "InvalidMachine" = some (some (.ref C_InvalidMachine)))
    (a_InvalidRow : PySem.W.nsIn K mainGlobals "InvalidRow" = some (some (.ref C_InvalidRow)))
    (a_Refused : PySem.W.nsIn K mainGlobals "Refused" = some (some (.ref C_Refused)))
    (a__law_draw : PySem.W.nsIn K mainGlobals "_law_draw" = some (some (.ref f__law_draw)))
    (l__law_draw : K.lookup f__law_draw = some ⟨oc__law_draw, od__law_draw, .func (PySem.W.fnOf "_law_draw" "_law_draw" (defArgs s__law_draw) (defBody s__law_draw) (defScope s__law_draw) .none kV__law_draw dc__law_draw pm__law_draw an__law_draw cd__law_draw ct__law_draw), sl__law_draw⟩)
    (c__law_draw : PySem.W.codeIn K cd__law_draw "_law_draw" = true)
    (k__law_draw : PySem.W.keepIn K (.ref f__law_draw) = true)
    (a__law_any : PySem.W.nsIn K mainGlobals "_law_any" = some (some (.ref f__law_any)))
    (l__law_any : K.lookup f__law_any = some ⟨oc__law_any, od__law_any, .func (PySem.W.fnOf "_law_any" "_law_any" (defArgs s__law_any) (defBody s__law_any) (defScope s__law_any) .none kV__law_any dc__law_any pm__law_any an__law_any cd__law_any ct__law_any), sl__law_any⟩)
    (c__law_any : PySem.W.codeIn K cd__law_any "_law_any" = true)
    (k__law_any : PySem.W.keepIn K (.ref f__law_any) = true)
    (a__law_mixed : PySem.W.nsIn K mainGlobals "_law_mixed" = some (some (.ref f__law_mixed)))
    (l__law_mixed : K.lookup f__law_mixed = some ⟨oc__law_mixed, od__law_mixed, .func (PySem.W.fnOf "_law_mixed" "_law_mixed" (defArgs s__law_mixed) (defBody s__law_mixed) (defScope s__law_mixed) .none kV__law_mixed dc__law_mixed pm__law_mixed an__law_mixed cd__law_mixed ct__law_mixed), sl__law_mixed⟩)
    (c__law_mixed : PySem.W.codeIn K cd__law_mixed "_law_mixed" = true)
    (k__law_mixed : PySem.W.keepIn K (.ref f__law_mixed) = true)
    (a__law_columns : PySem.W.nsIn K mainGlobals "_law_columns" = some (some (.ref f__law_columns)))
    (l__law_columns : K.lookup f__law_columns = some ⟨oc__law_columns, od__law_columns, .func (PySem.W.fnOf "_law_columns" "_law_columns" (defArgs s__law_columns) (defBody s__law_columns) (defScope s__law_columns) .none kV__law_columns dc__law_columns pm__law_columns an__law_columns cd__law_columns ct__law_columns), sl__law_columns⟩)
    (c__law_columns : PySem.W.codeIn K cd__law_columns "_law_columns" = true)
    (k__law_columns : PySem.W.keepIn K (.ref f__law_columns) = true)
    (a__law_guarded : PySem.W.nsIn K mainGlobals "_law_guarded" = some (some (.ref f__law_guarded)))
    (l__law_guarded : K.lookup f__law_guarded = some ⟨oc__law_guarded, od__law_guarded, .func (PySem.W.fnOf "_law_guarded" "_law_guarded" (defArgs s__law_guarded) (defBody s__law_guarded) (defScope s__law_guarded) .none kV__law_guarded dc__law_guarded pm__law_guarded an__law_guarded cd__law_guarded ct__law_guarded), sl__law_guarded⟩)
    (c__law_guarded : PySem.W.codeIn K cd__law_guarded "_law_guarded" = true)
    (k__law_guarded : PySem.W.keepIn K (.ref f__law_guarded) = true)
    (a__law_of : PySem.W.nsIn K mainGlobals "_law_of" = some (some (.ref f__law_of)))
    (l__law_of : K.lookup f__law_of = some ⟨oc__law_of, od__law_of, .func (PySem.W.fnOf "_law_of" "_law_of" (defArgs s__law_of) (defBody s__law_of) (defScope s__law_of) .none kV__law_of dc__law_of pm__law_of an__law_of cd__law_of ct__law_of), sl__law_of⟩)
    (c__law_of : PySem.W.codeIn K cd__law_of "_law_of" = true)
    (k__law_of : PySem.W.keepIn K (.ref f__law_of) = true)
    (a__law_column : PySem.W.nsIn K mainGlobals "_law_column" = some (some (.ref f__law_column)))
    (l__law_column : K.lookup f__law_column = some ⟨oc__law_column, od__law_column, .func (PySem.W.fnOf "_law_column" "_law_column" (defArgs s__law_column) (defBody s__law_column) (defScope s__law_column) .none kV__law_column dc__law_column pm__law_column an__law_column cd__law_column ct__law_column), sl__law_column⟩)
    (c__law_column : PySem.W.codeIn K cd__law_column "_law_column" = true)
    (k__law_column : PySem.W.keepIn K (.ref f__law_column) = true)
    (a__law_machine : PySem.W.nsIn K mainGlobals "_law_machine" = some (some (.ref f__law_machine)))
    (l__law_machine : K.lookup f__law_machine = some ⟨oc__law_machine, od__law_machine, .func (PySem.W.fnOf "_law_machine" "_law_machine" (defArgs s__law_machine) (defBody s__law_machine) (defScope s__law_machine) .none kV__law_machine dc__law_machine pm__law_machine an__law_machine cd__law_machine ct__law_machine), sl__law_machine⟩)
    (c__law_machine : PySem.W.codeIn K cd__law_machine "_law_machine" = true)
    (k__law_machine : PySem.W.keepIn K (.ref f__law_machine) = true)
    (a__law_beside : PySem.W.nsIn K mainGlobals "_law_beside" = some (some (.ref f__law_beside)))
    (l__law_beside : K.lookup f__law_beside = some ⟨oc__law_beside, od__law_beside, .func (PySem.W.fnOf "_law_beside" "_law_beside" (defArgs s__law_beside) (defBody s__law_beside) (defScope s__law_beside) .none kV__law_beside dc__law_beside pm__law_beside an__law_beside cd__law_beside ct__law_beside), sl__law_beside⟩)
    (c__law_beside : PySem.W.codeIn K cd__law_beside "_law_beside" = true)
    (k__law_beside : PySem.W.keepIn K (.ref f__law_beside) = true)
    (a__law_blind : PySem.W.nsIn K mainGlobals "_law_blind" = some (some (.ref f__law_blind)))
    (l__law_blind : K.lookup f__law_blind = some ⟨oc__law_blind, od__law_blind, .func (PySem.W.fnOf "_law_blind" "_law_blind" (defArgs s__law_blind) (defBody s__law_blind) (defScope s__law_blind) .none kV__law_blind dc__law_blind pm__law_blind an__law_blind cd__law_blind ct__law_blind), sl__law_blind⟩)
    (c__law_blind : PySem.W.codeIn K cd__law_blind "_law_blind" = true)
    (k__law_blind : PySem.W.keepIn K (.ref f__law_blind) = true)
    (a__law_few : PySem.W.nsIn K mainGlobals "_law_few" = some (some (.ref f__law_few)))
    (l__law_few : K.lookup f__law_few = some ⟨oc__law_few, od__law_few, .func (PySem.W.fnOf "_law_few" "_law_few" (defArgs s__law_few) (defBody s__law_few) (defScope s__law_few) .none kV__law_few dc__law_few pm__law_few an__law_few cd__law_few ct__law_few), sl__law_few⟩)
    (c__law_few : PySem.W.codeIn K cd__law_few "_law_few" = true)
    (k__law_few : PySem.W.keepIn K (.ref f__law_few) = true)
    (a__law_stock : PySem.W.nsIn K mainGlobals "_law_stock" = some (some (.ref f__law_stock)))
    (l__law_stock : K.lookup f__law_stock = some ⟨oc__law_stock, od__law_stock, .func (PySem.W.fnOf "_law_stock" "_law_stock" (defArgs s__law_stock) (defBody s__law_stock) (defScope s__law_stock) .none kV__law_stock dc__law_stock pm__law_stock an__law_stock cd__law_stock ct__law_stock), sl__law_stock⟩)
    (c__law_stock : PySem.W.codeIn K cd__law_stock "_law_stock" = true)
    (k__law_stock : PySem.W.keepIn K (.ref f__law_stock) = true)
    (a_is_sequence : PySem.W.nsIn K mainGlobals "is_sequence" = some (some (.ref f_is_sequence)))
    (l_is_sequence : K.lookup f_is_sequence = some ⟨oc_is_sequence, od_is_sequence, .func (PySem.W.fnOf "is_sequence" "is_sequence" (defArgs s_is_sequence) (defBody s_is_sequence) (defScope s_is_sequence) .none kV_is_sequence dc_is_sequence pm_is_sequence an_is_sequence cd_is_sequence ct_is_sequence), sl_is_sequence⟩)
    (c_is_sequence : PySem.W.codeIn K cd_is_sequence "is_sequence" = true)
    (k_is_sequence : PySem.W.keepIn K (.ref f_is_sequence) = true)
    (a_is_integer : PySem.W.nsIn K mainGlobals "is_integer" = some (some (.ref f_is_integer)))
    (l_is_integer : K.lookup f_is_integer = some ⟨oc_is_integer, od_is_integer, .func (PySem.W.fnOf "is_integer" "is_integer" (defArgs s_is_integer) (defBody s_is_integer) (defScope s_is_integer) .none kV_is_integer dc_is_integer pm_is_integer an_is_integer cd_is_integer ct_is_integer), sl_is_integer⟩)
    (c_is_integer : PySem.W.codeIn K cd_is_integer "is_integer" = true)
    (k_is_integer : PySem.W.keepIn K (.ref f_is_integer) = true)
    (a_is_number : PySem.W.nsIn K mainGlobals "is_number" = some (some (.ref f_is_number)))
    (l_is_number : K.lookup f_is_number = some ⟨oc_is_number, od_is_number, .func (PySem.W.fnOf "is_number" "is_number" (defArgs s_is_number) (defBody s_is_number) (defScope s_is_number) .none kV_is_number dc_is_number pm_is_number an_is_number cd_is_number ct_is_number), sl_is_number⟩)
    (c_is_number : PySem.W.codeIn K cd_is_number "is_number" = true)
    (k_is_number : PySem.W.keepIn K (.ref f_is_number) = true)
    (a_is_index : PySem.W.nsIn K mainGlobals "is_index" = some (some (.ref f_is_index)))
    (l_is_index : K.lookup f_is_index = some ⟨oc_is_index, od_is_index, .func (PySem.W.fnOf "is_index" "is_index" (defArgs s_is_index) (defBody s_is_index) (defScope s_is_index) .none kV_is_index dc_is_index pm_is_index an_is_index cd_is_index ct_is_index), sl_is_index⟩)
    (c_is_index : PySem.W.codeIn K cd_is_index "is_index" = true)
    (k_is_index : PySem.W.keepIn K (.ref f_is_index) = true)
    (a_checked_row : PySem.W.nsIn K mainGlobals "checked_row" = some (some (.ref f_checked_row)))
    (l_checked_row : K.lookup f_checked_row = some ⟨oc_checked_row, od_checked_row, .func (PySem.W.fnOf "checked_row" "checked_row" (defArgs s_checked_row) (defBody s_checked_row) (defScope s_checked_row) .none kV_checked_row dc_checked_row pm_checked_row an_checked_row cd_checked_row ct_checked_row), sl_checked_row⟩)
    (c_checked_row : PySem.W.codeIn K cd_checked_row "checked_row" = true)
    (k_checked_row : PySem.W.keepIn K (.ref f_checked_row) = true)
    (a_led : PySem.W.nsIn K mainGlobals "led" = some (some (.ref f_led)))
    (l_led : K.lookup f_led = some ⟨oc_led, od_led, .func (PySem.W.fnOf "led" "led" (defArgs s_led) (defBody s_led) (defScope s_led) .none kV_led dc_led pm_led an_led cd_led ct_led), sl_led⟩)
    (c_led : PySem.W.codeIn K cd_led "led" = true)
    (k_led : PySem.W.keepIn K (.ref f_led) = true)
    (a_effect : PySem.W.nsIn K mainGlobals "effect" = some (some (.ref f_effect)))
    (l_effect : K.lookup f_effect = some ⟨oc_effect, od_effect, .func (PySem.W.fnOf "effect" "effect" (defArgs s_effect) (defBody s_effect) (defScope s_effect) .none kV_effect dc_effect pm_effect an_effect cd_effect ct_effect), sl_effect⟩)
    (c_effect : PySem.W.codeIn K cd_effect "effect" = true)
    (k_effect : PySem.W.keepIn K (.ref f_effect) = true)
    (a_clash_behind : PySem.W.nsIn K mainGlobals "clash_behind" = some (some (.ref f_clash_behind)))
    (l_clash_behind : K.lookup f_clash_behind = some ⟨oc_clash_behind, od_clash_behind, .func (PySem.W.fnOf "clash_behind" "clash_behind" (defArgs s_clash_behind) (defBody s_clash_behind) (defScope s_clash_behind) .none kV_clash_behind dc_clash_behind pm_clash_behind an_clash_behind cd_clash_behind ct_clash_behind), sl_clash_behind⟩)
    (c_clash_behind : PySem.W.codeIn K cd_clash_behind "clash_behind" = true)
    (k_clash_behind : PySem.W.keepIn K (.ref f_clash_behind) = true)
    (a_free_commands : PySem.W.nsIn K mainGlobals "free_commands" = some (some (.ref f_free_commands)))
    (l_free_commands : K.lookup f_free_commands = some ⟨oc_free_commands, od_free_commands, .func (PySem.W.fnOf "free_commands" "free_commands" (defArgs s_free_commands) (defBody s_free_commands) (defScope s_free_commands) .none kV_free_commands dc_free_commands pm_free_commands an_free_commands cd_free_commands ct_free_commands), sl_free_commands⟩)
    (c_free_commands : PySem.W.codeIn K cd_free_commands "free_commands" = true)
    (k_free_commands : PySem.W.keepIn K (.ref f_free_commands) = true)
    (a__law_led : PySem.W.nsIn K mainGlobals "_law_led" = some (some (.ref f__law_led)))
    (l__law_led : K.lookup f__law_led = some ⟨oc__law_led, od__law_led, .func (PySem.W.fnOf "_law_led" "_law_led" (defArgs s__law_led) (defBody s__law_led) (defScope s__law_led) .none kV__law_led dc__law_led pm__law_led an__law_led cd__law_led ct__law_led), sl__law_led⟩)
    (c__law_led : PySem.W.codeIn K cd__law_led "_law_led" = true)
    (k__law_led : PySem.W.keepIn K (.ref f__law_led) = true)
    (a__law_effect : PySem.W.nsIn K mainGlobals "_law_effect" = some (some (.ref f__law_effect)))
    (l__law_effect : K.lookup f__law_effect = some ⟨oc__law_effect, od__law_effect, .func (PySem.W.fnOf "_law_effect" "_law_effect" (defArgs s__law_effect) (defBody s__law_effect) (defScope s__law_effect) .none kV__law_effect dc__law_effect pm__law_effect an__law_effect cd__law_effect ct__law_effect), sl__law_effect⟩)
    (c__law_effect : PySem.W.codeIn K cd__law_effect "_law_effect" = true)
    (k__law_effect : PySem.W.keepIn K (.ref f__law_effect) = true)
    (a_clash : PySem.W.nsIn K mainGlobals "clash" = some (some (.ref f_clash)))
    (l_clash : K.lookup f_clash = some ⟨oc_clash, od_clash, .func (PySem.W.fnOf "clash" "clash" (defArgs s_clash) (defBody s_clash) (defScope s_clash) .none kV_clash dc_clash pm_clash an_clash cd_clash ct_clash), sl_clash⟩)
    (c_clash : PySem.W.codeIn K cd_clash "clash" = true)
    (k_clash : PySem.W.keepIn K (.ref f_clash) = true)
    (a_is_free : PySem.W.nsIn K mainGlobals "is_free" = some (some (.ref f_is_free)))
    (l_is_free : K.lookup f_is_free = some ⟨oc_is_free, od_is_free, .func (PySem.W.fnOf "is_free" "is_free" (defArgs s_is_free) (defBody s_is_free) (defScope s_is_free) .none kV_is_free dc_is_free pm_is_free an_is_free cd_is_free ct_is_free), sl_is_free⟩)
    (c_is_free : PySem.W.codeIn K cd_is_free "is_free" = true)
    (k_is_free : PySem.W.keepIn K (.ref f_is_free) = true)
    (a__law_answer : PySem.W.nsIn K mainGlobals "_law_answer" = some (some (.ref f__law_answer)))
    (l__law_answer : K.lookup f__law_answer = some ⟨oc__law_answer, od__law_answer, .func (PySem.W.fnOf "_law_answer" "_law_answer" (defArgs s__law_answer) (defBody s__law_answer) (defScope s__law_answer) .none kV__law_answer dc__law_answer pm__law_answer an__law_answer cd__law_answer ct__law_answer), sl__law_answer⟩)
    (c__law_answer : PySem.W.codeIn K cd__law_answer "_law_answer" = true)
    (k__law_answer : PySem.W.keepIn K (.ref f__law_answer) = true)
    (a__law_errors : PySem.W.nsIn K mainGlobals "_law_errors" = some (some (.ref f__law_errors)))
    (l__law_errors : K.lookup f__law_errors = some ⟨oc__law_errors, od__law_errors, .func (PySem.W.fnOf "_law_errors" "_law_errors" (defArgs s__law_errors) (defBody s__law_errors) (defScope s__law_errors) .none kV__law_errors dc__law_errors pm__law_errors an__law_errors cd__law_errors ct__law_errors), sl__law_errors⟩)
    (c__law_errors : PySem.W.codeIn K cd__law_errors "_law_errors" = true)
    (k__law_errors : PySem.W.keepIn K (.ref f__law_errors) = true)
    (a__law_row : PySem.W.nsIn K mainGlobals "_law_row" = some (some (.ref f__law_row)))
    (l__law_row : K.lookup f__law_row = some ⟨oc__law_row, od__law_row, .func (PySem.W.fnOf "_law_row" "_law_row" (defArgs s__law_row) (defBody s__law_row) (defScope s__law_row) .none kV__law_row dc__law_row pm__law_row an__law_row cd__law_row ct__law_row), sl__law_row⟩)
    (c__law_row : PySem.W.codeIn K cd__law_row "_law_row" = true)
    (k__law_row : PySem.W.keepIn K (.ref f__law_row) = true)
    (a__law_kernel : PySem.W.nsIn K mainGlobals "_law_kernel" = some (some (.ref f__law_kernel)))
    (l__law_kernel : K.lookup f__law_kernel = some ⟨oc__law_kernel, od__law_kernel, .func (PySem.W.fnOf "_law_kernel" "_law_kernel" (defArgs s__law_kernel) (defBody s__law_kernel) (defScope s__law_kernel) .none kV__law_kernel dc__law_kernel pm__law_kernel an__law_kernel cd__law_kernel ct__law_kernel), sl__law_kernel⟩)
    (c__law_kernel : PySem.W.codeIn K cd__law_kernel "_law_kernel" = true)
    (k__law_kernel : PySem.W.keepIn K (.ref f__law_kernel) = true)
    (a__law_clash : PySem.W.nsIn K mainGlobals "_law_clash" = some (some (.ref f__law_clash)))
    (l__law_clash : K.lookup f__law_clash = some ⟨oc__law_clash, od__law_clash, .func (PySem.W.fnOf "_law_clash" "_law_clash" (defArgs s__law_clash) (defBody s__law_clash) (defScope s__law_clash) .none kV__law_clash dc__law_clash pm__law_clash an__law_clash cd__law_clash ct__law_clash), sl__law_clash⟩)
    (c__law_clash : PySem.W.codeIn K cd__law_clash "_law_clash" = true)
    (k__law_clash : PySem.W.keepIn K (.ref f__law_clash) = true)
    (a_law : PySem.W.nsIn K mainGlobals "law" = some (some (.ref f_law)))
    (l_law : K.lookup f_law = some ⟨oc_law, od_law, .func (PySem.W.fnOf "law" "law" (defArgs s_law) (defBody s_law) (defScope s_law) .none kV_law dc_law pm_law an_law cd_law ct_law), sl_law⟩)
    (c_law : PySem.W.codeIn K cd_law "law" = true)
    (k_law : PySem.W.keepIn K (.ref f_law) = true)
    (m_Machine : PySem.W.makesIn K C_Machine = true)
    (i_Machine : PySem.W.findIn K (.ref C_Machine) "__init__" = some (some (.ref f_Machine_init)))
    (t_Machine : PySem.W.isFn K (.ref f_Machine_init) = true)
    (kc_Machine : PySem.W.keepIn K (.ref C_Machine) = true)
    (l_Machine_init : K.lookup f_Machine_init = some ⟨oc_Machine_init, od_Machine_init, .func (PySem.W.fnOf "__init__" "Machine.__init__" (defArgs s_Machine_init) (defBody s_Machine_init) (defScope s_Machine_init) .none kV_Machine_init dc_Machine_init pm_Machine_init an_Machine_init cd_Machine_init ct_Machine_init), sl_Machine_init⟩)
    (c_Machine_init : PySem.W.codeIn K cd_Machine_init "Machine.__init__" = true)
    (k_Machine_init : PySem.W.keepIn K (.ref f_Machine_init) = true)
    (pg_Machine : PySem.W.plainGet K C_Machine Str.empty = true)
    (hd_Machine : PySem.W.hasDictIn K C_Machine = true)
    (po_Machine : PySem.W.plainOver K C_Machine = true)
    (sa_Machine : PySem.W.findIn K (.ref C_Machine) "__setattr__" = some (some (.builtin "object.__setattr__")))
    (z_abs : PySem.W.nsIn K mainGlobals "abs" = some none)
    (z_int : PySem.W.nsIn K mainGlobals "int" = some none)
    (z_list : PySem.W.nsIn K mainGlobals "list" = some none)
    (z_len : PySem.W.nsIn K mainGlobals "len" = some none)
    (z_range : PySem.W.nsIn K mainGlobals "range" = some none)
    (z_max : PySem.W.nsIn K mainGlobals "max" = some none)
    (z_min : PySem.W.nsIn K mainGlobals "min" = some none)
    (z_tuple : PySem.W.nsIn K mainGlobals "tuple" = some none)
    (tc3 : PySem.W.specialIn K (.builtin "object.__class__") "__get__" = some (some (.builtin "getset_descriptor.__get__")))
    (tc4 : PySem.W.takesIn K (.builtin "object.__class__") = some true)
    (tc2_Machine : PySem.W.findIn K (.ref C_Machine) "__class__" = some (some (.builtin "object.__class__")))
    (tc5_Machine : PySem.W.mroIn K C_Machine (.type "object") = some true)
    (kcl_Machine : PySem.W.clsIn K C_Machine = some cdt_Machine)
    (kty_Machine : PySem.W.typeIn K (.ref C_Machine) = some (.type "type"))
    (no_Machine_int : PySem.W.subIn K (.ref C_Machine) (.type "int") = some false)
    (no_Machine_bool : PySem.W.subIn K (.ref C_Machine) (.type "bool") = some false)
    (no_Machine_str : PySem.W.subIn K (.ref C_Machine) (.type "str") = some false)
    (no_Machine_tuple : PySem.W.subIn K (.ref C_Machine) (.type "tuple") = some false)
    (no_Machine_list : PySem.W.subIn K (.ref C_Machine) (.type "list") = some false)
    (no_Machine_dict : PySem.W.subIn K (.ref C_Machine) (.type "dict") = some false)
    (sy_Machine_NoneType : PySem.W.subIn K (.type "NoneType") (.ref C_Machine) = some false)
    (sy_Machine_bool : PySem.W.subIn K (.type "bool") (.ref C_Machine) = some false)
    (sy_Machine_int : PySem.W.subIn K (.type "int") (.ref C_Machine) = some false)
    (sy_Machine_str : PySem.W.subIn K (.type "str") (.ref C_Machine) = some false)
    (sy_Machine_tuple : PySem.W.subIn K (.type "tuple") (.ref C_Machine) = some false)
    (sy_Machine_list : PySem.W.subIn K (.type "list") (.ref C_Machine) = some false)
    (sy_Machine_dict : PySem.W.subIn K (.type "dict") (.ref C_Machine) = some false)
    (z_isinstance : PySem.W.nsIn K mainGlobals "isinstance" = some none)
    (z_bool : PySem.W.nsIn K mainGlobals "bool" = some none)
    (z_enumerate : PySem.W.nsIn K mainGlobals "enumerate" = some none)
    (n_Machine_commands : PySem.W.findIn K (.ref C_Machine) "commands" = some none)
    (n_Machine_steps : PySem.W.findIn K (.ref C_Machine) "steps" = some none)
    (n_Machine_states : PySem.W.findIn K (.ref C_Machine) "states" = some none)
    (z_str : PySem.W.nsIn K mainGlobals "str" = some none)
    (z_repr : PySem.W.nsIn K mainGlobals "repr" = some none)
    (z_all : PySem.W.nsIn K mainGlobals "all" = some none)
    (n_Machine__found : PySem.W.findIn K (.ref C_Machine) "_found" = some none)
    (sup_InvalidMachine : PySem.SupX.SupTxt l.prog K mg "InvalidMachine" "InvalidMachine.__init__" C_InvalidMachine fi_InvalidMachine)
    (sup_InvalidRow : PySem.SupX.SupTxt l.prog K mg "InvalidRow" "InvalidRow.__init__" C_InvalidRow fi_InvalidRow)
    (sup_Refused : PySem.SupX.SupTxt l.prog K mg "Refused" "Refused.__init__" C_Refused fi_Refused)
    (xb_InvalidRow : PySem.W.subIn K (.ref C_InvalidRow) (.type "BaseException") = some true)
    (xc_InvalidRow : PySem.W.clsIn K C_InvalidRow = some cde_InvalidRow)
    (xt_InvalidRow : PySem.W.typeIn K (.ref C_InvalidRow) = some (.type "type"))
    (x_Machine_InvalidRow : PySem.W.subIn K (.ref C_Machine) (.ref C_InvalidRow) = some false)
    (x_InvalidMachine_InvalidRow : PySem.W.subIn K (.ref C_InvalidMachine) (.ref C_InvalidRow) = some false)
    (x_InvalidRow_InvalidRow : PySem.W.subIn K (.ref C_InvalidRow) (.ref C_InvalidRow) = some true)
    (x_Refused_InvalidRow : PySem.W.subIn K (.ref C_Refused) (.ref C_InvalidRow) = some false)
    (xb_Refused : PySem.W.subIn K (.ref C_Refused) (.type "BaseException") = some true)
    (xc_Refused : PySem.W.clsIn K C_Refused = some cde_Refused)
    (xt_Refused : PySem.W.typeIn K (.ref C_Refused) = some (.type "type"))
    (x_Machine_Refused : PySem.W.subIn K (.ref C_Machine) (.ref C_Refused) = some false)
    (x_InvalidMachine_Refused : PySem.W.subIn K (.ref C_InvalidMachine) (.ref C_Refused) = some false)
    (x_InvalidRow_Refused : PySem.W.subIn K (.ref C_InvalidRow) (.ref C_Refused) = some false)
    (x_Refused_Refused : PySem.W.subIn K (.ref C_Refused) (.ref C_Refused) = some true) :
    ∃ fd : FuncData, (∀ (s : Shared) (v : Value), BindsTo s fd ⟨[v], []⟩ [("_law_script", v)]) ∧ ∀ base : Heap, K.In base → base.Ns mainGlobals mg → FnG l.prog w K mg base (L2.CX l.prog w) 10 fa fd ["_law_script"] (SpLawK K 63) := by
  have e := hfa.symm.trans (PySem.W.mg_of X G a_law)
  cases e
  refine ⟨PySem.W.fnOf "law" "law" (defArgs s_law) (defBody s_law) (defScope s_law) .none kV_law dc_law pm_law an_law cd_law ct_law, fun s v => .of_eq rfl, fun base _ _ => ?_⟩
  have T : Facts ⟨l.prog, w, K, mg, base, (fun c => if c = ("Machine" : Str) then some C_Machine else if c = ("InvalidMachine" : Str) then some C_InvalidMachine else if c = ("InvalidRow" : Str) then some C_InvalidRow else if c = ("Refused" : Str) then some C_Refused else none)⟩ := {
    d__law_draw := ⟨_, _, (fun_mk (st := s__law_draw) l__law_draw c__law_draw k__law_draw), PySem.W.mg_of X G a__law_draw⟩,
    b_abs := PySem.W.mg_none_of X G z_abs,
    b_int := PySem.W.mg_none_of X G z_int,
    d__law_any := ⟨_, _, (fun_mk (st := s__law_any) l__law_any c__law_any k__law_any), PySem.W.mg_of X G a__law_any⟩,
    d__law_mixed := ⟨_, _, (fun_mk (st := s__law_mixed) l__law_mixed c__law_mixed k__law_mixed), PySem.W.mg_of X G a__law_mixed⟩,
    b_list := PySem.W.mg_none_of X G z_list,
    b_len := PySem.W.mg_none_of X G z_len,
    d__law_columns := ⟨_, _, (fun_mk (st := s__law_columns) l__law_columns c__law_columns k__law_columns), PySem.W.mg_of X G a__law_columns⟩,
    b_range := PySem.W.mg_none_of X G z_range,
    d__law_guarded := ⟨_, _, (fun_mk (st := s__law_guarded) l__law_guarded c__law_guarded k__law_guarded), PySem.W.mg_of X G a__law_guarded⟩,
    d__law_of := ⟨_, _, (fun_mk (st := s__law_of) l__law_of c__law_of k__law_of), PySem.W.mg_of X G a__law_of⟩,
    d__law_column := ⟨_, _, (fun_mk (st := s__law_column) l__law_column c__law_column k__law_column), PySem.W.mg_of X G a__law_column⟩,
    b_max := PySem.W.mg_none_of X G z_max,
    b_min := PySem.W.mg_none_of X G z_min,
    d__law_machine := ⟨_, _, (fun_mk (st := s__law_machine) l__law_machine c__law_machine k__law_machine), PySem.W.mg_of X G a__law_machine⟩,
    d__law_beside := ⟨_, _, (fun_mk (st := s__law_beside) l__law_beside c__law_beside k__law_beside), PySem.W.mg_of X G a__law_beside⟩,
    d__law_blind := ⟨_, _, (fun_mk (st := s__law_blind) l__law_blind c__law_blind k__law_blind), PySem.W.mg_of X G a__law_blind⟩,
    d__law_few := ⟨_, _, (fun_mk (st := s__law_few) l__law_few c__law_few k__law_few), PySem.W.mg_of X G a__law_few⟩,
    b_tuple := PySem.W.mg_none_of X G z_tuple,
    d__law_stock := ⟨_, _, (fun_mk (st := s__law_stock) l__law_stock c__law_stock k__law_stock), PySem.W.mg_of X G a__law_stock⟩,
    d_is_sequence := ⟨_, _, (fun_mk (st := s_is_sequence) l_is_sequence c_is_sequence k_is_sequence), PySem.W.mg_of X G a_is_sequence⟩,
    tc := ⟨fun c Ca hc hq => by
        simp only [List.mem_cons, List.not_mem_nil, or_false] at hc
        rcases hc with rfl
        · cases (show ((fun c => if c = ("Machine" : Str) then some C_Machine else if c = ("InvalidMachine" : Str) then some C_InvalidMachine else if c = ("InvalidRow" : Str) then some C_InvalidRow else if c = ("Refused" : Str) then some C_Refused else none) : Str → Option Addr) "Machine" = some C_Machine from if_pos rfl).symm.trans hq; exact ⟨⟨pg_Machine, hd_Machine, po_Machine, sa_Machine⟩, tc2_Machine, tc3, tc4, tc5_Machine⟩
      , fun c Ca hc hq t ht => by
        simp only [List.mem_cons, List.not_mem_nil, or_false] at hc
        simp only [List.mem_cons, List.not_mem_nil, or_false] at ht
        rcases hc with rfl
        · cases (show ((fun c => if c = ("Machine" : Str) then some C_Machine else if c = ("InvalidMachine" : Str) then some C_InvalidMachine else if c = ("InvalidRow" : Str) then some C_InvalidRow else if c = ("Refused" : Str) then some C_Refused else none) : Str → Option Addr) "Machine" = some C_Machine from if_pos rfl).symm.trans hq; (rcases ht with rfl | rfl | rfl | rfl | rfl | rfl) <;> exact kit_sys (by assumption) (by decide)
      , fun c Ca c2 Ca2 hc hc2 hq hq2 => by
        simp only [List.mem_cons, List.not_mem_nil, or_false] at hc
        simp only [List.mem_cons, List.not_mem_nil, or_false] at hc2
        rcases hc with rfl
        · cases (show ((fun c => if c = ("Machine" : Str) then some C_Machine else if c = ("InvalidMachine" : Str) then some C_InvalidMachine else if c = ("InvalidRow" : Str) then some C_InvalidRow else if c = ("Refused" : Str) then some C_Refused else none) : Str → Option Addr) "Machine" = some C_Machine from if_pos rfl).symm.trans hq
          rcases hc2 with rfl
          · cases (show ((fun c => if c = ("Machine" : Str) then some C_Machine else if c = ("InvalidMachine" : Str) then some C_InvalidMachine else if c = ("InvalidRow" : Str) then some C_InvalidRow else if c = ("Refused" : Str) then some C_Refused else none) : Str → Option Addr) "Machine" = some C_Machine from if_pos rfl).symm.trans hq2; exact kit_self.trans (by decide)
      , fun c Ca hc hq t ht => by
        unfold tags at ht
        simp only [List.mem_cons, List.not_mem_nil, or_false] at hc
        simp only [List.mem_cons, List.not_mem_nil, or_false] at ht
        rcases hc with rfl
        · cases (show ((fun c => if c = ("Machine" : Str) then some C_Machine else if c = ("InvalidMachine" : Str) then some C_InvalidMachine else if c = ("InvalidRow" : Str) then some C_InvalidRow else if c = ("Refused" : Str) then some C_Refused else none) : Str → Option Addr) "Machine" = some C_Machine from if_pos rfl).symm.trans hq; (rcases ht with rfl | rfl | rfl | rfl | rfl | rfl | rfl) <;> exact kit_own kcl_Machine kty_Machine (by assumption) rfl
      ⟩,
    b_isinstance := PySem.W.mg_none_of X G z_isinstance,
    d_is_integer := ⟨_, _, (fun_mk (st := s_is_integer) l_is_integer c_is_integer k_is_integer), PySem.W.mg_of X G a_is_integer⟩,
    b_bool := PySem.W.mg_none_of X G z_bool,
    d_is_number := ⟨_, _, (fun_mk (st := s_is_number) l_is_number c_is_number k_is_number), PySem.W.mg_of X G a_is_number⟩,
    d_is_index := ⟨_, _, (fun_mk (st := s_is_index) l_is_index c_is_index k_is_index), PySem.W.mg_of X G a_is_index⟩,
    d_checked_row := ⟨_, _, (fun_mk (st := s_checked_row) l_checked_row c_checked_row k_checked_row), PySem.W.mg_of X G a_checked_row⟩,
    er_InvalidRow := ⟨_, _, _, (show ((fun c => if c = ("Machine" : Str) then some C_Machine else if c = ("InvalidMachine" : Str) then some C_InvalidMachine else if c = ("InvalidRow" : Str) then some C_InvalidRow else if c = ("Refused" : Str) then some C_Refused else none) : Str → Option Addr) "InvalidRow" = some C_InvalidRow from (if_neg (by decide)).trans ((if_neg (by decide)).trans (if_pos rfl))), sup_InvalidRow⟩,
    b_enumerate := PySem.W.mg_none_of X G z_enumerate,
    at_Machine_commands := ⟨_, (show ((fun c => if c = ("Machine" : Str) then some C_Machine else if c = ("InvalidMachine" : Str) then some C_InvalidMachine else if c = ("InvalidRow" : Str) then some C_InvalidRow else if c = ("Refused" : Str) then some C_Refused else none) : Str → Option Addr) "Machine" = some C_Machine from if_pos rfl), ⟨pg_Machine, hd_Machine, po_Machine, sa_Machine⟩, n_Machine_commands⟩,
    d_led := ⟨_, _, (fun_mk (st := s_led) l_led c_led k_led), PySem.W.mg_of X G a_led⟩,
    at_Machine_steps := ⟨_, (show ((fun c => if c = ("Machine" : Str) then some C_Machine else if c = ("InvalidMachine" : Str) then some C_InvalidMachine else if c = ("InvalidRow" : Str) then some C_InvalidRow else if c = ("Refused" : Str) then some C_Refused else none) : Str → Option Addr) "Machine" = some C_Machine from if_pos rfl), ⟨pg_Machine, hd_Machine, po_Machine, sa_Machine⟩, n_Machine_steps⟩,
    d_effect := ⟨_, _, (fun_mk (st := s_effect) l_effect c_effect k_effect), PySem.W.mg_of X G a_effect⟩,
    at_Machine_states := ⟨_, (show ((fun c => if c = ("Machine" : Str) then some C_Machine else if c = ("InvalidMachine" : Str) then some C_InvalidMachine else if c = ("InvalidRow" : Str) then some C_InvalidRow else if c = ("Refused" : Str) then some C_Refused else none) : Str → Option Addr) "Machine" = some C_Machine from if_pos rfl), ⟨pg_Machine, hd_Machine, po_Machine, sa_Machine⟩, n_Machine_states⟩,
    d_clash_behind := ⟨_, _, (fun_mk (st := s_clash_behind) l_clash_behind c_clash_behind k_clash_behind), PySem.W.mg_of X G a_clash_behind⟩,
    d_free_commands := ⟨_, _, (fun_mk (st := s_free_commands) l_free_commands c_free_commands k_free_commands), PySem.W.mg_of X G a_free_commands⟩,
    d__law_led := ⟨_, _, (fun_mk (st := s__law_led) l__law_led c__law_led k__law_led), PySem.W.mg_of X G a__law_led⟩,
    d__law_effect := ⟨_, _, (fun_mk (st := s__law_effect) l__law_effect c__law_effect k__law_effect), PySem.W.mg_of X G a__law_effect⟩,
    d_clash := ⟨_, _, (fun_mk (st := s_clash) l_clash c_clash k_clash), PySem.W.mg_of X G a_clash⟩,
    er_Refused := ⟨_, _, _, (show ((fun c => if c = ("Machine" : Str) then some C_Machine else if c = ("InvalidMachine" : Str) then some C_InvalidMachine else if c = ("InvalidRow" : Str) then some C_InvalidRow else if c = ("Refused" : Str) then some C_Refused else none) : Str → Option Addr) "Refused" = some C_Refused from (if_neg (by decide)).trans ((if_neg (by decide)).trans ((if_neg (by decide)).trans (if_pos rfl)))), sup_Refused⟩,
    d_is_free := ⟨_, _, (fun_mk (st := s_is_free) l_is_free c_is_free k_is_free), PySem.W.mg_of X G a_is_free⟩,
    d__law_answer := ⟨_, _, (fun_mk (st := s__law_answer) l__law_answer c__law_answer k__law_answer), PySem.W.mg_of X G a__law_answer⟩,
    ex_InvalidRow := ⟨C_InvalidRow, PySem.W.mg_of X G a_InvalidRow, fun c Cc hq _ => by
        by_cases e0 : c = "Machine"
        · subst e0; cases (show ((fun c => if c = ("Machine" : Str) then some C_Machine else if c = ("InvalidMachine" : Str) then some C_InvalidMachine else if c = ("InvalidRow" : Str) then some C_InvalidRow else if c = ("Refused" : Str) then some C_Refused else none) : Str → Option Addr) "Machine" = some C_Machine from if_pos rfl).symm.trans hq; exact (exm_own xb_InvalidRow xc_InvalidRow xt_InvalidRow x_Machine_InvalidRow).trans (by decide)
        by_cases e1 : c = "InvalidMachine"
        · subst e1; cases (show ((fun c => if c = ("Machine" : Str) then some C_Machine else if c = ("InvalidMachine" : Str) then some C_InvalidMachine else if c = ("InvalidRow" : Str) then some C_InvalidRow else if c = ("Refused" : Str) then some C_Refused else none) : Str → Option Addr) "InvalidMachine" = some C_InvalidMachine from (if_neg (by decide)).trans (if_pos rfl)).symm.trans hq; exact (exm_own xb_InvalidRow xc_InvalidRow xt_InvalidRow x_InvalidMachine_InvalidRow).trans (by decide)
        by_cases e2 : c = "InvalidRow"
        · subst e2; cases (show ((fun c => if c = ("Machine" : Str) then some C_Machine else if c = ("InvalidMachine" : Str) then some C_InvalidMachine else if c = ("InvalidRow" : Str) then some C_InvalidRow else if c = ("Refused" : Str) then some C_Refused else none) : Str → Option Addr) "InvalidRow" = some C_InvalidRow from (if_neg (by decide)).trans ((if_neg (by decide)).trans (if_pos rfl))).symm.trans hq; exact (exm_own xb_InvalidRow xc_InvalidRow xt_InvalidRow x_InvalidRow_InvalidRow).trans (by decide)
        by_cases e3 : c = "Refused"
        · subst e3; cases (show ((fun c => if c = ("Machine" : Str) then some C_Machine else if c = ("InvalidMachine" : Str) then some C_InvalidMachine else if c = ("InvalidRow" : Str) then some C_InvalidRow else if c = ("Refused" : Str) then some C_Refused else none) : Str → Option Addr) "Refused" = some C_Refused from (if_neg (by decide)).trans ((if_neg (by decide)).trans ((if_neg (by decide)).trans (if_pos rfl)))).symm.trans hq; exact (exm_own xb_InvalidRow xc_InvalidRow xt_InvalidRow x_Refused_InvalidRow).trans (by decide)
        cases (show ((fun c => if c = ("Machine" : Str) then some C_Machine else if c = ("InvalidMachine" : Str) then some C_InvalidMachine else if c = ("InvalidRow" : Str) then some C_InvalidRow else if c = ("Refused" : Str) then some C_Refused else none) : Str → Option Addr) c = none from (if_neg e0).trans ((if_neg e1).trans ((if_neg e2).trans ((if_neg e3).trans (rfl))))).symm.trans hq⟩,
    ex_Refused := ⟨C_Refused, PySem.W.mg_of X G a_Refused, fun c Cc hq _ => by
        by_cases e0 : c = "Machine"
        · subst e0; cases (show ((fun c => if c = ("Machine" : Str) then some C_Machine else if c = ("InvalidMachine" : Str) then some C_InvalidMachine else if c = ("InvalidRow" : Str) then some C_InvalidRow else if c = ("Refused" : Str) then some C_Refused else none) : Str → Option Addr) "Machine" = some C_Machine from if_pos rfl).symm.trans hq; exact (exm_own xb_Refused xc_Refused xt_Refused x_Machine_Refused).trans (by decide)
        by_cases e1 : c = "InvalidMachine"
        · subst e1; cases (show ((fun c => if c = ("Machine" : Str) then some C_Machine else if c = ("InvalidMachine" : Str) then some C_InvalidMachine else if c = ("InvalidRow" : Str) then some C_InvalidRow else if c = ("Refused" : Str) then some C_Refused else none) : Str → Option Addr) "InvalidMachine" = some C_InvalidMachine from (if_neg (by decide)).trans (if_pos rfl)).symm.trans hq; exact (exm_own xb_Refused xc_Refused xt_Refused x_InvalidMachine_Refused).trans (by decide)
        by_cases e2 : c = "InvalidRow"
        · subst e2; cases (show ((fun c => if c = ("Machine" : Str) then some C_Machine else if c = ("InvalidMachine" : Str) then some C_InvalidMachine else if c = ("InvalidRow" : Str) then some C_InvalidRow else if c = ("Refused" : Str) then some C_Refused else none) : Str → Option Addr) "InvalidRow" = some C_InvalidRow from (if_neg (by decide)).trans ((if_neg (by decide)).trans (if_pos rfl))).symm.trans hq; exact (exm_own xb_Refused xc_Refused xt_Refused x_InvalidRow_Refused).trans (by decide)
        by_cases e3 : c = "Refused"
        · subst e3; cases (show ((fun c => if c = ("Machine" : Str) then some C_Machine else if c = ("InvalidMachine" : Str) then some C_InvalidMachine else if c = ("InvalidRow" : Str) then some C_InvalidRow else if c = ("Refused" : Str) then some C_Refused else none) : Str → Option Addr) "Refused" = some C_Refused from (if_neg (by decide)).trans ((if_neg (by decide)).trans ((if_neg (by decide)).trans (if_pos rfl)))).symm.trans hq; exact (exm_own xb_Refused xc_Refused xt_Refused x_Refused_Refused).trans (by decide)
        cases (show ((fun c => if c = ("Machine" : Str) then some C_Machine else if c = ("InvalidMachine" : Str) then some C_InvalidMachine else if c = ("InvalidRow" : Str) then some C_InvalidRow else if c = ("Refused" : Str) then some C_Refused else none) : Str → Option Addr) c = none from (if_neg e0).trans ((if_neg e1).trans ((if_neg e2).trans ((if_neg e3).trans (rfl))))).symm.trans hq⟩,
    d__law_errors := ⟨_, _, (fun_mk (st := s__law_errors) l__law_errors c__law_errors k__law_errors), PySem.W.mg_of X G a__law_errors⟩,
    b_str := PySem.W.mg_none_of X G z_str,
    b_repr := PySem.W.mg_none_of X G z_repr,
    mk_Machine := ⟨_, _, _, (show ((fun c => if c = ("Machine" : Str) then some C_Machine else if c = ("InvalidMachine" : Str) then some C_InvalidMachine else if c = ("InvalidRow" : Str) then some C_InvalidRow else if c = ("Refused" : Str) then some C_Refused else none) : Str → Option Addr) "Machine" = some C_Machine from if_pos rfl), PySem.W.mg_of X G a_Machine, ⟨m_Machine, i_Machine, t_Machine, kc_Machine⟩, (fun_mk (st := s_Machine_init) l_Machine_init c_Machine_init k_Machine_init)⟩,
    er_InvalidMachine := ⟨_, _, _, (show ((fun c => if c = ("Machine" : Str) then some C_Machine else if c = ("InvalidMachine" : Str) then some C_InvalidMachine else if c = ("InvalidRow" : Str) then some C_InvalidRow else if c = ("Refused" : Str) then some C_Refused else none) : Str → Option Addr) "InvalidMachine" = some C_InvalidMachine from (if_neg (by decide)).trans (if_pos rfl)), sup_InvalidMachine⟩,
    b_all := PySem.W.mg_none_of X G z_all,
    at_Machine__found := ⟨_, (show ((fun c => if c = ("Machine" : Str) then some C_Machine else if c = ("InvalidMachine" : Str) then some C_InvalidMachine else if c = ("InvalidRow" : Str) then some C_InvalidRow else if c = ("Refused" : Str) then some C_Refused else none) : Str → Option Addr) "Machine" = some C_Machine from if_pos rfl), ⟨pg_Machine, hd_Machine, po_Machine, sa_Machine⟩, n_Machine__found⟩,
    d__law_row := ⟨_, _, (fun_mk (st := s__law_row) l__law_row c__law_row k__law_row), PySem.W.mg_of X G a__law_row⟩,
    d__law_kernel := ⟨_, _, (fun_mk (st := s__law_kernel) l__law_kernel c__law_kernel k__law_kernel), PySem.W.mg_of X G a__law_kernel⟩,
    d__law_clash := ⟨_, _, (fun_mk (st := s__law_clash) l__law_clash c__law_clash k__law_clash), PySem.W.mg_of X G a__law_clash⟩,
    d_law := ⟨_, _, (fun_mk (st := s_law) l_law c_law k_law), PySem.W.mg_of X G a_law⟩ }
  exact fn_okLaw (T := ⟨l.prog, w, K, mg, base, (fun c => if c = ("Machine" : Str) then some C_Machine else if c = ("InvalidMachine" : Str) then some C_InvalidMachine else if c = ("InvalidRow" : Str) then some C_InvalidRow else if c = ("Refused" : Str) then some C_Refused else none)⟩) (fun_mk (st := s_law) l_law c_law k_law) sc_law (fun cdv A outer s H E ns hO => pk_law.2 _ T fa cdv A outer s H E ns hO) law_true
end Gk21
open PySem PySem.W PyProof.Rows in
set_option maxRecDepth 100000 in
set_option maxHeartbeats 0 in
theorem PySem.Challenge.cw_lateslips_k21_commands_that_are_free_holds : PySem.Challenge.rw_lateslips_k21_commands_that_are_free.Holds := by
  w_on; o_law; k_head; (case hw => w_witness2)
  k_fill
  refine Pv.walkP (n := 63) (k := 10) (x := "_law_script") (l := PySem.Challenge.rw_lateslips_k21_commands_that_are_free) rfl (Nat.le_of_ble_eq_true rfl) rfl ⟨⟨rfl, by decide, by decide⟩, rfl⟩ (fun w h Y => PySem.W.kIn_of Y) ?F
  case F =>
    intro w mg fa h KX G hmg
    refine' Gk21.all_mk KX G hmg ?a_Machine ?a_InvalidMachine ?a_InvalidRow ?a_Refused ?a__law_draw ?l__law_draw ?c__law_draw ?k__law_draw ?a__law_any ?l__law_any ?c__law_any ?k__law_any ?a__law_mixed ?l__law_mixed ?c__law_mixed ?k__law_mixed ?a__law_columns ?l__law_columns ?c__law_columns ?k__law_columns ?a__law_guarded ?l__law_guarded ?c__law_guarded ?k__law_guarded ?a__law_of ?l__law_of ?c__law_of ?k__law_of ?a__law_column ?l__law_column ?c__law_column ?k__law_column ?a__law_machine ?l__law_machine ?c__law_machine ?k__law_machine ?a__law_beside ?l__law_beside ?c__law_beside ?k__law_beside ?a__law_blind ?l__law_blind ?c__law_blind ?k__law_blind ?a__law_few ?l__law_few ?c__law_few ?k__law_few ?a__law_stock ?l__law_stock ?c__law_stock ?k__law_stock ?a_is_sequence ?l_is_sequence ?c_is_sequence ?k_is_sequence ?a_is_integer ?l_is_integer ?c_is_integer ?k_is_integer ?a_is_number ?l_is_number ?c_is_number ?k_is_number ?a_is_index ?l_is_index ?c_is_index ?k_is_index ?a_checked_row ?l_checked_row ?c_checked_row ?k_checked_row ?a_led ?l_led ?c_led ?k_led ?a_effect ?l_effect ?c_effect ?k_effect ?a_clash_behind ?l_clash_behind ?c_clash_behind ?k_clash_behind ?a_free_commands ?l_free_commands ?c_free_commands ?k_free_commands ?a__law_led ?l__law_led ?c__law_led ?k__law_led ?a__law_effect ?l__law_effect ?c__law_effect ?k__law_effect ?a_clash ?l_clash ?c_clash ?k_clash ?a_is_free ?l_is_free ?c_is_free ?k_is_free ?a__law_answer ?l__law_answer ?c__law_answer ?k__law_answer ?a__law_errors ?l__law_errors ?c__law_errors ?k__law_errors ?a__law_row ?l__law_row ?c__law_row ?k__law_row ?a__law_kernel ?l__law_kernel ?c__law_kernel ?k__law_kernel ?a__law_clash ?l__law_clash ?c__law_clash ?k__law_clash ?a_law ?l_law ?c_law ?k_law ?m_Machine ?i_Machine ?t_Machine ?kc_Machine ?l_Machine_init ?c_Machine_init ?k_Machine_init ?pg_Machine ?hd_Machine ?po_Machine ?sa_Machine ?z_abs ?z_int ?z_list ?z_len ?z_range ?z_max ?z_min ?z_tuple ?tc3 ?tc4 ?tc2_Machine ?tc5_Machine ?kcl_Machine ?kty_Machine ?no_Machine_int ?no_Machine_bool ?no_Machine_str ?no_Machine_tuple ?no_Machine_list ?no_Machine_dict ?sy_Machine_NoneType ?sy_Machine_bool ?sy_Machine_int ?sy_Machine_str ?sy_Machine_tuple ?sy_Machine_list ?sy_Machine_dict ?z_isinstance ?z_bool ?z_enumerate ?n_Machine_commands ?n_Machine_steps ?n_Machine_states ?z_str ?z_repr ?z_all ?n_Machine__found ?sup_InvalidMachine ?sup_InvalidRow ?sup_Refused ?xb_InvalidRow ?xc_InvalidRow ?xt_InvalidRow ?x_Machine_InvalidRow ?x_InvalidMachine_InvalidRow ?x_InvalidRow_InvalidRow ?x_Refused_InvalidRow ?xb_Refused ?xc_Refused ?xt_Refused ?x_Machine_Refused ?x_InvalidMachine_Refused ?x_InvalidRow_Refused ?x_Refused_Refused
    (case a_Machine => k_is)
    (case a_InvalidMachine => k_is)
    (case a_InvalidRow => k_is)
    (case a_Refused => k_is)
    (case a__law_draw => k_is)
    (case l__law_draw => k_is)
    (case c__law_draw => k_is)
    (case k__law_draw => k_is)
    (case a__law_any => k_is)
    (case l__law_any => k_is)
    (case c__law_any => k_is)
    (case k__law_any => k_is)
    (case a__law_mixed => k_is)
    (case l__law_mixed => k_is)
    (case c__law_mixed => k_is)
    (case k__law_mixed => k_is)
    (case a__law_columns => k_is)
    (case l__law_columns => k_is)
    (case c__law_columns => k_is)
    (case k__law_columns => k_is)
    (case a__law_guarded => k_is)
    (case l__law_guarded => k_is)
    (case c__law_guarded => k_is)
    (case k__law_guarded => k_is)
    (case a__law_of => k_is)
    (case l__law_of => k_is)
    (case c__law_of => k_is)
    (case k__law_of => k_is)
    (case a__law_column => k_is)
    (case l__law_column => k_is)
    (case c__law_column => k_is)
    (case k__law_column => k_is)
    (case a__law_machine => k_is)
    (case l__law_machine => k_is)
    (case c__law_machine => k_is)
    (case k__law_machine => k_is)
    (case a__law_beside => k_is)
    (case l__law_beside => k_is)
    (case c__law_beside => k_is)
    (case k__law_beside => k_is)
    (case a__law_blind => k_is)
    (case l__law_blind => k_is)
    (case c__law_blind => k_is)
    (case k__law_blind => k_is)
    (case a__law_few => k_is)
    (case l__law_few => k_is)
    (case c__law_few => k_is)
    (case k__law_few => k_is)
    (case a__law_stock => k_is)
    (case l__law_stock => k_is)
    (case c__law_stock => k_is)
    (case k__law_stock => k_is)
    (case a_is_sequence => k_is)
    (case l_is_sequence => k_is)
    (case c_is_sequence => k_is)
    (case k_is_sequence => k_is)
    (case a_is_integer => k_is)
    (case l_is_integer => k_is)
    (case c_is_integer => k_is)
    (case k_is_integer => k_is)
    (case a_is_number => k_is)
    (case l_is_number => k_is)
    (case c_is_number => k_is)
    (case k_is_number => k_is)
    (case a_is_index => k_is)
    (case l_is_index => k_is)
    (case c_is_index => k_is)
    (case k_is_index => k_is)
    (case a_checked_row => k_is)
    (case l_checked_row => k_is)
    (case c_checked_row => k_is)
    (case k_checked_row => k_is)
    (case a_led => k_is)
    (case l_led => k_is)
    (case c_led => k_is)
    (case k_led => k_is)
    (case a_effect => k_is)
    (case l_effect => k_is)
    (case c_effect => k_is)
    (case k_effect => k_is)
    (case a_clash_behind => k_is)
    (case l_clash_behind => k_is)
    (case c_clash_behind => k_is)
    (case k_clash_behind => k_is)
    (case a_free_commands => k_is)
    (case l_free_commands => k_is)
    (case c_free_commands => k_is)
    (case k_free_commands => k_is)
    (case a__law_led => k_is)
    (case l__law_led => k_is)
    (case c__law_led => k_is)
    (case k__law_led => k_is)
    (case a__law_effect => k_is)
    (case l__law_effect => k_is)
    (case c__law_effect => k_is)
    (case k__law_effect => k_is)
    (case a_clash => k_is)
    (case l_clash => k_is)
    (case c_clash => k_is)
    (case k_clash => k_is)
    (case a_is_free => k_is)
    (case l_is_free => k_is)
    (case c_is_free => k_is)
    (case k_is_free => k_is)
    (case a__law_answer => k_is)
    (case l__law_answer => k_is)
    (case c__law_answer => k_is)
    (case k__law_answer => k_is)
    (case a__law_errors => k_is)
    (case l__law_errors => k_is)
    (case c__law_errors => k_is)
    (case k__law_errors => k_is)
    (case a__law_row => k_is)
    (case l__law_row => k_is)
    (case c__law_row => k_is)
    (case k__law_row => k_is)
    (case a__law_kernel => k_is)
    (case l__law_kernel => k_is)
    (case c__law_kernel => k_is)
    (case k__law_kernel => k_is)
    (case a__law_clash => k_is)
    (case l__law_clash => k_is)
    (case c__law_clash => k_is)
    (case k__law_clash => k_is)
    (case a_law => k_is)
    (case l_law => k_is)
    (case c_law => k_is)
    (case k_law => k_is)
    (case m_Machine => k_is)
    (case i_Machine => k_is)
    (case t_Machine => k_is)
    (case kc_Machine => k_is)
    (case l_Machine_init => k_is)
    (case c_Machine_init => k_is)
    (case k_Machine_init => k_is)
    (case pg_Machine => k_is)
    (case hd_Machine => k_is)
    (case po_Machine => k_is)
    (case sa_Machine => k_is)
    (case z_abs => k_is)
    (case z_int => k_is)
    (case z_list => k_is)
    (case z_len => k_is)
    (case z_range => k_is)
    (case z_max => k_is)
    (case z_min => k_is)
    (case z_tuple => k_is)
    (case tc3 => k_is)
    (case tc4 => k_is)
    (case tc2_Machine => k_is)
    (case tc5_Machine => k_is)
    (case kcl_Machine => k_is)
    (case kty_Machine => k_is)
    (case no_Machine_int => k_is)
    (case no_Machine_bool => k_is)
    (case no_Machine_str => k_is)
    (case no_Machine_tuple => k_is)
    (case no_Machine_list => k_is)
    (case no_Machine_dict => k_is)
    (case sy_Machine_NoneType => k_is)
    (case sy_Machine_bool => k_is)
    (case sy_Machine_int => k_is)
    (case sy_Machine_str => k_is)
    (case sy_Machine_tuple => k_is)
    (case sy_Machine_list => k_is)
    (case sy_Machine_dict => k_is)
    (case z_isinstance => k_is)
    (case z_bool => k_is)
    (case z_enumerate => k_is)
    (case n_Machine_commands => k_is)
    (case n_Machine_steps => k_is)
    (case n_Machine_states => k_is)
    (case z_str => k_is)
    (case z_repr => k_is)
    (case z_all => k_is)
    (case n_Machine__found => k_is)
    (case sup_InvalidMachine => refine' PySem.SupX.sup_mk (PySem.W.mg_of KX G ?gC) ?cls ?cls2 ?sa ?ga ?gg ?noN ?iC ?tC ?kC ?exC ?tyC ?hdC ?supm ?subS ?subV ?opq (PySem.W.mg_none_of KX G ?noS) ?top ?f1 ?f2 ?f3 ?f4 ?f5 ?f6 ?f7; (case gC => k_is); (case cls => k_is); (case cls2 => rfl); (case sa => k_is); (case ga => k_is); (case gg => k_is); (case noN => k_is); (case iC => k_is); (case tC => k_is); (case kC => k_is); (case exC => k_is); (case tyC => k_is); (case hdC => k_is); (case supm => ks_is); (case subS => k_is); (case subV => k_is); (case opq => k_is); (case noS => k_is); (case top => rfl); (case f1 => k_is); (case f2 => k_is); (case f3 => k_is); (case f4 => rfl); (case f5 => rfl); (case f6 => k_is); (case f7 => exact fun env => ⟨_, rfl⟩))
    (case sup_InvalidRow => refine' PySem.SupX.sup_mk (PySem.W.mg_of KX G ?gC) ?cls ?cls2 ?sa ?ga ?gg ?noN ?iC ?tC ?kC ?exC ?tyC ?hdC ?supm ?subS ?subV ?opq (PySem.W.mg_none_of KX G ?noS) ?top ?f1 ?f2 ?f3 ?f4 ?f5 ?f6 ?f7; (case gC => k_is); (case cls => k_is); (case cls2 => rfl); (case sa => k_is); (case ga => k_is); (case gg => k_is); (case noN => k_is); (case iC => k_is); (case tC => k_is); (case kC => k_is); (case exC => k_is); (case tyC => k_is); (case hdC => k_is); (case supm => ks_is); (case subS => k_is); (case subV => k_is); (case opq => k_is); (case noS => k_is); (case top => rfl); (case f1 => k_is); (case f2 => k_is); (case f3 => k_is); (case f4 => rfl); (case f5 => rfl); (case f6 => k_is); (case f7 => exact fun env => ⟨_, rfl⟩))
    (case sup_Refused => refine' PySem.SupX.sup_mk (PySem.W.mg_of KX G ?gC) ?cls ?cls2 ?sa ?ga ?gg ?noN ?iC ?tC ?kC ?exC ?tyC ?hdC ?supm ?subS ?subV ?opq (PySem.W.mg_none_of KX G ?noS) ?top ?f1 ?f2 ?f3 ?f4 ?f5 ?f6 ?f7; (case gC => k_is); (case cls => k_is); (case cls2 => rfl); (case sa => k_is); (case ga => k_is); (case gg => k_is); (case noN => k_is); (case iC => k_is); (case tC => k_is); (case kC => k_is); (case exC => k_is); (case tyC => k_is); (case hdC => k_is); (case supm => ks_is); (case subS => k_is); (case subV => k_is); (case opq => k_is); (case noS => k_is); (case top => rfl); (case f1 => k_is); (case f2 => k_is); (case f3 => k_is); (case f4 => rfl); (case f5 => rfl); (case f6 => k_is); (case f7 => exact fun env => ⟨_, rfl⟩))
    (case xb_InvalidRow => k_is)
    (case xc_InvalidRow => k_is)
    (case xt_InvalidRow => k_is)
    (case x_Machine_InvalidRow => k_is)
    (case x_InvalidMachine_InvalidRow => k_is)
    (case x_InvalidRow_InvalidRow => k_is)
    (case x_Refused_InvalidRow => k_is)
    (case xb_Refused => k_is)
    (case xc_Refused => k_is)
    (case xt_Refused => k_is)
    (case x_Machine_Refused => k_is)
    (case x_InvalidMachine_Refused => k_is)
    (case x_InvalidRow_Refused => k_is)
    (case x_Refused_Refused => k_is)
