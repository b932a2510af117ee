import PyProof.Rows.All
import Wide.All
import OpenK.AllK
import Wide.FinOn
import HandS.ForMost
import HandS.Exc
import HandS.TryOnly
import HandS.ExcOwn
import HandS.WordsExc
import HandS.TryMany
import HandS.IsInst
import HandS.ExcIs
import HandS.Conv
import HandS.CallLocal
import HandS.More
import HandS.Wide
import HandS.Deep
import HandS.Rev
import HandS.Text
import PySem.Challenge.RW_lastline_k12_whole_left_is_a_history
set_option Elab.async false
set_option linter.all false
set_option maxRecDepth 100000
set_option maxHeartbeats 4000000

/-! Lay: what a reading does, told by data alone. A state is told by its slots (data, or a pointer to an owned list or dict) and by the owned objects. -/
namespace Y
open PySem PySem.Spec L2

/-! ### data in a heap, every list and tuple tracked -/
mutual
inductive Rp (H : Hp) : V → PyData → Prop
  | non : Rp H .non .none
  | bl (b : Bool) : Rp H (.bl b) (.bool b)
  | int (i : Int) : Rp H (.int i) (.int i)
  | str (x : Str) : Rp H (.str x) (.str x)
  | lst {a : Addr} {xs : List V} {ds : List PyData} : H a = some (.lst xs) → RpA H xs ds → Rp H (.ref a) (.list ds)
  | tup {a : Addr} {xs : List V} {ds : List PyData} : H a = some (.tup xs) → RpA H xs ds → Rp H (.ref a) (.tuple ds)
inductive RpA (H : Hp) : List V → List PyData → Prop
  | nil : RpA H [] []
  | cons {v : V} {vs : List V} {d : PyData} {ds : List PyData} : Rp H v d → RpA H vs ds → RpA H (v :: vs) (d :: ds)
end
mutual
theorem Rp.mono {H H' : Hp} (e : Same H H') : ∀ (d : PyData) (v : V), Rp H v d → Rp H' v d
  | .none, _, h => by cases h; exact .non
  | .bool b, _, h => by cases h; exact .bl b
  | .int i, _, h => by cases h; exact .int i
  | .str x, _, h => by cases h; exact .str x
  | .list ds, _, h => by
    cases h with
    | lst h1 h2 => exact .lst (e _ _ h1) (RpA.mono e ds _ h2)
  | .tuple ds, _, h => by
    cases h with
    | tup h1 h2 => exact .tup (e _ _ h1) (RpA.mono e ds _ h2)
  | .dict _, _, h => by cases h
theorem RpA.mono {H H' : Hp} (e : Same H H') : ∀ (ds : List PyData) (vs : List V), RpA H vs ds → RpA H' vs ds
  | [], _, h => by cases h; exact .nil
  | d :: ds, _, h => by
    cases h with
    | cons h1 h2 => exact .cons (Rp.mono e d _ h1) (RpA.mono e ds _ h2)
end
mutual
theorem Rp.dp {K : PySem.W.Frag} {H : Hp} : ∀ (d : PyData) (v : V), Rp H v d → Dp K H v d
  | .none, _, h => by cases h; exact .non
  | .bool b, _, h => by cases h; exact .bl b
  | .int i, _, h => by cases h; exact .int i
  | .str x, _, h => by cases h; exact .str x
  | .list ds, _, h => by
    cases h with
    | lst h1 h2 => exact .lst (SqL.of h1) (RpA.dp ds _ h2)
  | .tuple ds, _, h => by
    cases h with
    | tup h1 h2 => exact .tup (SqT.of h1) (RpA.dp ds _ h2)
  | .dict _, _, h => by cases h
theorem RpA.dp {K : PySem.W.Frag} {H : Hp} : ∀ (ds : List PyData) (vs : List V), RpA H vs ds → DpAll K H vs ds
  | [], _, h => by cases h; exact .nil
  | d :: ds, _, h => by
    cases h with
    | cons h1 h2 => exact .cons (Rp.dp d _ h1) (RpA.dp ds _ h2)
end
/- no list within -/
mutual
def noL : PyData → Bool
  | .none => true
  | .bool _ => true
  | .int _ => true
  | .str _ => true
  | .list _ => false
  | .tuple ds => noLA ds
  | .dict _ => false
def noLA : List PyData → Bool
  | [] => true
  | d :: ds => noL d && noLA ds
end
/-- only the tuples of a heap -/
def tups (H : Hp) : Hp := fun b => match H b with
  | some (.tup xs) => some (.tup xs)
  | _ => none
theorem tups_of {H : Hp} {a : Addr} {xs : List V} (h : H a = some (.tup xs)) : tups H a = some (.tup xs) := by
  unfold tups; rw [h]
mutual
theorem Rp.tups {H : Hp} : ∀ (d : PyData) (v : V), noL d = true → Rp H v d → Rp (Y.tups H) v d
  | .none, _, _, h => by cases h; exact .non
  | .bool b, _, _, h => by cases h; exact .bl b
  | .int i, _, _, h => by cases h; exact .int i
  | .str x, _, _, h => by cases h; exact .str x
  | .list ds, _, n, h => by simp [noL] at n
  | .tuple ds, _, n, h => by
    cases h with
    | tup h1 h2 => exact .tup (tups_of h1) (RpA.tups ds _ (by simpa [noL] using n) h2)
  | .dict _, _, _, h => by cases h
theorem RpA.tups {H : Hp} : ∀ (ds : List PyData) (vs : List V), noLA ds = true → RpA H vs ds → RpA (Y.tups H) vs ds
  | [], _, _, h => by cases h; exact .nil
  | d :: ds, _, n, h => by
    cases h with
    | cons h1 h2 =>
      have n' : noL d = true ∧ noLA ds = true := by simpa [noLA] using n
      exact .cons (Rp.tups d _ n'.1 h1) (RpA.tups ds _ n'.2 h2)
end
theorem RpA.len {H : Hp} : ∀ {vs : List V} {ds : List PyData}, RpA H vs ds → vs.length = ds.length
  | _, _, .nil => rfl
  | _, _, .cons _ t => by simp [RpA.len t]
theorem RpA.get {H : Hp} : ∀ {vs : List V} {ds : List PyData} {i : Nat} {d : PyData}, RpA H vs ds → ds[i]? = some d → ∃ v, vs[i]? = some v ∧ Rp H v d
  | _, _, _, _, .nil, e => by simp at e
  | _, _, 0, _, .cons h _, e => by simp at e; subst e; exact ⟨_, rfl, h⟩
  | _, _, i + 1, _, .cons _ t, e => by
    obtain ⟨v, a, b⟩ := RpA.get (i := i) t (by simpa using e)
    exact ⟨v, by simpa using a, b⟩

/-! ### what is seen of a heap H by one who came at H0 and owns ps: neither what is owned nor the lists of H0 -/
def vis (ps : List (Option Addr)) (H0 H : Hp) : Hp := fun b => if some b ∈ ps then none else match H0 b with
  | none => H b
  | some (.tup xs) => some (.tup xs)
  | some _ => none
theorem vis_ps {ps : List (Option Addr)} {H0 H : Hp} {b : Addr} (h : some b ∈ ps) : vis ps H0 H b = none := if_pos h
theorem vis_new {ps : List (Option Addr)} {H0 H : Hp} {b : Addr} (h : ¬ some b ∈ ps) (h0 : H0 b = none) : vis ps H0 H b = H b := by
  unfold vis; rw [if_neg h, h0]
theorem vis_cases {ps : List (Option Addr)} {H0 H : Hp} {b : Addr} {o : HO} (h : vis ps H0 H b = some o) : ¬ some b ∈ ps ∧ ((H0 b = none ∧ H b = some o) ∨ (∃ xs, o = .tup xs ∧ H0 b = some (.tup xs))) := by
  unfold vis at h
  by_cases hb : some b ∈ ps
  · rw [if_pos hb] at h; cases h
  · rw [if_neg hb] at h
    refine ⟨hb, ?_⟩
    split at h
    · rename_i e
      exact .inl ⟨e, h⟩
    · rename_i xs e
      exact .inr ⟨xs, (Option.some.inj h).symm, e⟩
    · cases h
theorem vis_tup {ps : List (Option Addr)} {H0 H : Hp} {b : Addr} {xs : List V} (h : ¬ some b ∈ ps) (old : Same H0 H) (e : H b = some (.tup xs)) : vis ps H0 H b = some (.tup xs) := by
  unfold vis; rw [if_neg h]
  cases q : H0 b with
  | none => exact e
  | some u =>
    have := old _ _ q
    rw [e] at this
    cases this
    rfl
theorem vis_sub {ps : List (Option Addr)} {H0 H : Hp} (old : Same H0 H) : Same (vis ps H0 H) H := fun b o h => by
  obtain ⟨_, g⟩ := vis_cases h
  rcases g with ⟨_, g⟩ | ⟨xs, rfl, g⟩
  · exact g
  · exact old _ _ g
theorem vis_mono {ps : List (Option Addr)} {H0 H H' : Hp} (e : Same H H') : Same (vis ps H0 H) (vis ps H0 H') := fun b o h => by
  obtain ⟨n, g⟩ := vis_cases h
  rcases g with ⟨h0, g⟩ | ⟨xs, rfl, g⟩
  · rw [vis_new n h0]; exact e _ _ g
  · unfold vis; rw [if_neg n, g]
/-- an owned object changes: nothing is seen of it -/
theorem vis_upd {ps : List (Option Addr)} {H0 H : Hp} {p : Addr} {o : HO} (h : some p ∈ ps) : vis ps H0 (upd H p o) = vis ps H0 H := by
  funext b
  unfold vis
  by_cases hb : some b ∈ ps
  · rw [if_pos hb, if_pos hb]
  · rw [if_neg hb, if_neg hb]
    have : b ≠ p := fun e => hb (e ▸ h)
    rw [upd_ne this]
/-- one more is owned, that nobody knew -/
theorem vis_own {ps : List (Option Addr)} {H0 H H' : Hp} {p : Addr} (old : Same H0 H) (n : H p = none) (e : Same H H') : Same (vis ps H0 H) (vis (ps ++ [some p]) H0 H') := fun b o h => by
  have hb : b ≠ p := ne_of_none (vis_sub old _ _ h) n
  obtain ⟨nb, g⟩ := vis_cases h
  have nb' : ¬ some b ∈ ps ++ [some p] := fun z => by
    rcases List.mem_append.mp z with z | z
    · exact nb z
    · simp at z; exact hb z
  rcases g with ⟨h0, g⟩ | ⟨xs, rfl, g⟩
  · rw [vis_new nb' h0]; exact e _ _ g
  · unfold vis; rw [if_neg nb', g]
/-- what is seen with p owned is seen without -/
theorem vis_less {ps : List (Option Addr)} {H0 H : Hp} {q : Option Addr} : Same (vis (ps ++ [q]) H0 H) (vis ps H0 H) := fun b o h => by
  obtain ⟨nb, g⟩ := vis_cases h
  have nb' : ¬ some b ∈ ps := fun z => nb (List.mem_append_left _ z)
  rcases g with ⟨h0, g⟩ | ⟨xs, rfl, g⟩
  · rw [vis_new nb' h0]; exact g
  · unfold vis; rw [if_neg nb', g]
theorem vis_none {ps : List (Option Addr)} {H0 H : Hp} : Same (vis ps H0 H) (vis [] H0 H) := fun b o h => by
  obtain ⟨nb, g⟩ := vis_cases h
  have nb' : ¬ some b ∈ ([] : List (Option Addr)) := by simp
  rcases g with ⟨h0, g⟩ | ⟨xs, rfl, g⟩
  · rw [vis_new nb' h0]; exact g
  · unfold vis; rw [if_neg nb', g]
/-- what a callee made (it came at H1) is seen by the caller, whose own objects the callee knew as lists or dicts -/
theorem vis_call {ps : List (Option Addr)} {H0 H1 H2 : Hp} (old : Same H0 H1) (e : Same H1 H2) (thr : ∀ p, some p ∈ ps → ∃ o, H1 p = some o ∧ ∀ xs, o ≠ .tup xs) : Same (vis [] H1 H2) (vis ps H0 H2) := fun b o h => by
  obtain ⟨_, h⟩ := vis_cases h
  have nb : ¬ some b ∈ ps := fun z => by
    obtain ⟨u, hu, nu⟩ := thr b z
    rcases h with ⟨h1, _⟩ | ⟨xs, rfl, h1⟩
    · rw [h1] at hu; cases hu
    · rw [h1] at hu; cases hu; exact nu xs rfl
  rcases h with ⟨h1, h⟩ | ⟨xs, rfl, h1⟩
  · have h0 : H0 b = none := by
      cases q : H0 b with
      | none => rfl
      | some u => rw [old _ _ q] at h1; cases h1
    rw [vis_new nb h0]; exact h
  · exact vis_tup nb (old.trans e) (e _ _ h1)
/-- the tuples are seen -/
theorem vis_tups {ps : List (Option Addr)} {H0 H : Hp} (old : Same H0 H) (thr : ∀ p, some p ∈ ps → ∃ o, H p = some o ∧ ∀ xs, o ≠ .tup xs) : Same (Y.tups H) (vis ps H0 H) := fun b o h => by
  unfold Y.tups at h
  split at h
  · rename_i xs e
    cases h
    refine vis_tup (fun z => ?_) old e
    obtain ⟨u, hu, nu⟩ := thr b z
    rw [e] at hu; cases hu; exact nu xs rfl
  · cases h

/-! ### the state -/
inductive A where
  /-- data that holds no list of the entry's and none that is owned -/
  | dat (d : PyData)
  /-- the k-th owned object -/
  | ptr (k : Nat)
  /-- data as it stood at the entry -/
  | arg (d : PyData)
  /-- just this value -/
  | raw (v : V)
inductive Ob where
  | lst (as : List A)
  | dic (kvs : List (Key × V))
  | gone
abbrev Sl := List (Option A)
abbrev Om := List Ob
def Rv (ps : List (Option Addr)) (H0 H : Hp) : A → V → Prop
  | .dat d, v => Rp (vis ps H0 H) v d
  | .ptr k, v => ∃ p, ps[k]? = some (some p) ∧ v = .ref p
  | .arg d, v => Rp H0 v d
  | .raw u, v => v = u
inductive RvA (ps : List (Option Addr)) (H0 H : Hp) : List A → List V → Prop
  | nil : RvA ps H0 H [] []
  | cons {a : A} {as : List A} {v : V} {vs : List V} : Rv ps H0 H a v → RvA ps H0 H as vs → RvA ps H0 H (a :: as) (v :: vs)
def RO (ps : List (Option Addr)) (H0 H : Hp) : Ob → HO → Prop
  | .lst as, .lst vs => RvA ps H0 H as vs
  | .dic kvs, .dK kvs' => kvs' = kvs
  | .gone, .lst _ => True
  | _, _ => False
structure Inn (H0 : Hp) (ps : List (Option Addr)) (σ : St) (H : Hp) (vs : List V) (δ : Sl) (ω : Om) (as : List A) : Prop where
  nd : ∀ (j k : Nat) (p : Addr), ps[j]? = some (some p) → ps[k]? = some (some p) → j = k
  len : ps.length = ω.length
  old : Same H0 H
  new : ∀ p, some p ∈ ps → H0 p = none
  obs : ∀ (k : Nat) (o : Ob), ω[k]? = some o → (o = .gone ∧ ps[k]? = some none) ∨ ∃ p ho, ps[k]? = some (some p) ∧ H p = some ho ∧ RO ps H0 H o ho
  sl : σ.length = δ.length
  slot : ∀ (i : Nat) (a : A), δ[i]? = some (some a) → ∃ v, σ[i]? = some (some v) ∧ Rv ps H0 H a v
  stk : RvA ps H0 H as vs
def Sta (H0 : Hp) (σ : St) (H : Hp) (vs : List V) (δ : Sl) (ω : Om) (as : List A) : Prop := ∃ ps, Inn H0 ps σ H vs δ ω as

theorem Rv.of {ps ps' : List (Option Addr)} {H0 H H' : Hp} (e : Same (vis ps H0 H) (vis ps' H0 H')) (hp : ∀ (k : Nat) (p : Addr), ps[k]? = some (some p) → ps'[k]? = some (some p)) : ∀ {a : A} {v : V}, Rv ps H0 H a v → Rv ps' H0 H' a v
  | .dat d, v, h => Rp.mono e d v h
  | .ptr k, v, ⟨p, h, q⟩ => ⟨p, hp k p h, q⟩
  | .arg d, v, h => h
  | .raw u, v, h => h
theorem RvA.of {ps ps' : List (Option Addr)} {H0 H H' : Hp} (e : Same (vis ps H0 H) (vis ps' H0 H')) (hp : ∀ (k : Nat) (p : Addr), ps[k]? = some (some p) → ps'[k]? = some (some p)) : ∀ {as : List A} {vs : List V}, RvA ps H0 H as vs → RvA ps' H0 H' as vs
  | _, _, .nil => .nil
  | _, _, .cons h t => .cons (Rv.of e hp h) (RvA.of e hp t)
theorem RvA.len {ps : List (Option Addr)} {H0 H : Hp} : ∀ {as : List A} {vs : List V}, RvA ps H0 H as vs → vs.length = as.length
  | _, _, .nil => rfl
  | _, _, .cons _ t => by simp [RvA.len t]
theorem RvA.get {ps : List (Option Addr)} {H0 H : Hp} : ∀ {as : List A} {vs : List V} {i : Nat} {a : A}, RvA ps H0 H as vs → as[i]? = some a → ∃ v, vs[i]? = some v ∧ Rv ps H0 H a v
  | _, _, _, _, .nil, e => by simp at e
  | _, _, 0, _, .cons h _, e => by simp at e; subst e; exact ⟨_, rfl, h⟩
  | _, _, i + 1, _, .cons _ t, e => by
    obtain ⟨v, a, b⟩ := RvA.get (i := i) t (by simpa using e)
    exact ⟨v, by simpa using a, b⟩
theorem RvA.append {ps : List (Option Addr)} {H0 H : Hp} : ∀ {as bs : List A} {vs ws : List V}, RvA ps H0 H as vs → RvA ps H0 H bs ws → RvA ps H0 H (as ++ bs) (vs ++ ws)
  | _, _, _, _, .nil, h => h
  | _, _, _, _, .cons h t, k => .cons h (RvA.append t k)
theorem RvA.take {ps : List (Option Addr)} {H0 H : Hp} : ∀ {as : List A} {vs : List V} (n : Nat), RvA ps H0 H as vs → RvA ps H0 H (as.take n) (vs.take n)
  | _, _, 0, _ => .nil
  | _, _, _ + 1, .nil => .nil
  | _, _, n + 1, .cons h t => .cons h (RvA.take n t)
theorem RvA.drop {ps : List (Option Addr)} {H0 H : Hp} : ∀ {as : List A} {vs : List V} (n : Nat), RvA ps H0 H as vs → RvA ps H0 H (as.drop n) (vs.drop n)
  | _, _, 0, h => h
  | _, _, _ + 1, .nil => .nil
  | _, _, n + 1, .cons h t => RvA.drop n t
theorem RvA.set {ps : List (Option Addr)} {H0 H : Hp} {a : A} {v : V} (r : Rv ps H0 H a v) : ∀ {as : List A} {vs : List V} (i : Nat), RvA ps H0 H as vs → RvA ps H0 H (as.set i a) (vs.set i v)
  | _, _, _, .nil => .nil
  | _, _, 0, .cons _ t => .cons r t
  | _, _, i + 1, .cons h t => .cons h (RvA.set r i t)
theorem RvA.dats {ps : List (Option Addr)} {H0 H : Hp} : ∀ {ds : List PyData} {vs : List V}, RvA ps H0 H (ds.map .dat) vs → RpA (vis ps H0 H) vs ds
  | [], _, h => by cases h; exact .nil
  | d :: ds, _, h => by
    cases h with
    | cons h t => exact .cons h (RvA.dats t)
theorem RvA.of_dats {ps : List (Option Addr)} {H0 H : Hp} : ∀ {ds : List PyData} {vs : List V}, RpA (vis ps H0 H) vs ds → RvA ps H0 H (ds.map .dat) vs
  | _, _, .nil => .nil
  | _, _, .cons h t => .cons h (RvA.of_dats t)
theorem RvA.of_args {ps : List (Option Addr)} {H0 H : Hp} : ∀ {ds : List PyData} {vs : List V}, RpA H0 vs ds → RvA ps H0 H (ds.map .arg) vs
  | _, _, .nil => .nil
  | _, _, .cons h t => .cons h (RvA.of_args t)

section
variable {H0 : Hp} {ps : List (Option Addr)} {σ : St} {H H' : Hp} {vs : List V} {δ : Sl} {ω : Om} {as : List A}
theorem Inn.thr (I : Inn H0 ps σ H vs δ ω as) : ∀ p, some p ∈ ps → ∃ o, H p = some o ∧ ∀ xs, o ≠ .tup xs := fun p hp => by
  obtain ⟨k, hk⟩ := List.mem_iff_getElem?.mp hp
  have hl : k < ω.length := by
    rw [← I.len]
    exact (List.getElem?_eq_some_iff.mp hk).1
  rcases I.obs k ω[k] (List.getElem?_eq_getElem hl) with ⟨_, q⟩ | ⟨q, ho, h1, h2, r⟩
  · rw [hk] at q; cases q
  · rw [hk] at h1
    cases h1
    refine ⟨ho, h2, fun xs e => ?_⟩
    subst e
    cases o : ω[k] <;> rw [o] at r <;> exact r
/-- the heap grows -/
theorem Inn.grow (I : Inn H0 ps σ H vs δ ω as) (e : Same H H') : Inn H0 ps σ H' vs δ ω as where
  nd := I.nd
  len := I.len
  old := I.old.trans e
  new := I.new
  obs := fun k o h => by
    rcases I.obs k o h with q | ⟨p, ho, h1, h2, r⟩
    · exact .inl q
    · refine .inr ⟨p, ho, h1, e _ _ h2, ?_⟩
      cases o <;> cases ho <;> first | exact r | exact RvA.of (vis_mono e) (fun _ _ q => q) r
  sl := I.sl
  slot := fun i a h => let ⟨v, h1, h2⟩ := I.slot i a h; ⟨v, h1, h2.of (vis_mono e) (fun _ _ q => q)⟩
  stk := I.stk.of (vis_mono e) fun _ _ q => q
theorem Inn.push {a : A} {v : V} (I : Inn H0 ps σ H vs δ ω as) (r : Rv ps H0 H a v) : Inn H0 ps σ H (v :: vs) δ ω (a :: as) := { I with stk := .cons r I.stk }
theorem Inn.pop {a : A} {v : V} (I : Inn H0 ps σ H (v :: vs) δ ω (a :: as)) : Rv ps H0 H a v ∧ Inn H0 ps σ H vs δ ω as := by
  have r := I.stk
  cases r with
  | cons h t => exact ⟨h, { I with stk := t }⟩
/-- a new object, owned -/
theorem Inn.adopt {p : Addr} {o : Ob} {ho : HO} (I : Inn H0 ps σ H vs δ ω as) (n : H p = none) (e : Same H H') (hp : H' p = some ho) (r : RO (ps ++ [some p]) H0 H' o ho) : Inn H0 (ps ++ [some p]) σ H' (.ref p :: vs) δ (ω ++ [o]) (.ptr ω.length :: as) := by
  have np : ¬ some p ∈ ps := fun z => by
    obtain ⟨u, hu, _⟩ := I.thr p z
    rw [n] at hu; cases hu
  have v0 := vis_own (ps := ps) I.old n e
  have hpp : ∀ (k : Nat) (q : Addr), ps[k]? = some (some q) → (ps ++ [some p])[k]? = some (some q) := fun k q h => by
    rw [List.getElem?_append_left (List.getElem?_eq_some_iff.mp h).1]; exact h
  have back : ∀ (k : Nat) (q : Addr), (ps ++ [some p])[k]? = some (some q) → ps[k]? = some (some q) ∨ (k = ps.length ∧ q = p) := fun k q h => by
    by_cases hk : k < ps.length
    · rw [List.getElem?_append_left hk] at h; exact .inl h
    · rw [List.getElem?_append_right (Nat.le_of_not_lt hk)] at h
      have hk2 : k - ps.length = 0 := by
        cases hz : k - ps.length with
        | zero => rfl
        | succ m => rw [hz] at h; simp at h
      rw [hk2] at h
      simp at h
      exact .inr ⟨by omega, h.symm⟩
  refine ⟨fun j k q h1 h2 => ?_, by simp [I.len], I.old.trans e, fun q hq => ?_, fun k u h => ?_, I.sl, fun i a h => ?_, .cons ⟨p, by rw [← I.len]; simp, rfl⟩ (I.stk.of v0 hpp)⟩
  · rcases back j q h1 with h1 | ⟨j1, e1⟩ <;> rcases back k q h2 with h2 | ⟨k1, e2⟩
    · exact I.nd j k q h1 h2
    · exact absurd (List.mem_of_getElem? h1) (e2 ▸ np)
    · exact absurd (List.mem_of_getElem? h2) (e1 ▸ np)
    · omega
  · rcases List.mem_append.mp hq with z | z
    · exact I.new q z
    · simp at z
      subst z
      cases h0 : H0 q with
      | none => rfl
      | some u => rw [I.old _ _ h0] at n; cases n
  · by_cases hk : k < ω.length
    · rw [List.getElem?_append_left hk] at h
      rcases I.obs k u h with ⟨q1, q2⟩ | ⟨q, hq, h1, h2, r2⟩
      · refine .inl ⟨q1, ?_⟩
        rw [List.getElem?_append_left (by rw [I.len]; exact hk)]; exact q2
      · refine .inr ⟨q, hq, hpp k q h1, e _ _ h2, ?_⟩
        cases u <;> cases hq <;> first | exact r2 | exact RvA.of v0 hpp r2
    · rw [List.getElem?_append_right (Nat.le_of_not_lt hk)] at h
      have hk2 : k - ω.length = 0 := by
        cases hz : k - ω.length with
        | zero => rfl
        | succ m => rw [hz] at h; simp at h
      rw [hk2] at h
      simp at h
      subst h
      refine .inr ⟨p, ho, ?_, hp, r⟩
      have : k = ps.length := by rw [I.len]; omega
      rw [this]; simp
  · obtain ⟨v, h1, h2⟩ := I.slot i a h
    exact ⟨v, h1, h2.of v0 hpp⟩
theorem Inn.make {p : Addr} {o : Ob} {ho : HO} (I : Inn H0 ps σ H vs δ ω as) (n : H p = none) (r : RO (ps ++ [some p]) H0 (upd H p ho) o ho) : Inn H0 (ps ++ [some p]) σ (upd H p ho) (.ref p :: vs) δ (ω ++ [o]) (.ptr ω.length :: as) :=
  I.adopt n (fun b u q => by rw [upd_ne (ne_of_none q n)]; exact q) upd_same r
/-- an owned object changes -/
theorem Inn.change {k : Nat} {p : Addr} {o : Ob} {ho : HO} (I : Inn H0 ps σ H vs δ ω as) (hp : ps[k]? = some (some p)) (hk : k < ω.length) (r : RO ps H0 H o ho) (nt : ∀ xs, ho ≠ .tup xs) : Inn H0 ps σ (upd H p ho) vs δ (ω.set k o) as := by
  have mp : some p ∈ ps := List.mem_of_getElem? hp
  have ev : vis ps H0 (upd H p ho) = vis ps H0 H := vis_upd mp
  have same : Same (vis ps H0 H) (vis ps H0 (upd H p ho)) := fun b u q => by rw [ev]; exact q
  refine ⟨I.nd, by rw [List.length_set]; exact I.len, fun b u q => ?_, I.new, fun j u h => ?_, I.sl, fun i a h => ?_, I.stk.of same fun _ _ q => q⟩
  · rw [upd_ne (ne_of_none q (I.new p mp))]; exact I.old _ _ q
  · by_cases hj : j = k
    · subst hj
      rw [List.getElem?_set_self hk] at h
      cases h
      refine .inr ⟨p, ho, hp, upd_same, ?_⟩
      cases o <;> cases ho <;> first | exact r | exact RvA.of same (fun _ _ q => q) r
    · rw [List.getElem?_set_ne (fun e => hj e.symm)] at h
      rcases I.obs j u h with q | ⟨q, hq, h1, h2, r2⟩
      · exact .inl q
      · have hqp : q ≠ p := fun e => hj (I.nd j k q h1 (e ▸ hp))
        refine .inr ⟨q, hq, h1, by rw [upd_ne hqp]; exact h2, ?_⟩
        cases u <;> cases hq <;> first | exact r2 | exact RvA.of same (fun _ _ q => q) r2
  · obtain ⟨v, h1, h2⟩ := I.slot i a h
    exact ⟨v, h1, h2.of same fun _ _ q => q⟩
/-- what is read off an owned list -/
theorem Inn.at_ {k : Nat} {bs : List A} (I : Inn H0 ps σ H vs δ ω as) (h : ω[k]? = some (.lst bs)) : ∃ p xs, ps[k]? = some (some p) ∧ H p = some (.lst xs) ∧ RvA ps H0 H bs xs := by
  rcases I.obs k _ h with ⟨q, _⟩ | ⟨p, ho, h1, h2, r⟩
  · cases q
  · cases ho <;> first | exact r.elim | exact ⟨p, _, h1, h2, r⟩
theorem Inn.atD {k : Nat} {kvs : List (Key × V)} (I : Inn H0 ps σ H vs δ ω as) (h : ω[k]? = some (.dic kvs)) : ∃ p, ps[k]? = some (some p) ∧ H p = some (.dK kvs) := by
  rcases I.obs k _ h with ⟨q, _⟩ | ⟨p, ho, h1, h2, r⟩
  · cases q
  · cases ho <;> first | exact r.elim | (have r' := (show _ = _ from r); subst r'; exact ⟨p, h1, h2⟩)
end
end Y

/-! Lay2: judgements on expressions, and their rules. -/
namespace Y
open PySem PySem.Spec L2

section
variable {H0 : Hp} {σ : L2.St} {H H' : Hp} {vs : List V} {δ : Sl} {ω : Om} {as : List A}
theorem Sta.grow (S : Sta H0 σ H vs δ ω as) (e : Same H H') : Sta H0 σ H' vs δ ω as := let ⟨ps, I⟩ := S; ⟨ps, I.grow e⟩
theorem Sta.pop {a : A} {v : V} (S : Sta H0 σ H (v :: vs) δ ω (a :: as)) : Sta H0 σ H vs δ ω as := let ⟨ps, I⟩ := S; ⟨ps, I.pop.2⟩
theorem Sta.old (S : Sta H0 σ H vs δ ω as) : Same H0 H := let ⟨_, I⟩ := S; I.old
/-- a flat thing -/
def Flat (v : V) (d : PyData) : Prop := ∀ H : Hp, Rp H v d
theorem Sta.flat {v : V} {d : PyData} (S : Sta H0 σ H vs δ ω as) (f : Flat v d) : Sta H0 σ H (v :: vs) δ ω (.dat d :: as) := let ⟨ps, I⟩ := S; ⟨ps, I.push (f _)⟩
theorem fl_int (i : Int) : Flat (.int i) (.int i) := fun _ => .int i
theorem fl_bl (b : Bool) : Flat (.bl b) (.bool b) := fun _ => .bl b
theorem fl_str (x : Str) : Flat (.str x) (.str x) := fun _ => .str x
theorem fl_non : Flat .non .none := fun _ => .non
/-- a new tuple of data -/
theorem Sta.tuple {p : Addr} {xs : List V} {ds : List PyData} (S : Sta H0 σ H (xs ++ vs) δ ω (ds.map .dat ++ as)) (hl : xs.length = ds.length) (n : H p = none) : Sta H0 σ (upd H p (.tup xs)) (.ref p :: vs) δ ω (.dat (.tuple ds) :: as) := by
  obtain ⟨ps, I⟩ := S
  have e : Same H (upd H p (.tup xs)) := fun b u q => by rw [upd_ne (ne_of_none q n)]; exact q
  have J := I.grow e
  have np : ¬ some p ∈ ps := fun z => by
    obtain ⟨u, hu, _⟩ := I.thr p z
    rw [n] at hu; cases hu
  have h0 : H0 p = none := by
    cases h0 : H0 p with
    | none => rfl
    | some u => rw [I.old _ _ h0] at n; cases n
  have split : ∀ {as1 as2 : List A} {vs1 vs2 : List V}, vs1.length = as1.length → RvA ps H0 (upd H p (.tup xs)) (as1 ++ as2) (vs1 ++ vs2) → RvA ps H0 (upd H p (.tup xs)) as1 vs1 ∧ RvA ps H0 (upd H p (.tup xs)) as2 vs2 := by
    intro as1
    induction as1 with
    | nil =>
      intro as2 vs1 vs2 hl h
      cases vs1 with
      | nil => exact ⟨.nil, h⟩
      | cons => simp at hl
    | cons a as1 ih =>
      intro as2 vs1 vs2 hl h
      cases vs1 with
      | nil => simp at hl
      | cons v vs1 =>
        cases h with
        | cons h t =>
          obtain ⟨q1, q2⟩ := ih (by simpa using hl) t
          exact ⟨.cons h q1, q2⟩
  obtain ⟨q1, q2⟩ := split (by simpa using hl) J.stk
  refine ⟨ps, { J with stk := .cons (.tup (xs := xs) ?_ q1.dats) q2 }⟩
  rw [vis_new np h0]; exact upd_same
end
theorem RvA.split {ps : List (Option Addr)} {H0 H : Hp} : ∀ {as1 as2 : List A} {vs1 vs2 : List V}, vs1.length = as1.length → RvA ps H0 H (as1 ++ as2) (vs1 ++ vs2) → RvA ps H0 H as1 vs1 ∧ RvA ps H0 H as2 vs2
  | [], _, [], _, _, h => ⟨.nil, h⟩
  | [], _, _ :: _, _, hl, _ => by simp at hl
  | _ :: _, _, [], _, hl, _ => by simp at hl
  | a :: as1, as2, v :: vs1, vs2, hl, .cons h t =>
    let ⟨q1, q2⟩ := RvA.split (as1 := as1) (by simpa using hl) t
    ⟨.cons h q1, q2⟩

/-! ### which pointers are used -/
def ScA (n : Nat) : A → Prop
  | .ptr k => k < n
  | _ => True
structure Scp (n : Nat) (δ : Sl) (ω : Om) (stk bs : List A) : Prop where
  sl : ∀ (i : Nat) (a : A), δ[i]? = some (some a) → ScA n a
  st : ∀ a ∈ stk, ScA n a
  ob : ∀ (k : Nat) (cs : List A), ω[k]? = some (.lst cs) → ∀ a ∈ cs, ScA n a
  it : ∀ a ∈ bs, ScA n a
theorem Rv.sc {ps : List (Option Addr)} {H0 H : Hp} : ∀ {a : A} {v : V}, Rv ps H0 H a v → ScA ps.length a
  | .dat _, _, _ => trivial
  | .ptr k, _, ⟨_, h, _⟩ => (List.getElem?_eq_some_iff.mp h).1
  | .arg _, _, _ => trivial
  | .raw _, _, _ => trivial
theorem RvA.sc {ps : List (Option Addr)} {H0 H : Hp} : ∀ {as : List A} {vs : List V}, RvA ps H0 H as vs → ∀ a ∈ as, ScA ps.length a
  | _, _, .nil, _, h => by simp at h
  | _, _, .cons h t, a, m => by
    rcases List.mem_cons.mp m with e | m
    · subst e; exact h.sc
    · exact t.sc a m
theorem Inn.scp {H0 : Hp} {ps : List (Option Addr)} {σ : L2.St} {H : Hp} {vs : List V} {δ : Sl} {ω : Om} {as bs : List A} {ws : List V} (I : Inn H0 ps σ H vs δ ω as) (r : RvA ps H0 H bs ws) : Scp ω.length δ ω as bs := by
  rw [← I.len]
  refine ⟨fun i a h => ?_, fun a h => I.stk.sc a h, fun k cs h => ?_, fun a h => r.sc a h⟩
  · obtain ⟨v, _, r⟩ := I.slot i a h
    exact r.sc
  · obtain ⟨p, xs, _, _, r⟩ := I.at_ h
    exact r.sc
theorem Rv.cut {ps : List (Option Addr)} {q : Option Addr} {H0 H : Hp} : ∀ {a : A} {v : V}, ScA ps.length a → Rv (ps ++ [q]) H0 H a v → Rv ps H0 H a v
  | .dat d, v, _, h => Rp.mono vis_less d v h
  | .ptr k, v, s, ⟨p, h, e⟩ => ⟨p, by rw [List.getElem?_append_left s] at h; exact h, e⟩
  | .arg d, v, _, h => h
  | .raw u, v, _, h => h
theorem RvA.cut {ps : List (Option Addr)} {q : Option Addr} {H0 H : Hp} : ∀ {as : List A} {vs : List V}, (∀ a ∈ as, ScA ps.length a) → RvA (ps ++ [q]) H0 H as vs → RvA ps H0 H as vs
  | _, _, _, .nil => .nil
  | _, _, s, .cons h t => .cons (h.cut (s _ List.mem_cons_self)) (t.cut fun a m => s a (List.mem_cons_of_mem _ m))
/-- a new list is taken as data -/
theorem Sta.froze {H0 : Hp} {σ : L2.St} {H : Hp} {v : V} {vs : List V} {δ : Sl} {ω : Om} {as : List A} {ds : List PyData} (S : Sta H0 σ H (v :: vs) δ (ω ++ [.lst (ds.map .dat)]) (.ptr ω.length :: as)) (c : Scp ω.length δ ω as (ds.map .dat)) :
    Sta H0 σ H (v :: vs) δ ω (.dat (.list ds) :: as) := by
  obtain ⟨ps, I⟩ := S
  obtain ⟨p, xs, hp, hH, r⟩ := I.at_ (k := ω.length) (bs := ds.map .dat) (by simp)
  have hlen := I.len
  rw [List.length_append, List.length_singleton] at hlen
  have hne : ps ≠ [] := fun e => by rw [e] at hlen; simp at hlen
  obtain ⟨ps', q, rfl⟩ : ∃ ps' q, ps = ps' ++ [q] := ⟨ps.dropLast, ps.getLast hne, (List.dropLast_concat_getLast hne).symm⟩
  have hl' : ps'.length = ω.length := by simpa using hlen
  have hq : q = some p := by
    rw [← hl'] at hp
    simpa using hp
  subst hq
  have np : ¬ some p ∈ ps' := fun z => by
    obtain ⟨j, hj⟩ := List.mem_iff_getElem?.mp z
    have hjl := (List.getElem?_eq_some_iff.mp hj).1
    have := I.nd j ω.length p (by rw [List.getElem?_append_left hjl]; exact hj) hp
    omega
  have h0 := I.new p (by simp)
  have hv : v = .ref p := by
    obtain ⟨⟨p', h1, h2⟩, _⟩ := I.pop
    rw [hp] at h1
    cases h1
    exact h2
  subst hv
  refine ⟨ps', fun j k b h1 h2 => ?_, hl', I.old, fun b hb => I.new b (List.mem_append_left _ hb), fun k o h => ?_, I.sl, fun i a h => ?_, .cons (.lst (xs := xs) (by rw [vis_new np h0]; exact hH) (RpA.mono vis_less ds _ r.dats)) ((I.pop.2.stk).cut (by rw [hl']; exact c.st))⟩
  · exact I.nd j k b (by rw [List.getElem?_append_left (List.getElem?_eq_some_iff.mp h1).1]; exact h1) (by rw [List.getElem?_append_left (List.getElem?_eq_some_iff.mp h2).1]; exact h2)
  · have hk := (List.getElem?_eq_some_iff.mp h).1
    rcases I.obs k o (by rw [List.getElem?_append_left hk]; exact h) with ⟨e, z⟩ | ⟨b, ho, h1, h2, r2⟩
    · rw [List.getElem?_append_left (by rw [hl']; exact hk)] at z
      exact .inl ⟨e, z⟩
    · rw [List.getElem?_append_left (by rw [hl']; exact hk)] at h1
      refine .inr ⟨b, ho, h1, h2, ?_⟩
      cases o <;> cases ho <;> first | exact r2 | exact RvA.cut (by rw [hl']; exact c.ob k _ h) r2
  · obtain ⟨u, h1, h2⟩ := I.slot i a h
    exact ⟨u, h1, h2.cut (by rw [hl']; exact c.sl i a h)⟩

/-! ### lists and tuples read -/
inductive Itm (K : PySem.W.Frag) (H0 : Hp) (ω : Om) : A → List A → Prop
  | dat (ds : List PyData) : Itm K H0 ω (.dat (.list ds)) (ds.map .dat)
  | arg (ds : List PyData) : Itm K H0 ω (.arg (.list ds)) (ds.map .arg)
  | argT (ds : List PyData) (h : noLA ds = true) : Itm K H0 ω (.arg (.list ds)) (ds.map .dat)
  | ptr {k : Nat} {as : List A} (h : ω[k]? = some (.lst as)) : Itm K H0 ω (.ptr k) as
  | scr {a : Addr} {ns : List Int} (h : SqL K H0 a (ns.map V.int)) : Itm K H0 ω (.raw (.ref a)) (ns.map fun n => .dat (.int n))
inductive Tpl : A → List PyData → Prop
  | dat (ds : List PyData) : Tpl (.dat (.tuple ds)) ds
  | arg (ds : List PyData) (h : noLA ds = true) : Tpl (.arg (.tuple ds)) ds
theorem Inn.argT {H0 : Hp} {ps : List (Option Addr)} {σ : L2.St} {H : Hp} {vs : List V} {δ : Sl} {ω : Om} {as : List A} (I : Inn H0 ps σ H vs δ ω as) : Same (tups H0) (vis ps H0 H) := fun b o h => by
  unfold tups at h
  split at h
  · rename_i xs e
    cases h
    exact vis_tup (fun z => by rw [I.new b z] at e; cases e) I.old (I.old _ _ e)
  · cases h
theorem Inn.argD {H0 : Hp} {ps : List (Option Addr)} {σ : L2.St} {H : Hp} {vs : List V} {δ : Sl} {ω : Om} {as : List A} (I : Inn H0 ps σ H vs δ ω as) {d : PyData} {v : V} (h : noL d = true) (r : Rp H0 v d) : Rp (vis ps H0 H) v d := Rp.mono I.argT d v (Rp.tups d v h r)
theorem rva_ints {ps : List (Option Addr)} {H0 H : Hp} : ∀ ns : List Int, RvA ps H0 H (ns.map fun n => .dat (.int n)) (ns.map V.int)
  | [] => .nil
  | n :: ns => .cons (.int n) (rva_ints ns)
section
variable {K : PySem.W.Frag} {H0 : Hp} {ps : List (Option Addr)} {σ : L2.St} {H : Hp} {vs : List V} {δ : Sl} {ω : Om} {as bs : List A} {a : A} {v : V}
theorem Itm.get (h : Itm K H0 ω a bs) (I : Inn H0 ps σ H vs δ ω as) (r : Rv ps H0 H a v) : ∃ p xs, v = .ref p ∧ SqL K H p xs ∧ RvA ps H0 H bs xs ∧ ((∀ u, a ≠ .raw u) → H p = some (.lst xs)) := by
  cases h with
  | dat ds =>
    cases (show Rp _ _ _ from r) with
    | lst h1 h2 =>
      have e := vis_sub I.old _ _ h1
      exact ⟨_, _, rfl, SqL.of e, .of_dats h2, fun _ => e⟩
  | arg ds =>
    cases (show Rp _ _ _ from r) with
    | lst h1 h2 =>
      have e := I.old _ _ h1
      exact ⟨_, _, rfl, SqL.of e, .of_args h2, fun _ => e⟩
  | argT ds n =>
    cases (show Rp _ _ _ from r) with
    | lst h1 h2 =>
      have e := I.old _ _ h1
      exact ⟨_, _, rfl, SqL.of e, .of_dats (RpA.mono I.argT ds _ (RpA.tups ds _ n h2)), fun _ => e⟩
  | ptr hk =>
    obtain ⟨p, h1, rfl⟩ := r
    obtain ⟨p', xs, h2, h3, h4⟩ := I.at_ hk
    rw [h1] at h2
    cases h2
    exact ⟨p, xs, rfl, SqL.of h3, h4, fun _ => h3⟩
  | @scr b ns hs =>
    have e : v = .ref b := r
    subst e
    exact ⟨b, _, rfl, I.old.seq hs, rva_ints ns, fun z => absurd rfl (z _)⟩
theorem Tpl.get {ds : List PyData} (h : Tpl a ds) (I : Inn H0 ps σ H vs δ ω as) (r : Rv ps H0 H a v) : ∃ p xs, v = .ref p ∧ H p = some (.tup xs) ∧ RpA (vis ps H0 H) xs ds := by
  cases h with
  | dat =>
    cases (show Rp _ _ _ from r) with
    | tup h1 h2 => exact ⟨_, _, rfl, vis_sub I.old _ _ h1, h2⟩
  | arg _ n =>
    cases (show Rp _ _ _ from r) with
    | tup h1 h2 => exact ⟨_, _, rfl, I.old _ _ h1, RpA.mono I.argT ds _ (RpA.tups ds _ n h2)⟩
end
/- what an abstract value is as data, now -/
mutual
inductive Rd (ω : Om) : A → PyData → Prop
  | dat (d : PyData) : Rd ω (.dat d) d
  | arg (d : PyData) : Rd ω (.arg d) d
  | ptr {k : Nat} {as : List A} {ds : List PyData} : ω[k]? = some (.lst as) → RdA ω as ds → Rd ω (.ptr k) (.list ds)
inductive RdA (ω : Om) : List A → List PyData → Prop
  | nil : RdA ω [] []
  | cons {a : A} {as : List A} {d : PyData} {ds : List PyData} : Rd ω a d → RdA ω as ds → RdA ω (a :: as) (d :: ds)
end
theorem RdA.dats {ω : Om} : ∀ ds : List PyData, RdA ω (ds.map .dat) ds
  | [] => .nil
  | d :: ds => .cons (.dat d) (RdA.dats ds)
section
variable {H0 : Hp} {ps : List (Option Addr)} {σ : L2.St} {H : Hp} {vs : List V} {δ : Sl} {ω : Om} {as : List A}
mutual
theorem Rd.rp (I : Inn H0 ps σ H vs δ ω as) : ∀ (d : PyData) {a : A} {v : V}, Rd ω a d → Rv ps H0 H a v → Rp H v d
  | d, _, v, .dat _, r => Rp.mono (vis_sub I.old) d v r
  | d, _, v, .arg _, r => Rp.mono I.old d v r
  | .list ds, _, _, .ptr (as := bs) hk ha, ⟨p, h1, rfl⟩ => by
    obtain ⟨p', xs, h2, h3, h4⟩ := I.at_ hk
    rw [h1] at h2
    cases h2
    exact .lst h3 (RdA.rp I ds ha h4)
theorem RdA.rp (I : Inn H0 ps σ H vs δ ω as) : ∀ (ds : List PyData) {bs : List A} {xs : List V}, RdA ω bs ds → RvA ps H0 H bs xs → RpA H xs ds
  | _, _, _, .nil, .nil => .nil
  | _ :: ds, _, _, .cons h t, .cons r rt => .cons (Rd.rp I _ h r) (RdA.rp I ds t rt)
end
end

/-! ### judgements -/
def EG (H0 : Hp) (te : TE) (δ : Sl) (ω : Om) (P : A → Om → Prop) : Prop := ∀ (σ : L2.St) (H : Hp) (vs : List V) (as : List A), Sta H0 σ H vs δ ω as → ∀ Q : VK, (∀ a ω' v H', P a ω' → Sta H0 σ H' (v :: vs) δ ω' (a :: as) → Q v H') → te σ H Q
def ET (H0 : Hp) (tt : TT) (δ : Sl) (ω : Om) (P : Bool → Om → Prop) : Prop := ∀ (σ : L2.St) (H : Hp) (vs : List V) (as : List A), Sta H0 σ H vs δ ω as → ∀ Q : Bool → Hp → Prop, (∀ b ω' H', P b ω' → Sta H0 σ H' vs δ ω' as → Q b H') → tt σ H Q
def EA (H0 : Hp) (ta : TA) (δ : Sl) (ω : Om) (P : List A → Om → Prop) : Prop := ∀ (σ : L2.St) (H : Hp) (vs : List V) (as : List A), Sta H0 σ H vs δ ω as → ∀ Q : List V → Hp → Prop, (∀ bs ω' us H', P bs ω' → us.length = bs.length → Sta H0 σ H' (us ++ vs) δ ω' (bs ++ as) → Q us H') → ta σ H Q
def EO (H0 : Hp) (to : TO) (δ : Sl) (ω : Om) (P : Option Int → Om → Prop) : Prop := ∀ (σ : L2.St) (H : Hp) (vs : List V) (as : List A), Sta H0 σ H vs δ ω as → ∀ Q : Option Int → Hp → Prop, (∀ o ω' H', P o ω' → Sta H0 σ H' vs δ ω' as → Q o H') → to σ H Q
/-- an operation on two values -/
def EB (H0 : Hp) (r : R2) (a b : A) (δ : Sl) (ω : Om) (P : A → Om → Prop) : Prop := ∀ (σ : L2.St) (H : Hp) (vs : List V) (as : List A) (x y : V), Sta H0 σ H (y :: x :: vs) δ ω (b :: a :: as) → ∀ Q : VK, (∀ c ω' v H', P c ω' → Sta H0 σ H' (v :: vs) δ ω' (c :: as) → Q v H') → r x y H Q
/-- a call of a built-in on values -/
def EC (H0 : Hp) (r : List V → Hp → VK → Prop) (bs : List A) (δ : Sl) (ω : Om) (P : A → Om → Prop) : Prop := ∀ (σ : L2.St) (H : Hp) (vs us : List V) (as : List A), us.length = bs.length → Sta H0 σ H (us ++ vs) δ ω (bs ++ as) → ∀ Q : VK, (∀ c ω' v H', P c ω' → Sta H0 σ H' (v :: vs) δ ω' (c :: as) → Q v H') → r us H Q
/-- a new list comes, of these items -/
def New (H0 : Hp) (σ : L2.St) (vs : List V) (δ : Sl) (as : List A) (P : List A → Om → Prop) (Q : VK) : Prop := ∀ bs ω' p H', P bs ω' → Sta H0 σ H' (.ref p :: vs) δ (ω' ++ [.lst bs]) (.ptr ω'.length :: as) → Scp ω'.length δ ω' as bs → Q (.ref p) H'
def EL (H0 : Hp) (te : TE) (δ : Sl) (ω : Om) (P : List A → Om → Prop) : Prop := ∀ (σ : L2.St) (H : Hp) (vs : List V) (as : List A), Sta H0 σ H vs δ ω as → ∀ Q : VK, New H0 σ vs δ as P Q → te σ H Q
def EBL (H0 : Hp) (r : R2) (a b : A) (δ : Sl) (ω : Om) (P : List A → Om → Prop) : Prop := ∀ (σ : L2.St) (H : Hp) (vs : List V) (as : List A) (x y : V), Sta H0 σ H (y :: x :: vs) δ ω (b :: a :: as) → ∀ Q : VK, New H0 σ vs δ as P Q → r x y H Q
def ECL (H0 : Hp) (r : List V → Hp → VK → Prop) (bs : List A) (δ : Sl) (ω : Om) (P : List A → Om → Prop) : Prop := ∀ (σ : L2.St) (H : Hp) (vs us : List V) (as : List A), us.length = bs.length → Sta H0 σ H (us ++ vs) δ ω (bs ++ as) → ∀ Q : VK, New H0 σ vs δ as P Q → r us H Q

section
variable {K : PySem.W.Frag} {H0 : Hp} {δ : Sl} {ω : Om} {P : A → Om → Prop} {te ta tb : TE}
theorem el_own {P : A → Om → Prop} (h : EL H0 te δ ω fun bs ω' => P (.ptr ω'.length) (ω' ++ [.lst bs])) : EG H0 te δ ω P := fun σ H vs as S Q q =>
  h σ H vs as S Q fun bs ω' p H' hp S' _ => q _ _ _ H' hp S'
theorem el_dat {P : A → Om → Prop} (h : EL H0 te δ ω fun bs ω' => ∃ ds : List PyData, bs = ds.map .dat ∧ P (.dat (.list ds)) ω') : EG H0 te δ ω P := fun σ H vs as S Q q =>
  h σ H vs as S Q fun bs ω' p H' ⟨ds, e, hp⟩ S' c => by
    subst e
    exact q _ _ _ H' hp (S'.froze c)
theorem EG.imp {P P' : A → Om → Prop} (h : EG H0 te δ ω P) (i : ∀ a ω', P a ω' → P' a ω') : EG H0 te δ ω P' := fun σ H vs as S Q q => h σ H vs as S Q fun a ω' v H' hp S' => q a ω' v H' (i _ _ hp) S'
theorem EL.imp {P P' : List A → Om → Prop} (h : EL H0 te δ ω P) (i : ∀ a ω', P a ω' → P' a ω') : EL H0 te δ ω P' := fun σ H vs as S Q q => h σ H vs as S Q fun a ω' v H' hp S' => q a ω' v H' (i _ _ hp) S'
theorem eg_var {i : Nat} {a : A} (h : δ[i]? = some (some a)) (p : P a ω) : EG H0 (tVar i) δ ω P := fun σ H vs as ⟨ps, I⟩ Q q =>
  let ⟨v, h1, r⟩ := I.slot i a h
  ⟨v, h1, q a ω v H p ⟨ps, I.push r⟩⟩
theorem eg_flat {v : V} {d : PyData} (f : Flat v d) (p : P (.dat d) ω) : EG H0 (tC v) δ ω P := fun σ H vs as S Q q => q _ _ v H p (S.flat f)
theorem eg_int {i : Int} (p : P (.dat (.int i)) ω) : EG H0 (tC (.int i)) δ ω P := eg_flat (fl_int i) p
theorem eg_bl {b : Bool} (p : P (.dat (.bool b)) ω) : EG H0 (tC (.bl b)) δ ω P := eg_flat (fl_bl b) p
theorem eg_str {x : Str} (p : P (.dat (.str x)) ω) : EG H0 (tC (.str x)) δ ω P := eg_flat (fl_str x) p
theorem eg_non (p : P (.dat .none) ω) : EG H0 (tC .non) δ ω P := eg_flat fl_non p
theorem eg_raw {v : V} (p : P (.raw v) ω) : EG H0 (tC v) δ ω P := fun σ H vs as ⟨ps, I⟩ Q q => q _ _ v H p ⟨ps, I.push rfl⟩
theorem eg_op {r : R2} (h : EG H0 ta δ ω fun a ω1 => EG H0 tb δ ω1 fun b ω2 => EB H0 r a b δ ω2 P) : EG H0 (tOp r ta tb) δ ω P := fun σ H vs as S Q q =>
  h σ H vs as S _ fun a ω1 x H1 h1 S1 => h1 σ H1 _ _ S1 _ fun b ω2 y H2 h2 S2 => h2 σ H2 vs as x y S2 Q q
theorem el_op {r : R2} {P : List A → Om → Prop} (h : EG H0 ta δ ω fun a ω1 => EG H0 tb δ ω1 fun b ω2 => EBL H0 r a b δ ω2 P) : EL H0 (tOp r ta tb) δ ω P := fun σ H vs as S Q q =>
  h σ H vs as S _ fun a ω1 x H1 h1 S1 => h1 σ H1 _ _ S1 _ fun b ω2 y H2 h2 S2 => h2 σ H2 vs as x y S2 Q q
theorem eg_cb {r : List V → Hp → VK → Prop} {ts : TA} (h : EA H0 ts δ ω fun bs ω1 => EC H0 r bs δ ω1 P) : EG H0 (tCB r ts) δ ω P := fun σ H vs as S Q q =>
  h σ H vs as S _ fun bs ω1 us H1 h1 hl S1 => h1 σ H1 vs us as hl S1 Q q
theorem el_cb {r : List V → Hp → VK → Prop} {ts : TA} {P : List A → Om → Prop} (h : EA H0 ts δ ω fun bs ω1 => ECL H0 r bs δ ω1 P) : EL H0 (tCB r ts) δ ω P := fun σ H vs as S Q q =>
  h σ H vs as S _ fun bs ω1 us H1 h1 hl S1 => h1 σ H1 vs us as hl S1 Q q
theorem ea_nil {P : List A → Om → Prop} (p : P [] ω) : EA H0 tNil δ ω P := fun σ H vs as S Q q => q [] ω [] H p rfl S
theorem Sta.rot {σ : L2.St} {H : Hp} {vs us : List V} {v : V} {as bs : List A} {a : A} (hl : us.length = bs.length) (S : Sta H0 σ H (us ++ v :: vs) δ ω (bs ++ a :: as)) : Sta H0 σ H ((v :: us) ++ vs) δ ω ((a :: bs) ++ as) := by
  obtain ⟨ps, I⟩ := S
  obtain ⟨q1, q2⟩ := RvA.split hl I.stk
  cases q2 with
  | cons h t => exact ⟨ps, { I with stk := .cons h (q1.append t) }⟩
theorem ea_cons {ts : TA} {P : List A → Om → Prop} (h : EG H0 te δ ω fun a ω1 => EA H0 ts δ ω1 fun bs ω2 => P (a :: bs) ω2) : EA H0 (tCons te ts) δ ω P := fun σ H vs as S Q q =>
  h σ H vs as S _ fun a ω1 x H1 h1 S1 => h1 σ H1 _ _ S1 _ fun bs ω2 us H2 h2 hl S2 => q (a :: bs) ω2 (x :: us) H2 h2 (by simp [hl]) (S2.rot hl)
/-- the data of a list of data -/
def unD : List A → Option (List PyData)
  | [] => some []
  | .dat d :: r => (unD r).map (d :: ·)
  | _ :: _ => none
theorem unD_eq : ∀ {as : List A} {ds : List PyData}, unD as = some ds → as = ds.map .dat
  | [], ds, h => by cases h; rfl
  | .dat d :: r, ds, h => by
    cases e : unD r with
    | none => rw [show unD (.dat d :: r) = (unD r).map (d :: ·) from rfl, e] at h; cases h
    | some es =>
      rw [show unD (.dat d :: r) = (unD r).map (d :: ·) from rfl, e] at h
      cases h
      rw [unD_eq e]; rfl
  | .ptr _ :: _, _, h => by cases h
  | .arg _ :: _, _, h => by cases h
  | .raw _ :: _, _, h => by cases h
theorem eg_tup {ts : TA} (h : EA H0 ts δ ω fun bs ω1 => ∃ ds, unD bs = some ds ∧ ds.length ≤ sizeLine ∧ P (.dat (.tuple ds)) ω1) : EG H0 (tTup ts) δ ω P := fun σ H vs as S Q q =>
  h σ H vs as S _ fun bs ω1 us H1 ⟨ds, e, hz, hp⟩ hl S1 => by
    have e := unD_eq e
    subst e
    have hl' : us.length = ds.length := by simpa using hl
    exact ⟨by rw [hl']; exact hz, fun p n => q _ _ _ _ hp (S1.tuple hl' n)⟩
theorem el_make {σ : L2.St} {H : Hp} {vs xs : List V} {as bs : List A} {p : Addr} (I : ∃ ps, Inn H0 ps σ H vs δ ω as ∧ RvA ps H0 H bs xs) (n : H p = none) : Sta H0 σ (upd H p (.lst xs)) (.ref p :: vs) δ (ω ++ [.lst bs]) (.ptr ω.length :: as) ∧ Scp ω.length δ ω as bs := by
  obtain ⟨ps, I, r⟩ := I
  have e : Same H (upd H p (.lst xs)) := fun b u q => by rw [upd_ne (ne_of_none q n)]; exact q
  exact ⟨⟨_, I.make n (o := .lst bs) (ho := .lst xs) (r.of (vis_own I.old n e) fun k q h => by rw [List.getElem?_append_left (List.getElem?_eq_some_iff.mp h).1]; exact h)⟩, I.scp r⟩
theorem el_lst {ts : TA} {P : List A → Om → Prop} (h : EA H0 ts δ ω fun bs ω1 => bs.length ≤ sizeLine ∧ P bs ω1) : EL H0 (tLst ts) δ ω P := fun σ H vs as S Q q =>
  h σ H vs as S _ fun bs ω1 us H1 ⟨hz, hp⟩ hl S1 => ⟨by rw [hl]; exact hz, fun p n => by
    obtain ⟨ps, I⟩ := S1
    obtain ⟨q1, q2⟩ := RvA.split hl I.stk
    obtain ⟨s, c⟩ := el_make (vs := vs) (as := as) ⟨ps, { I with stk := q2 }, q1⟩ n
    exact q bs ω1 p _ hp s c⟩

/-! ### operations -/
theorem eb_I0 {g : Int → Int → V} {i j : Int} {d : PyData} (f : Flat (g i j) d) (p : P (.dat d) ω) : EB H0 (rI0 g) (.dat (.int i)) (.dat (.int j)) δ ω P := fun σ H vs as x y S Q q => by
  obtain ⟨ps, I⟩ := S
  obtain ⟨r1, I1⟩ := I.pop
  obtain ⟨r2, I2⟩ := I1.pop
  cases (show Rp _ _ _ from r1)
  cases (show Rp _ _ _ from r2)
  exact ⟨i, j, rfl, rfl, q _ _ _ H p (Sta.flat ⟨ps, I2⟩ f)⟩
theorem eb_I {C : Int → Int → Prop} {g : Int → Int → V} {i j : Int} {d : PyData} (c : C i j) (f : Flat (g i j) d) (p : P (.dat d) ω) : EB H0 (rI C g) (.dat (.int i)) (.dat (.int j)) δ ω P := fun σ H vs as x y S Q q => by
  obtain ⟨ps, I⟩ := S
  obtain ⟨r1, I1⟩ := I.pop
  obtain ⟨r2, I2⟩ := I1.pop
  cases (show Rp _ _ _ from r1)
  cases (show Rp _ _ _ from r2)
  exact ⟨i, j, rfl, rfl, c, q _ _ _ H p (Sta.flat ⟨ps, I2⟩ f)⟩
theorem EB.inl {r r' : R2} {a b : A} (h : EB H0 r a b δ ω P) : EB H0 (fun x y H Q => r x y H Q ∨ r' x y H Q) a b δ ω P := fun σ H vs as x y S Q q => .inl (h σ H vs as x y S Q q)
theorem EB.inr {r r' : R2} {a b : A} (h : EB H0 r' a b δ ω P) : EB H0 (fun x y H Q => r x y H Q ∨ r' x y H Q) a b δ ω P := fun σ H vs as x y S Q q => .inr (h σ H vs as x y S Q q)
theorem EBL.inl {r r' : R2} {a b : A} {P : List A → Om → Prop} (h : EBL H0 r a b δ ω P) : EBL H0 (fun x y H Q => r x y H Q ∨ r' x y H Q) a b δ ω P := fun σ H vs as x y S Q q => .inl (h σ H vs as x y S Q q)
theorem EBL.inr {r r' : R2} {a b : A} {P : List A → Om → Prop} (h : EBL H0 r' a b δ ω P) : EBL H0 (fun x y H Q => r x y H Q ∨ r' x y H Q) a b δ ω P := fun σ H vs as x y S Q q => .inr (h σ H vs as x y S Q q)
theorem EC.inl {r r' : List V → Hp → VK → Prop} {bs : List A} (h : EC H0 r bs δ ω P) : EC H0 (fun x H Q => r x H Q ∨ r' x H Q) bs δ ω P := fun σ H vs us as hl S Q q => .inl (h σ H vs us as hl S Q q)
theorem EC.inr {r r' : List V → Hp → VK → Prop} {bs : List A} (h : EC H0 r' bs δ ω P) : EC H0 (fun x H Q => r x H Q ∨ r' x H Q) bs δ ω P := fun σ H vs us as hl S Q q => .inr (h σ H vs us as hl S Q q)
theorem ECL.inl {r r' : List V → Hp → VK → Prop} {bs : List A} {P : List A → Om → Prop} (h : ECL H0 r bs δ ω P) : ECL H0 (fun x H Q => r x H Q ∨ r' x H Q) bs δ ω P := fun σ H vs us as hl S Q q => .inl (h σ H vs us as hl S Q q)
theorem ECL.inr {r r' : List V → Hp → VK → Prop} {bs : List A} {P : List A → Om → Prop} (h : ECL H0 r' bs δ ω P) : ECL H0 (fun x H Q => r x H Q ∨ r' x H Q) bs δ ω P := fun σ H vs us as hl S Q q => .inr (h σ H vs us as hl S Q q)
/-- the items as they stand -/
theorem eb_ixL {a : A} {bs : List A} {i : Int} {c : A} (h : Itm K H0 ω a bs) (e : atI bs i = some c) (p : P c ω) : EB H0 (rIxL K) a (.dat (.int i)) δ ω P := fun σ H vs as x y S Q q => by
  obtain ⟨ps, I⟩ := S
  obtain ⟨r1, I1⟩ := I.pop
  obtain ⟨r2, I2⟩ := I1.pop
  cases (show Rp _ _ _ from r1)
  obtain ⟨b, xs, rfl, hs, rv, _⟩ := h.get I2 r2
  obtain ⟨j, hj, ej⟩ : ∃ j, ixN bs.length i = some j ∧ bs[j]? = some c := by
    unfold atI at e
    cases hj : ixN bs.length i with
    | none => rw [hj] at e; cases e
    | some j => rw [hj] at e; exact ⟨j, rfl, e⟩
  obtain ⟨u, hu, ru⟩ := rv.get ej
  have ex : atI xs i = some u := by
    unfold atI
    rw [rv.len, hj]
    exact hu
  exact ⟨b, xs, i, u, rfl, rfl, hs, ex, q c ω u H p ⟨ps, I2.push ru⟩⟩
theorem eb_ixT {a : A} {ds : List PyData} {i : Int} {d : PyData} (h : Tpl a ds) (e : atI ds i = some d) (p : P (.dat d) ω) : EB H0 (rIxT K) a (.dat (.int i)) δ ω P := fun σ H vs as x y S Q q => by
  obtain ⟨ps, I⟩ := S
  obtain ⟨r1, I1⟩ := I.pop
  obtain ⟨r2, I2⟩ := I1.pop
  cases (show Rp _ _ _ from r1)
  obtain ⟨b, xs, rfl, hs, rv⟩ := h.get I2 r2
  obtain ⟨j, hj, ej⟩ : ∃ j, ixN ds.length i = some j ∧ ds[j]? = some d := by
    unfold atI at e
    cases hj : ixN ds.length i with
    | none => rw [hj] at e; cases e
    | some j => rw [hj] at e; exact ⟨j, rfl, e⟩
  obtain ⟨u, hu, ru⟩ := rv.get ej
  have ex : atI xs i = some u := by
    unfold atI
    rw [rv.len, hj]
    exact hu
  exact ⟨b, xs, i, u, rfl, rfl, SqT.of hs, ex, q _ ω u H p ⟨ps, I2.push (a := .dat d) ru⟩⟩
/-- == and != -/
theorem eb_eqD {a b : A} {d e : PyData} (ha : Rd ω a d) (hb : Rd ω b e) (sa : SeqAt.shaped d = true) (sb : SeqAt.shaped e = true) (p : P (.dat (.bool (PyData.eqv d e))) ω) : EB H0 (rEqD K) a b δ ω P := fun σ H vs as x y S Q q => by
  obtain ⟨ps, I⟩ := S
  obtain ⟨r1, I1⟩ := I.pop
  obtain ⟨r2, I2⟩ := I1.pop
  exact ⟨d, e, Rp.dp d x (ha.rp I2 d r2), Rp.dp e y (hb.rp I2 e r1), sa, sb, q _ _ _ H p (Sta.flat ⟨ps, I2⟩ (fl_bl _))⟩
theorem eb_neD {a b : A} {d e : PyData} (ha : Rd ω a d) (hb : Rd ω b e) (sa : SeqAt.shaped d = true) (sb : SeqAt.shaped e = true) (p : P (.dat (.bool (!PyData.eqv d e))) ω) : EB H0 (rNeD K) a b δ ω P := fun σ H vs as x y S Q q => by
  obtain ⟨ps, I⟩ := S
  obtain ⟨r1, I1⟩ := I.pop
  obtain ⟨r2, I2⟩ := I1.pop
  exact ⟨d, e, Rp.dp d x (ha.rp I2 d r2), Rp.dp e y (hb.rp I2 e r1), sa, sb, q _ _ _ H p (Sta.flat ⟨ps, I2⟩ (fl_bl _))⟩
theorem eb_eqI {i j : Int} (p : P (.dat (.bool (decide (i = j)))) ω) : EB H0 (rEqD K) (.dat (.int i)) (.dat (.int j)) δ ω P := eb_eqD (.dat _) (.dat _) rfl rfl (by
  have e : PyData.eqv (.int i) (.int j) = decide (i = j) := by simp only [PyData.eqv]; rw [Bool.beq_eq_decide_eq]
  rw [e]; exact p)
theorem eb_neI {i j : Int} (p : P (.dat (.bool (!decide (i = j)))) ω) : EB H0 (rNeD K) (.dat (.int i)) (.dat (.int j)) δ ω P := eb_neD (.dat _) (.dat _) rfl rfl (by
  have e : PyData.eqv (.int i) (.int j) = decide (i = j) := by simp only [PyData.eqv]; rw [Bool.beq_eq_decide_eq]
  rw [e]; exact p)
theorem eb_eqS {i j : Str} (si : SeqAt.shaped (.str i) = true) (sj : SeqAt.shaped (.str j) = true) (p : P (.dat (.bool (decide (i = j)))) ω) : EB H0 (rEqD K) (.dat (.str i)) (.dat (.str j)) δ ω P := eb_eqD (.dat _) (.dat _) si sj (by
  have e : PyData.eqv (.str i) (.str j) = decide (i = j) := by simp only [PyData.eqv]; rw [Bool.beq_eq_decide_eq]
  rw [e]; exact p)
theorem eb_neS {i j : Str} (si : SeqAt.shaped (.str i) = true) (sj : SeqAt.shaped (.str j) = true) (p : P (.dat (.bool (!decide (i = j)))) ω) : EB H0 (rNeD K) (.dat (.str i)) (.dat (.str j)) δ ω P := eb_neD (.dat _) (.dat _) si sj (by
  have e : PyData.eqv (.str i) (.str j) = decide (i = j) := by simp only [PyData.eqv]; rw [Bool.beq_eq_decide_eq]
  rw [e]; exact p)
theorem eb_eqB {i j : Bool} (p : P (.dat (.bool (decide (i = j)))) ω) : EB H0 (rEqD K) (.dat (.bool i)) (.dat (.bool j)) δ ω P := eb_eqD (.dat _) (.dat _) rfl rfl (by
  have e : PyData.eqv (.bool i) (.bool j) = decide (i = j) := by simp only [PyData.eqv]; rw [Bool.beq_eq_decide_eq]
  rw [e]; exact p)
/-- is None -/
def isNo : PyData → Bool
  | .none => true
  | _ => false
theorem isNo_eq {H : Hp} {x : V} {d : PyData} (r : Rp H x d) : decide (x = V.non) = isNo d := by
  cases r <;> simp [isNo]
theorem eg_isN (h : EG H0 ta δ ω fun a ω1 => ∃ d, a = .dat d ∧ P (.dat (.bool (isNo d))) ω1) : EG H0 (tIsN ta) δ ω P := fun σ H vs as S Q q =>
  h σ H vs as S _ fun a ω1 x H1 ⟨d, e, hp⟩ S1 => by
    subst e
    have key : decide (x = V.non) = isNo d := by
      obtain ⟨ps, I⟩ := S1
      exact isNo_eq (show Rp _ _ _ from I.pop.1)
    rw [key]
    exact q _ _ _ H1 hp ((S1.pop).flat (fl_bl _))
theorem eg_notN (h : EG H0 ta δ ω fun a ω1 => ∃ d, a = .dat d ∧ P (.dat (.bool (!isNo d))) ω1) : EG H0 (tNotN ta) δ ω P := fun σ H vs as S Q q =>
  h σ H vs as S _ fun a ω1 x H1 ⟨d, e, hp⟩ S1 => by
    subst e
    have key : decide (x = V.non) = isNo d := by
      obtain ⟨ps, I⟩ := S1
      exact isNo_eq (show Rp _ _ _ from I.pop.1)
    rw [key]
    exact q _ _ _ H1 hp ((S1.pop).flat (fl_bl _))
theorem eg_un {r : V → Hp → VK → Prop} {g : Int → V} (h : EG H0 ta δ ω fun a ω1 => ∃ i d, a = .dat (.int i) ∧ Flat (g i) d ∧ P (.dat d) ω1) : EG H0 (tUn (rU g) ta) δ ω P := fun σ H vs as S Q q =>
  h σ H vs as S _ fun a ω1 x H1 ⟨i, d, e, f, hp⟩ S1 => by
    subst e
    obtain ⟨ps, I⟩ := S1
    obtain ⟨r, I1⟩ := I.pop
    cases (show Rp _ _ _ from r)
    exact ⟨i, rfl, q _ _ _ H1 hp (Sta.flat ⟨ps, I1⟩ f)⟩
end
end Y

/-! Lay3: more rules of expressions; statements; loops; comprehensions; calls; a def's body. -/
namespace Y
open PySem PySem.Spec L2

/-! ### the operators, each for all kinds -/
def rAddS : R2 := fun x y H Q => ∃ i j, x = .str i ∧ y = .str j ∧ i.length + j.length ≤ sizeLine ∧ Q (.str (i ++ j)) H
def rAddU (K : PySem.W.Frag) : R2 := fun x y H Q => rI0 (fun i j => .int (i + j)) x y H Q ∨ rCat x y H Q ∨ rAddS x y H Q ∨ rCatT K x y H Q
theorem op_addU {X : Cx} : OpR X (binaryOp .Add) (rAddU X.K) := op_add.or (op_cat.or ((show OpR X (binaryOp .Add) rAddS from op_add_str).or op_catT))
def rMulU : R2 := fun x y H Q => rI CMul (fun i j => .int (i * j)) x y H Q ∨ rRep x y H Q ∨ rI CMulW (fun i j => .int (i * j)) x y H Q
theorem op_mulU {X : Cx} : OpR X (binaryOp .Mult) rMulU := op_mul.or (op_rep.or op_mulW)
def rFdivU : R2 := rI CDiv fun i j => .int (i / j)
def rModU : R2 := rI (fun _ j => 0 < j) fun i j => .int (i % j)
def rSlU (K : PySem.W.Frag) : V → Option Int → Option Int → Hp → VK → Prop := fun x lo hi H Q => rSlL K x lo hi H Q ∨ rSlT K x lo hi H Q ∨ rSlS x lo hi H Q
theorem sl_U {X : Cx} : SlR X (rSlU X.K) := sl_list.or (sl_tup.or sl_str)
def rLenU (K : PySem.W.Frag) : List V → Hp → VK → Prop := fun xs H Q => (∃ x n, xs = [x] ∧ LenV K x H n ∧ Q (.int n) H) ∨ (∃ a kvs, xs = [V.ref a] ∧ H a = some (.dK kvs) ∧ Q (.int kvs.length) H)
theorem call_lenU {X : Cx} : CallR X (.builtin "len") (rLenU X.K) := call_len.or call_lenD
def rListU (K : PySem.W.Frag) : List V → Hp → VK → Prop := fun xs H Q => (∃ p ys, xs = [.ref p] ∧ (SqL K H p ys ∨ SqT K H p ys) ∧ ∀ l, H l = none → Q (.ref l) (upd H l (.lst ys))) ∨ rListD xs H Q
theorem call_listU {X : Cx} (hc : X.calm = true) : CallR X (.type "list") (rListU X.K) := call_list_of.or (call_list_dK hc)
def rInU (K : PySem.W.Frag) : R2 := fun x y H Q => rIn K false x y H Q ∨ rInD K x y H Q
def rNotInU (K : PySem.W.Frag) : R2 := fun x y H Q => rIn K true x y H Q ∨ rNotInD K x y H Q
theorem op_inU {X : Cx} (hu : X.A.units + 65 < cLine) : OpR X (compareOp .In) (rInU X.K) := op_in_seq.or (op_inD hu)
theorem op_notInU {X : Cx} (hu : X.A.units + 65 < cLine) : OpR X (compareOp .NotIn) (rNotInU X.K) := op_notIn_seq.or (op_notInD hu)

section
variable {K : PySem.W.Frag} {H0 : Hp} {δ : Sl} {ω : Om} {P : A → Om → Prop} {te ta tb : TE}
theorem eb_add {i j : Int} (p : P (.dat (.int (i + j))) ω) : EB H0 (rAddU K) (.dat (.int i)) (.dat (.int j)) δ ω P := (eb_I0 (fl_int _) p).inl
theorem eb_addS {i j : Str} (hz : i.length + j.length ≤ sizeLine) (p : P (.dat (.str (i ++ j))) ω) : EB H0 (rAddU K) (.dat (.str i)) (.dat (.str j)) δ ω P := EB.inr (EB.inr (EB.inl fun σ H vs as x y S Q q => by
  obtain ⟨ps, I⟩ := S
  obtain ⟨r1, I1⟩ := I.pop
  obtain ⟨r2, I2⟩ := I1.pop
  cases (show Rp _ _ _ from r1)
  cases (show Rp _ _ _ from r2)
  exact ⟨i, j, rfl, rfl, hz, q _ _ _ H p (Sta.flat ⟨ps, I2⟩ (fl_str _))⟩))
def notRaw : A → Bool
  | .raw _ => false
  | _ => true
theorem notRaw_ne {a : A} (h : notRaw a = true) : ∀ u, a ≠ .raw u := fun u e => by subst e; cases h
theorem ebl_cat {a b : A} {cs es : List A} {P : List A → Om → Prop} (ha : Itm K H0 ω a cs) (hb : Itm K H0 ω b es) (na : notRaw a = true) (nb : notRaw b = true) (hz : cs.length + es.length ≤ sizeLine) (p : P (cs ++ es) ω) : EBL H0 (rAddU K) a b δ ω P := EBL.inr (EBL.inl fun σ H vs as x y S Q q => by
  obtain ⟨ps, I⟩ := S
  obtain ⟨r1, I1⟩ := I.pop
  obtain ⟨r2, I2⟩ := I1.pop
  obtain ⟨l, xs, rfl, _, rx, hx⟩ := ha.get I2 r2
  obtain ⟨m, ys, rfl, _, ry, hy⟩ := hb.get I2 r1
  refine ⟨l, m, xs, ys, rfl, rfl, hx (notRaw_ne na), hy (notRaw_ne nb), by rw [rx.len, ry.len]; exact hz, fun b n => ?_⟩
  obtain ⟨s, c⟩ := el_make (vs := vs) (as := as) ⟨ps, I2, rx.append ry⟩ n
  exact q _ ω b _ p s c)
theorem eb_catT {a b : A} {cs es : List PyData} (ha : Tpl a cs) (hb : Tpl b es) (nc : cs ≠ []) (ne : es ≠ []) (hz : cs.length + es.length ≤ sizeLine) (p : P (.dat (.tuple (cs ++ es))) ω) : EB H0 (rAddU K) a b δ ω P := EB.inr (EB.inr (EB.inr fun σ H vs as x y S Q q => by
  obtain ⟨ps, I⟩ := S
  obtain ⟨r1, I1⟩ := I.pop
  obtain ⟨r2, I2⟩ := I1.pop
  obtain ⟨l, xs, rfl, hx, rx⟩ := ha.get I2 r2
  obtain ⟨m, ys, rfl, hy, ry⟩ := hb.get I2 r1
  refine ⟨l, m, xs, ys, rfl, rfl, SqT.of hx, SqT.of hy, fun e => ?_, by rw [rx.len, ry.len]; exact hz, fun e => ?_, fun _ b n => ?_⟩
  · subst e; have := rx.len; exact nc (List.eq_nil_of_length_eq_zero (by simpa using this.symm))
  · subst e; have := ry.len; exact (ne (List.eq_nil_of_length_eq_zero (by simpa using this.symm))).elim
  · refine q _ ω _ _ p (Sta.tuple (vs := vs) (as := as) (ds := cs ++ es) ⟨ps, { I2 with stk := ?_ }⟩ (by simp [rx.len, ry.len]) n)
    rw [List.map_append]
    exact ((RvA.of_dats rx).append (RvA.of_dats ry)).append I2.stk))
theorem eb_mul {i j : Int} (c : CMul i j) (p : P (.dat (.int (i * j))) ω) : EB H0 rMulU (.dat (.int i)) (.dat (.int j)) δ ω P := (eb_I c (fl_int _) p).inl
theorem eb_mulW {i j : Int} (c : CMulW i j) (p : P (.dat (.int (i * j))) ω) : EB H0 rMulU (.dat (.int i)) (.dat (.int j)) δ ω P := EB.inr (EB.inr (eb_I c (fl_int _) p))
theorem RvA.rep {ps : List (Option Addr)} {H0 H : Hp} {as : List A} {vs : List V} (h : RvA ps H0 H as vs) : ∀ k : Nat, RvA ps H0 H (List.replicate k as).flatten (List.replicate k vs).flatten
  | 0 => .nil
  | k + 1 => by
    rw [List.replicate_succ, List.replicate_succ, List.flatten_cons, List.flatten_cons]
    exact h.append (h.rep k)
theorem ebl_rep {a : A} {k : Int} {cs : List A} {P : List A → Om → Prop} (ha : Itm K H0 ω a cs) (na : notRaw a = true) (h1 : -(2 ^ 63) ≤ k) (h2 : k < 2 ^ 63) (hz : cs.length * k.toNat ≤ sizeLine) (p : P (List.replicate k.toNat cs).flatten ω) : EBL H0 rMulU a (.dat (.int k)) δ ω P := EBL.inr (EBL.inl fun σ H vs as x y S Q q => by
  obtain ⟨ps, I⟩ := S
  obtain ⟨r1, I1⟩ := I.pop
  obtain ⟨r2, I2⟩ := I1.pop
  cases (show Rp _ _ _ from r1)
  obtain ⟨l, xs, rfl, _, rx, hx⟩ := ha.get I2 r2
  refine ⟨l, k, xs, rfl, rfl, hx (notRaw_ne na), h1, h2, by rw [rx.len]; exact hz, fun b n => ?_⟩
  obtain ⟨s, c⟩ := el_make (vs := vs) (as := as) ⟨ps, I2, rx.rep k.toNat⟩ n
  exact q _ ω b _ p s c)
theorem eb_fdiv {i j : Int} (c : CDiv i j) (p : P (.dat (.int (i / j))) ω) : EB H0 rFdivU (.dat (.int i)) (.dat (.int j)) δ ω P := eb_I c (fl_int _) p
theorem eb_mod {i j : Int} (c : 0 < j) (p : P (.dat (.int (i % j))) ω) : EB H0 rModU (.dat (.int i)) (.dat (.int j)) δ ω P := eb_I c (fl_int _) p
theorem eb_pow {i j : Int} (c : CPow i j) (p : P (.dat (.int (i ^ j.toNat))) ω) : EB H0 (rI CPow fun i j => .int (i ^ j.toNat)) (.dat (.int i)) (.dat (.int j)) δ ω P := eb_I c (fl_int _) p
theorem eb_sub {i j : Int} (p : P (.dat (.int (i - j))) ω) : EB H0 (rI0 fun i j => .int (i - j)) (.dat (.int i)) (.dat (.int j)) δ ω P := eb_I0 (fl_int _) p
theorem eb_lt {i j : Int} (p : P (.dat (.bool (decide (i < j)))) ω) : EB H0 (rI0 fun i j => .bl (decide (i < j))) (.dat (.int i)) (.dat (.int j)) δ ω P := eb_I0 (fl_bl _) p
theorem eb_le {i j : Int} (p : P (.dat (.bool (decide (i ≤ j)))) ω) : EB H0 (rI0 fun i j => .bl (decide (i ≤ j))) (.dat (.int i)) (.dat (.int j)) δ ω P := eb_I0 (fl_bl _) p
theorem eb_gt {i j : Int} (p : P (.dat (.bool (decide (j < i)))) ω) : EB H0 (rI0 fun i j => .bl (decide (j < i))) (.dat (.int i)) (.dat (.int j)) δ ω P := eb_I0 (fl_bl _) p
theorem eb_ge {i j : Int} (p : P (.dat (.bool (decide (j ≤ i)))) ω) : EB H0 (rI0 fun i j => .bl (decide (j ≤ i))) (.dat (.int i)) (.dat (.int j)) δ ω P := eb_I0 (fl_bl _) p
theorem eb_ixUL {a : A} {bs : List A} {i : Int} {c : A} (h : Itm K H0 ω a bs) (e : atI bs i = some c) (p : P c ω) : EB H0 (rIx K) a (.dat (.int i)) δ ω P := (eb_ixL h e p).inl
theorem eb_ixUT {a : A} {ds : List PyData} {i : Int} {d : PyData} (h : Tpl a ds) (e : atI ds i = some d) (p : P (.dat d) ω) : EB H0 (rIx K) a (.dat (.int i)) δ ω P := EB.inr (EB.inl (eb_ixT h e p))
theorem eb_ixUS {z : Str} {i : Int} {c : Nat} (hz : z.length ≤ sizeLine) (e : atI z.cps.toList i = some c) (p : P (.dat (.str ⟨#[c]⟩)) ω) : EB H0 (rIx K) (.dat (.str z)) (.dat (.int i)) δ ω P := EB.inr (EB.inr fun σ H vs as x y S Q q => by
  obtain ⟨ps, I⟩ := S
  obtain ⟨r1, I1⟩ := I.pop
  obtain ⟨r2, I2⟩ := I1.pop
  cases (show Rp _ _ _ from r1)
  cases (show Rp _ _ _ from r2)
  exact ⟨z, i, c, rfl, rfl, hz, e, q _ _ _ H p (Sta.flat ⟨ps, I2⟩ (fl_str _))⟩)

/-! ### slices -/
def cutA {α : Type} (xs : List α) (lo hi : Option Int) : List α := (xs.drop (HT.sIx xs.length 0 lo)).take (HT.sIx xs.length xs.length hi - HT.sIx xs.length 0 lo)
theorem eo_none {P : Option Int → Om → Prop} (p : P none ω) : EO H0 tNoPart δ ω P := fun σ H vs as S Q q => q none ω H p S
theorem eo_some {P : Option Int → Om → Prop} (h : EG H0 te δ ω fun a ω1 => ∃ i, a = .dat (.int i) ∧ P (some i) ω1) : EO H0 (tPart te) δ ω P := fun σ H vs as S Q q =>
  h σ H vs as S _ fun a ω1 x H1 ⟨i, e, hp⟩ S1 => by
    subst e
    obtain ⟨ps, I⟩ := S1
    obtain ⟨r, I1⟩ := I.pop
    cases (show Rp _ _ _ from r)
    exact ⟨i, rfl, q _ _ H1 hp ⟨ps, I1⟩⟩
theorem el_slL {tl th : TO} {P : List A → Om → Prop} (h : EG H0 te δ ω fun a ω1 => EO H0 tl δ ω1 fun lo ω2 => EO H0 th δ ω2 fun hi ω3 => ∃ bs, Itm K H0 ω3 a bs ∧ P (cutA bs lo hi) ω3) : EL H0 (tSl (rSlU K) te tl th) δ ω P := fun σ H vs as S Q q =>
  h σ H vs as S _ fun a ω1 x H1 h1 S1 => h1 σ H1 _ _ S1 _ fun lo ω2 H2 h2 S2 => h2 σ H2 _ _ S2 _ fun hi ω3 H3 ⟨bs, it, hp⟩ S3 => by
    obtain ⟨ps, I⟩ := S3
    obtain ⟨r, I1⟩ := I.pop
    obtain ⟨p, xs, rfl, hs, rx, _⟩ := it.get I1 r
    refine .inl ⟨p, xs, rfl, hs, fun b n => ?_⟩
    have e : HT.sIx xs.length 0 lo = HT.sIx bs.length 0 lo := by rw [rx.len]
    have e2 : HT.sIx xs.length xs.length hi = HT.sIx bs.length bs.length hi := by rw [rx.len]
    obtain ⟨s, c⟩ := el_make (vs := vs) (as := as) (bs := cutA bs lo hi) (xs := cutV xs lo hi) ⟨ps, I1, by unfold cutA cutV; rw [e, e2]; exact (rx.drop _).take _⟩ n
    exact q _ ω3 b _ hp s c
theorem eg_slT {tl th : TO} (h : EG H0 te δ ω fun a ω1 => EO H0 tl δ ω1 fun lo ω2 => EO H0 th δ ω2 fun hi ω3 => ∃ ds, Tpl a ds ∧ ¬ (HT.sIx ds.length 0 lo = 0 ∧ HT.sIx ds.length ds.length hi = ds.length) ∧ P (.dat (.tuple (cutA ds lo hi))) ω3) : EG H0 (tSl (rSlU K) te tl th) δ ω P := fun σ H vs as S Q q =>
  h σ H vs as S _ fun a ω1 x H1 h1 S1 => h1 σ H1 _ _ S1 _ fun lo ω2 H2 h2 S2 => h2 σ H2 _ _ S2 _ fun hi ω3 H3 ⟨ds, it, hw, hp⟩ S3 => by
    obtain ⟨ps, I⟩ := S3
    obtain ⟨r, I1⟩ := I.pop
    obtain ⟨p, xs, rfl, hs, rx⟩ := it.get I1 r
    have e : HT.sIx xs.length 0 lo = HT.sIx ds.length 0 lo := by rw [rx.len]
    have e2 : HT.sIx xs.length xs.length hi = HT.sIx ds.length ds.length hi := by rw [rx.len]
    refine .inr (.inl ⟨p, xs, rfl, SqT.of hs, by rw [e, e2, rx.len]; exact hw, fun b n => ?_⟩)
    have r2 : RvA ps H0 H3 ((cutA ds lo hi).map .dat) (cutV xs lo hi) := by
      have h0 := RvA.of_dats rx
      unfold cutA cutV
      rw [e, e2, List.map_take, List.map_drop]
      exact (h0.drop _).take _
    exact q _ ω3 _ _ hp (Sta.tuple (vs := vs) (as := as) (ds := cutA ds lo hi) ⟨ps, { I1 with stk := r2.append I1.stk }⟩ (by simpa using r2.len) n)
theorem eg_slS {tl th : TO} (h : EG H0 te δ ω fun a ω1 => EO H0 tl δ ω1 fun lo ω2 => EO H0 th δ ω2 fun hi ω3 => ∃ z, a = .dat (.str z) ∧ z.length ≤ sizeLine ∧ P (.dat (.str (cutS z lo hi))) ω3) : EG H0 (tSl (rSlU K) te tl th) δ ω P := fun σ H vs as S Q q =>
  h σ H vs as S _ fun a ω1 x H1 h1 S1 => h1 σ H1 _ _ S1 _ fun lo ω2 H2 h2 S2 => h2 σ H2 _ _ S2 _ fun hi ω3 H3 ⟨z, e, hz, hp⟩ S3 => by
    subst e
    obtain ⟨ps, I⟩ := S3
    obtain ⟨r, I1⟩ := I.pop
    cases (show Rp _ _ _ from r)
    exact .inr (.inr ⟨z, rfl, hz, q _ _ _ H3 hp (Sta.flat ⟨ps, I1⟩ (fl_str _))⟩)

/-! ### built-ins -/
theorem ec_len {a : A} {bs : List A} (h : Itm K H0 ω a bs) (p : P (.dat (.int (bs.length : Nat))) ω) : EC H0 (rLenU K) [a] δ ω P := fun σ H vs us as hl S Q q => by
  match us, hl with
  | [u], _ =>
    obtain ⟨ps, I⟩ := S
    obtain ⟨r, I1⟩ := I.pop
    obtain ⟨b, xs, rfl, hs, rx, _⟩ := h.get I1 r
    exact .inl ⟨_, bs.length, rfl, .inl ⟨xs, hs, rx.len.symm⟩, q _ _ _ H p (Sta.flat ⟨ps, I1⟩ (fl_int _))⟩
theorem ec_lenT {a : A} {ds : List PyData} (h : Tpl a ds) (p : P (.dat (.int (ds.length : Nat))) ω) : EC H0 (rLenU K) [a] δ ω P := fun σ H vs us as hl S Q q => by
  match us, hl with
  | [u], _ =>
    obtain ⟨ps, I⟩ := S
    obtain ⟨r, I1⟩ := I.pop
    obtain ⟨b, xs, rfl, hs, rx⟩ := h.get I1 r
    exact .inl ⟨_, ds.length, rfl, .inr ⟨xs, SqT.of hs, rx.len.symm⟩, q _ _ _ H p (Sta.flat ⟨ps, I1⟩ (fl_int _))⟩
theorem ec_lenS {z : Str} (hz : z.length ≤ sizeLine) (p : P (.dat (.int (z.length : Nat))) ω) : EC H0 (rLenU K) [.dat (.str z)] δ ω P := fun σ H vs us as hl S Q q => by
  match us, hl with
  | [u], _ =>
    obtain ⟨ps, I⟩ := S
    obtain ⟨r, I1⟩ := I.pop
    cases (show Rp _ _ _ from r)
    exact .inl ⟨_, z.length, rfl, ⟨hz, rfl⟩, q _ _ _ H p (Sta.flat ⟨ps, I1⟩ (fl_int _))⟩
theorem ec_lenD {k : Nat} {kvs : List (Key × V)} (h : ω[k]? = some (.dic kvs)) (p : P (.dat (.int (kvs.length : Nat))) ω) : EC H0 (rLenU K) [.ptr k] δ ω P := fun σ H vs us as hl S Q q => by
  match us, hl with
  | [u], _ =>
    obtain ⟨ps, I⟩ := S
    obtain ⟨⟨b, h1, e⟩, I1⟩ := I.pop
    obtain ⟨b', h2, h3⟩ := I1.atD h
    rw [h1] at h2
    cases h2
    subst e
    exact .inr ⟨b, kvs, rfl, h3, q _ _ _ H p (Sta.flat ⟨ps, I1⟩ (fl_int _))⟩
theorem ecl_list {a : A} {bs : List A} {P : List A → Om → Prop} (h : Itm K H0 ω a bs) (p : P bs ω) : ECL H0 (rListU K) [a] δ ω P := fun σ H vs us as hl S Q q => by
  match us, hl with
  | [u], _ =>
    obtain ⟨ps, I⟩ := S
    obtain ⟨r, I1⟩ := I.pop
    obtain ⟨b, xs, rfl, hs, rx, _⟩ := h.get I1 r
    refine .inl ⟨b, xs, rfl, .inl hs, fun l n => ?_⟩
    obtain ⟨s, c⟩ := el_make (vs := vs) (as := as) ⟨ps, I1, rx⟩ n
    exact q _ ω l _ p s c
/-- the keys of a dict of ints -/
theorem ecl_listD {k : Nat} {kvs : List (Int × Int)} {P : List A → Om → Prop} (h : ω[k]? = some (.dic (kvs.map fun e => (Sum.inl e.1, V.int e.2)))) (p : P (kvs.map fun e => .dat (.int e.1)) ω) : ECL H0 (rListU K) [.ptr k] δ ω P := fun σ H vs us as hl S Q q => by
  match us, hl with
  | [u], _ =>
    obtain ⟨ps, I⟩ := S
    obtain ⟨⟨b, h1, e⟩, I1⟩ := I.pop
    obtain ⟨b', h2, h3⟩ := I1.atD h
    rw [h1] at h2
    cases h2
    subst e
    refine .inr ⟨b, _, rfl, h3, fun l n => ?_⟩
    have e2 : ((kvs.map fun e => ((Sum.inl e.1 : Key), V.int e.2)).map fun kv => kV kv.1) = (kvs.map (·.1)).map V.int := by
      rw [List.map_map, List.map_map]; rfl
    have e3 : (kvs.map fun e => A.dat (.int e.1)) = (kvs.map (·.1)).map fun n => A.dat (.int n) := by
      rw [List.map_map]; rfl
    obtain ⟨s, c⟩ := el_make (vs := vs) (as := as) (bs := kvs.map fun e => .dat (.int e.1)) (xs := (kvs.map fun e => ((Sum.inl e.1 : Key), V.int e.2)).map fun kv => kV kv.1) ⟨ps, I1, by rw [e2, e3]; exact rva_ints _⟩ n
    exact q _ ω l _ p s c
theorem ec_intB {b : Bool} (p : P (.dat (.int (if b then 1 else 0))) ω) : EC H0 (fun xs H Q => (∃ i, xs = [.int i] ∧ Q (.int i) H) ∨ ∃ k, xs = [.bl k] ∧ Q (.int (if k then 1 else 0)) H) [.dat (.bool b)] δ ω P := fun σ H vs us as hl S Q q => by
  match us, hl with
  | [u], _ =>
    obtain ⟨ps, I⟩ := S
    obtain ⟨r, I1⟩ := I.pop
    cases (show Rp _ _ _ from r)
    exact .inr ⟨b, rfl, q _ _ _ H p (Sta.flat ⟨ps, I1⟩ (fl_int _))⟩
def rMin2 : List V → Hp → VK → Prop := fun xs H Q => ∃ i j, xs = [.int i, .int j] ∧ Q (.int (if j < i then j else i)) H
def rMax2 : List V → Hp → VK → Prop := fun xs H Q => ∃ i j, xs = [.int i, .int j] ∧ Q (.int (if j > i then j else i)) H
theorem ec_min {i j : Int} (p : P (.dat (.int (if j < i then j else i))) ω) : EC H0 rMin2 [.dat (.int i), .dat (.int j)] δ ω P := fun σ H vs us as hl S Q q => by
  match us, hl with
  | [u, v], _ =>
    obtain ⟨ps, I⟩ := S
    obtain ⟨r, I1⟩ := I.pop
    obtain ⟨r2, I2⟩ := I1.pop
    cases (show Rp _ _ _ from r)
    cases (show Rp _ _ _ from r2)
    exact ⟨i, j, rfl, q _ _ _ H p (Sta.flat ⟨ps, I2⟩ (fl_int _))⟩
theorem ec_max {i j : Int} (p : P (.dat (.int (if j > i then j else i))) ω) : EC H0 rMax2 [.dat (.int i), .dat (.int j)] δ ω P := fun σ H vs us as hl S Q q => by
  match us, hl with
  | [u, v], _ =>
    obtain ⟨ps, I⟩ := S
    obtain ⟨r, I1⟩ := I.pop
    obtain ⟨r2, I2⟩ := I1.pop
    cases (show Rp _ _ _ from r)
    cases (show Rp _ _ _ from r2)
    exact ⟨i, j, rfl, q _ _ _ H p (Sta.flat ⟨ps, I2⟩ (fl_int _))⟩
theorem rvA_int {ps : List (Option Addr)} {H0 H : Hp} : ∀ {ns : List Int} {vs : List V}, RvA ps H0 H (ns.map fun n => .dat (.int n)) vs → vs = ns.map V.int
  | [], _, h => by cases h; rfl
  | n :: ns, _, h => by
    cases h with
    | cons h t =>
      cases (show Rp _ _ _ from h)
      rw [rvA_int t]; rfl
theorem ec_sum {a : A} {ns : List Int} (h : Itm K H0 ω a (ns.map fun n => .dat (.int n))) (p : P (.dat (.int ns.sum)) ω) : EC H0 (rSum K) [a] δ ω P := fun σ H vs us as hl S Q q => by
  match us, hl with
  | [u], _ =>
    obtain ⟨ps, I⟩ := S
    obtain ⟨r, I1⟩ := I.pop
    obtain ⟨b, xs, rfl, hs, rx, _⟩ := h.get I1 r
    rw [rvA_int rx] at hs
    exact ⟨b, ns, rfl, hs, q _ _ _ H p (Sta.flat ⟨ps, I1⟩ (fl_int _))⟩
def tyN : PyData → String
  | .none => "NoneType"
  | .bool _ => "bool"
  | .int _ => "int"
  | .str _ => "str"
  | .list _ => "list"
  | .tuple _ => "tuple"
  | .dict _ => "dict"
theorem ty_of {H : Hp} {v : V} {d : PyData} (r : Rp H v d) : TyX K H v (.type (tyN d)) := by
  cases r with
  | non => exact .base .non
  | bl b => exact .base (.bl b)
  | int i => exact .base (.int i)
  | str x => exact .base (.str x)
  | lst h _ => exact .base (.lst h)
  | tup h _ => exact .base (.tup h)
theorem ec_isi {a : A} {d : PyData} {n : String} {b : Bool} (h : Rd ω a d) (k : kitB (tyN d) n = some b) (p : P (.dat (.bool b)) ω) : EC H0 (rIsi K) [a, .raw (.ty n)] δ ω P := fun σ H vs us as hl S Q q => by
  match us, hl with
  | [u, v], _ =>
    obtain ⟨ps, I⟩ := S
    obtain ⟨r, I1⟩ := I.pop
    obtain ⟨r2, I2⟩ := I1.pop
    have e : v = .ty n := r2
    subst e
    exact ⟨u, .ty n, _, _, b, rfl, .ty n, ty_of (h.rp I2 d r), kit_ty k, q _ _ _ H p (Sta.flat ⟨ps, I2⟩ (fl_bl _))⟩
theorem all_flat_int (ns : List Int) : (ns.map V.int).all flatV = true := by
  rw [List.all_map]
  exact List.all_eq_true.mpr fun _ _ => rfl
theorem inV_int (i : Int) (ns : List Int) : inV (.int i) (ns.map V.int) = decide (i ∈ ns) := by
  unfold inV
  rw [List.any_map, Bool.eq_iff_iff, List.any_eq_true, decide_eq_true_eq]
  constructor
  · rintro ⟨x, hx, e⟩
    have e2 : (x == i) = true := e
    rw [beq_iff_eq] at e2
    exact e2 ▸ hx
  · intro h
    exact ⟨i, h, show (i == i) = true from beq_self_eq_true i⟩
theorem eb_in {a : A} {i : Int} {ns : List Int} (h : Itm K H0 ω a (ns.map fun n => .dat (.int n))) (p : P (.dat (.bool (decide (i ∈ ns)))) ω) : EB H0 (rInU K) (.dat (.int i)) a δ ω P := EB.inl fun σ H vs as x y S Q q => by
  obtain ⟨ps, I⟩ := S
  obtain ⟨r1, I1⟩ := I.pop
  obtain ⟨r2, I2⟩ := I1.pop
  cases (show Rp _ _ _ from r2)
  obtain ⟨b, xs, rfl, hs, rx, _⟩ := h.get I2 r1
  have e := rvA_int rx
  subst e
  refine ⟨b, _, rfl, .inl hs, rfl, all_flat_int ns, ?_⟩
  show Q (.bl (inV (.int i) (ns.map V.int))) H
  rw [inV_int]
  exact q _ _ _ H p (Sta.flat ⟨ps, I2⟩ (fl_bl _))
theorem eb_notIn {a : A} {i : Int} {ns : List Int} (h : Itm K H0 ω a (ns.map fun n => .dat (.int n))) (p : P (.dat (.bool (!decide (i ∈ ns)))) ω) : EB H0 (rNotInU K) (.dat (.int i)) a δ ω P := EB.inl fun σ H vs as x y S Q q => by
  obtain ⟨ps, I⟩ := S
  obtain ⟨r1, I1⟩ := I.pop
  obtain ⟨r2, I2⟩ := I1.pop
  cases (show Rp _ _ _ from r2)
  obtain ⟨b, xs, rfl, hs, rx, _⟩ := h.get I2 r1
  have e := rvA_int rx
  subst e
  refine ⟨b, _, rfl, .inl hs, rfl, all_flat_int ns, ?_⟩
  show Q (.bl (!inV (.int i) (ns.map V.int))) H
  rw [inV_int]
  exact q _ _ _ H p (Sta.flat ⟨ps, I2⟩ (fl_bl _))
theorem eb_notInD {a b : A} {d : PyData} {ds : List PyData} (ha : Rd ω a d) (hb : Rd ω b (.list ds)) (sa : SeqAt.shaped d = true) (sb : SeqAt.shaped (.list ds) = true) (p : P (.dat (.bool (!ds.any fun z => PyData.eqv z d))) ω) : EB H0 (rNotInU K) a b δ ω P := EB.inr fun σ H vs as x y S Q q => by
  obtain ⟨ps, I⟩ := S
  obtain ⟨r1, I1⟩ := I.pop
  obtain ⟨r2, I2⟩ := I1.pop
  exact ⟨d, ds, Rp.dp d x (ha.rp I2 d r2), Rp.dp _ y (hb.rp I2 _ r1), sa, sb, q _ _ _ H p (Sta.flat ⟨ps, I2⟩ (fl_bl _))⟩
/-- list(range(n)) -/
theorem el_rng {P : List A → Om → Prop} (h : EG H0 te δ ω fun a ω1 => ∃ n : Nat, a = .dat (.int n) ∧ n ≤ 16777216 ∧ P ((List.range n).map fun i => .dat (.int (i : Nat))) ω1) : EL H0 (tLstRg (tRg1 te)) δ ω P := fun σ H vs as S Q q =>
  h σ H vs as S _ fun a ω1 x H1 ⟨n, e, hn, hp⟩ S1 => by
    subst e
    obtain ⟨ps, I⟩ := S1
    obtain ⟨r, I1⟩ := I.pop
    cases (show Rp _ _ _ from r)
    refine ⟨n, rfl, RgOk.of_le (by omega) (by omega) (by omega) (by omega), fun b hb => ?_⟩
    have e1 : rgV 0 (n : Int) = ((List.range n).map fun i => ((i : Nat) : Int)).map V.int := by
      unfold rgV
      rw [List.map_map, show ((n : Int) - 0).toNat = n by omega]
      refine List.map_congr_left fun i _ => ?_
      show V.int (0 + (i : Int)) = V.int i
      rw [Int.zero_add]
    have e2 : ((List.range n).map fun i => A.dat (.int (i : Nat))) = ((List.range n).map fun i => ((i : Nat) : Int)).map fun n => A.dat (.int n) := by rw [List.map_map]; rfl
    rw [e1]
    obtain ⟨s, c⟩ := el_make (vs := vs) (as := as) (bs := (List.range n).map fun i => A.dat (.int (i : Nat))) ⟨ps, I1, by rw [e2]; exact rva_ints _⟩ hb
    exact q _ ω1 b _ hp s c

/-! ### tests -/
theorem et_test {P : Bool → Om → Prop} (h : EG H0 te δ ω fun a ω1 => ∃ b, a = .dat (.bool b) ∧ P b ω1) : ET H0 (tTest te) δ ω P := fun σ H vs as S Q q =>
  h σ H vs as S _ fun a ω1 x H1 ⟨b, e, hp⟩ S1 => by
    subst e
    obtain ⟨ps, I⟩ := S1
    obtain ⟨r, I1⟩ := I.pop
    cases (show Rp _ _ _ from r)
    exact ⟨b, rfl, q b ω1 H1 hp ⟨ps, I1⟩⟩
theorem et_B {P : Bool → Om → Prop} (h : EG H0 te δ ω fun a ω1 => ∃ b, a = .dat (.bool b) ∧ P b ω1) : ET H0 (tB te) δ ω P := et_test h
theorem et_not {t : TT} {P : Bool → Om → Prop} (h : ET H0 t δ ω fun b ω1 => P (!b) ω1) : ET H0 (tNot t) δ ω P := fun σ H vs as S Q q => h σ H vs as S _ fun b ω1 H1 hp S1 => q _ ω1 H1 hp S1
theorem et_and {t u : TT} {P : Bool → Om → Prop} (h : ET H0 t δ ω fun b ω1 => if b = true then ET H0 u δ ω1 P else P false ω1) : ET H0 (tAnd t u) δ ω P := fun σ H vs as S Q q => h σ H vs as S _ fun b ω1 H1 hp S1 => by
  cases b with
  | true => exact iteT ((show ET H0 u δ ω1 P from hp) σ H1 vs as S1 Q q)
  | false => exact iteF (q false ω1 H1 hp S1)
theorem et_or {t u : TT} {P : Bool → Om → Prop} (h : ET H0 t δ ω fun b ω1 => if b = true then P true ω1 else ET H0 u δ ω1 P) : ET H0 (tOr t u) δ ω P := fun σ H vs as S Q q => h σ H vs as S _ fun b ω1 H1 hp S1 => by
  cases b with
  | true => exact iteT (q true ω1 H1 hp S1)
  | false => exact iteF ((show ET H0 u δ ω1 P from hp) σ H1 vs as S1 Q q)
theorem et_yes {P : Bool → Om → Prop} (p : P true ω) : ET H0 tYes δ ω P := fun σ H vs as S Q q => q true ω H p S
theorem eg_and (h : EG H0 ta δ ω fun a ω1 => ∃ b, a = .dat (.bool b) ∧ if b = true then EG H0 tb δ ω1 P else P (.dat (.bool false)) ω1) : EG H0 (tAndV ta tb) δ ω P := fun σ H vs as S Q q =>
  h σ H vs as S _ fun a ω1 x H1 ⟨b, e, hp⟩ S1 => by
    subst e
    obtain ⟨ps, I⟩ := S1
    obtain ⟨r, I1⟩ := I.pop
    cases (show Rp _ _ _ from r)
    refine ⟨b, rfl, ?_⟩
    cases b with
    | true => exact iteT ((show EG H0 tb δ ω1 P from hp) σ H1 vs as ⟨ps, I1⟩ Q q)
    | false => exact iteF (q _ ω1 _ H1 hp (Sta.flat ⟨ps, I1⟩ (fl_bl _)))
theorem eg_or (h : EG H0 ta δ ω fun a ω1 => ∃ b, a = .dat (.bool b) ∧ if b = true then P (.dat (.bool true)) ω1 else EG H0 tb δ ω1 P) : EG H0 (tOrV ta tb) δ ω P := fun σ H vs as S Q q =>
  h σ H vs as S _ fun a ω1 x H1 ⟨b, e, hp⟩ S1 => by
    subst e
    obtain ⟨ps, I⟩ := S1
    obtain ⟨r, I1⟩ := I.pop
    cases (show Rp _ _ _ from r)
    refine ⟨b, rfl, ?_⟩
    cases b with
    | true => exact iteT (q _ ω1 _ H1 hp (Sta.flat ⟨ps, I1⟩ (fl_bl _)))
    | false => exact iteF ((show EG H0 tb δ ω1 P from hp) σ H1 vs as ⟨ps, I1⟩ Q q)
theorem eg_not (h : EG H0 ta δ ω fun a ω1 => ∃ b, a = .dat (.bool b) ∧ P (.dat (.bool (!b))) ω1) : EG H0 (tNotV ta) δ ω P := fun σ H vs as S Q q =>
  h σ H vs as S _ fun a ω1 x H1 ⟨b, e, hp⟩ S1 => by
    subst e
    obtain ⟨ps, I⟩ := S1
    obtain ⟨r, I1⟩ := I.pop
    cases (show Rp _ _ _ from r)
    exact ⟨b, rfl, q _ ω1 _ H1 hp (Sta.flat ⟨ps, I1⟩ (fl_bl _))⟩
end
end Y

/-! Lay4: statements, loops, comprehensions, calls, a def's body. -/
namespace Y
open PySem PySem.Spec L2

/-! ### statements -/
structure Post where
  nx : Sl → Om → Prop
  rt : A → Om → Prop
  bk : Sl → Om → Prop := fun _ _ => False
  ct : Sl → Om → Prop := fun _ _ => False
structure Cov (H0 : Hp) (vs : List V) (as : List A) (D : Ends) (P : Post) : Prop where
  nx : ∀ δ ω σ H, P.nx δ ω → Sta H0 σ H vs δ ω as → D.nx σ H
  rt : ∀ a δ ω v σ H, P.rt a ω → Sta H0 σ H (v :: vs) δ ω (a :: as) → D.rt v H
  bk : ∀ δ ω σ H, P.bk δ ω → Sta H0 σ H vs δ ω as → D.bk σ H
  ct : ∀ δ ω σ H, P.ct δ ω → Sta H0 σ H vs δ ω as → D.ct σ H
def SX (H0 : Hp) (ts : TS) (δ : Sl) (ω : Om) (P : Post) : Prop := ∀ (σ : L2.St) (H : Hp) (vs : List V) (as : List A), Sta H0 σ H vs δ ω as → ∀ D : Ends, Cov H0 vs as D P → ts D σ H
/-- a target takes a value -/
def GX (H0 : Hp) (g : TG) (c : A) (δ : Sl) (ω : Om) (δ' : Sl) : Prop := ∀ (σ : L2.St) (H : Hp) (vs : List V) (as : List A) (x : V), Sta H0 σ H (x :: vs) δ ω (c :: as) → ∀ Q : L2.St → Hp → Prop, (∀ σ' H', Sta H0 σ' H' vs δ' ω as → Q σ' H') → g x σ H Q

section
variable {K : PySem.W.Frag} {H0 : Hp} {δ : Sl} {ω : Om} {P : Post} {te ta tb : TE} {t u : TS}
theorem Sta.set {σ : L2.St} {H : Hp} {vs : List V} {as : List A} {c : A} {x : V} (i : Nat) (S : Sta H0 σ H (x :: vs) δ ω (c :: as)) : Sta H0 (σ.set i (some x)) H vs (δ.set i (some c)) ω as := by
  obtain ⟨ps, I⟩ := S
  obtain ⟨r, I1⟩ := I.pop
  refine ⟨ps, { I1 with sl := by rw [List.length_set, List.length_set]; exact I1.sl, slot := fun j a h => ?_ }⟩
  by_cases hj : i = j
  · subst hj
    have hi : i < δ.length := by
      have := (List.getElem?_eq_some_iff.mp h).1
      simpa using this
    rw [List.getElem?_set_self hi] at h
    cases h
    exact ⟨x, List.getElem?_set_self (by rw [I1.sl]; exact hi), r⟩
  · rw [List.getElem?_set_ne hj] at h
    rw [List.getElem?_set_ne hj]
    exact I1.slot j a h
theorem gx_name {i : Nat} {c : A} : GX H0 (gName i) c δ ω (δ.set i (some c)) := fun σ H vs as x S Q q => q _ _ (S.set i)
/-- a tuple of data comes apart -/
theorem Sta.apart {σ : L2.St} {H : Hp} {vs : List V} {as : List A} {x : V} {ds : List PyData} (S : Sta H0 σ H (x :: vs) δ ω (.dat (.tuple ds) :: as)) : ∃ p xs, x = .ref p ∧ H p = some (.tup xs) ∧ xs.length = ds.length ∧ Sta H0 σ H (xs ++ vs) δ ω (ds.map .dat ++ as) := by
  obtain ⟨ps, I⟩ := S
  obtain ⟨r, I1⟩ := I.pop
  cases (show Rp _ _ _ from r) with
  | tup h1 h2 => exact ⟨_, _, rfl, vis_sub I1.old _ _ h1, h2.len, ps, { I1 with stk := (RvA.of_dats h2).append I1.stk }⟩
theorem gx_tup2 {i j : Nat} {d e : PyData} : GX H0 (gTup K 2 (gCons (gName i) (gCons (gName j) gNil))) (.dat (.tuple [d, e])) δ ω ((δ.set i (some (.dat d))).set j (some (.dat e))) := fun σ H vs as x S Q q => by
  obtain ⟨p, xs, rfl, hp, hl, S1⟩ := S.apart
  match xs, hl with
  | [y, z], _ =>
    refine ⟨p, [y, z], rfl, SqT.of hp, rfl, y, [z], rfl, z, [], rfl, rfl, q _ _ ?_⟩
    exact Sta.set j (Sta.set i S1)
theorem sx_next (p : P.nx δ ω) : SX H0 tNext δ ω P := fun σ H vs as S D c => c.nx δ ω σ H p S
theorem sx_seq (h : SX H0 t δ ω { P with nx := fun δ' ω' => SX H0 u δ' ω' P }) : SX H0 (tSeq t u) δ ω P := fun σ H vs as S D c =>
  h σ H vs as S _ ⟨fun δ' ω' σ' H' p S' => p σ' H' vs as S' D c, c.rt, c.bk, c.ct⟩
theorem sx_asgG {g : TG} (h : EG H0 te δ ω fun a ω1 => ∃ δ', GX H0 g a δ ω1 δ' ∧ P.nx δ' ω1) : SX H0 (tAsg te g) δ ω P := fun σ H vs as S D c =>
  h σ H vs as S _ fun a ω1 x H1 ⟨δ', hg, hp⟩ S1 => hg σ H1 vs as x S1 _ fun σ' H' S2 => c.nx _ _ _ _ hp S2
theorem sx_asg {i : Nat} (h : EG H0 te δ ω fun a ω1 => P.nx (δ.set i (some a)) ω1) : SX H0 (tAsg te (gName i)) δ ω P := sx_asgG (h.imp fun a ω1 p => ⟨_, gx_name, p⟩)
theorem sx_if {tc : TT} (h : ET H0 tc δ ω fun b ω1 => (b = true → SX H0 t δ ω1 P) ∧ (b = false → SX H0 u δ ω1 P)) : SX H0 (tIfS tc t u) δ ω P := fun σ H vs as S D c =>
  h σ H vs as S _ fun b ω1 H1 ⟨h1, h2⟩ S1 => by
    cases b with
    | true => exact iteT (h1 rfl σ H1 vs as S1 D c)
    | false => exact iteF (h2 rfl σ H1 vs as S1 D c)
theorem sx_ret (h : EG H0 te δ ω P.rt) : SX H0 (tRet te) δ ω P := fun σ H vs as S D c => h σ H vs as S _ fun a ω1 v H1 hp S1 => c.rt a δ ω1 v σ H1 hp S1
theorem sx_retN (p : P.rt (.dat .none) ω) : SX H0 tRetN δ ω P := fun σ H vs as S D c => c.rt _ δ ω .non σ H p (S.flat fl_non)
theorem sx_drop (h : EG H0 te δ ω fun _ ω1 => P.nx δ ω1) : SX H0 (tDrop te) δ ω P := fun σ H vs as S D c => h σ H vs as S _ fun a ω1 v H1 hp S1 => c.nx _ _ _ _ hp S1.pop
theorem sx_exit {E : XK} {c : Value} (h : ∀ H', Same H0 H' → E c none H') : SX H0 (fun _ _ H => E c none H) δ ω P := fun σ H vs as S D _ => h H S.old
theorem sx_never (h : False) : SX H0 t δ ω P := h.elim
/-- an owned list is written -/
theorem Sta.write {σ : L2.St} {H : Hp} {vs xs : List V} {as bs : List A} {k : Nat} {p : Addr} (S : ∃ ps, Inn H0 ps σ H vs δ ω as ∧ ps[k]? = some (some p) ∧ RvA ps H0 H bs xs) (hk : k < ω.length) : Sta H0 σ (upd H p (.lst xs)) vs δ (ω.set k (.lst bs)) as := by
  obtain ⟨ps, I, hp, r⟩ := S
  exact ⟨ps, I.change hp hk (o := .lst bs) (ho := .lst xs) r (fun _ z => by cases z)⟩
theorem sx_app {to : TE} {ts : TA} (h : EG H0 to δ ω fun a ω1 => ∃ k cs0, a = .ptr k ∧ ω1[k]? = some (.lst cs0) ∧ EA H0 ts δ ω1 fun bs ω2 => ∃ b cs, bs = [b] ∧ ω2[k]? = some (.lst cs) ∧ cs.length < sizeLine ∧ P.nx δ (ω2.set k (.lst (cs ++ [b])))) : SX H0 (tDrop (tBM K "list" rAppend to ts)) δ ω P := fun σ H vs as S D c =>
  h σ H vs as S _ fun a ω1 x H1 ⟨k, cs0, e, h00, h1⟩ S1 => by
    subst e
    have h0 := h1 σ H1 _ _ S1
    obtain ⟨ps, I⟩ := S1
    obtain ⟨⟨p, hp, rfl⟩, I1⟩ := I.pop
    obtain ⟨p', ys, hp', hy, _⟩ := I1.at_ h00
    rw [hp] at hp'
    cases hp'
    exact ⟨.inl ⟨rfl, ys, SqL.of hy⟩, h0 _ fun bs ω2 us H2 ⟨b, cs, e, hc, hz, hp2⟩ hl S2 => by
      subst e
      match us, hl with
      | [y], _ =>
        obtain ⟨ps2, J⟩ := S2
        obtain ⟨ry, J1⟩ := J.pop
        obtain ⟨⟨p2, hq, e2⟩, J2⟩ := J1.pop
        cases e2
        obtain ⟨p3, xs, h3, h4, h5⟩ := J2.at_ hc
        rw [hq] at h3
        cases h3
        refine ⟨p, xs, y, rfl, rfl, h4, by rw [h5.len]; exact hz, c.nx _ _ _ _ hp2 ?_⟩
        exact Sta.write ⟨ps2, J2, hq, h5.append (.cons ry .nil)⟩ (List.getElem?_eq_some_iff.mp hc).1⟩
theorem sx_clear {to : TE} (h : EG H0 to δ ω fun a ω1 => ∃ k cs0, a = .ptr k ∧ ω1[k]? = some (.lst cs0) ∧ P.nx δ (ω1.set k (.lst []))) : SX H0 (tDrop (tBM0 K "list" rClear to)) δ ω P := fun σ H vs as S D c =>
  h σ H vs as S _ fun a ω1 x H1 ⟨k, cs0, e, h00, hp2⟩ S1 => by
    subst e
    obtain ⟨ps, I⟩ := S1
    obtain ⟨⟨p, hp, rfl⟩, I1⟩ := I.pop
    obtain ⟨p', ys, hp', hy, _⟩ := I1.at_ h00
    rw [hp] at hp'
    cases hp'
    exact ⟨.inl ⟨rfl, ys, SqL.of hy⟩, p, ys, rfl, rfl, hy, c.nx _ _ _ _ hp2 (Sta.write ⟨ps, I1, hp, .nil⟩ (List.getElem?_eq_some_iff.mp h00).1)⟩
theorem sx_setL {to ti : TE} (h : EG H0 te δ ω fun a ω1 => EG H0 to δ ω1 fun o ω2 => EG H0 ti δ ω2 fun i ω3 => ∃ k z j cs, o = .ptr k ∧ i = .dat (.int z) ∧ ω3[k]? = some (.lst cs) ∧ ixN cs.length z = some j ∧ P.nx δ (ω3.set k (.lst (cs.set j a)))) : SX H0 (tAsg te (gSub to ti rSetL)) δ ω P := fun σ H vs as S D c =>
  h σ H vs as S _ fun a ω1 x H1 h1 S1 => h1 σ H1 _ _ S1 _ fun o ω2 y H2 h2 S2 => h2 σ H2 _ _ S2 _ fun i ω3 w H3 ⟨k, z, j, cs, e1, e2, hc, hj, hp⟩ S3 => by
    subst e1 e2
    obtain ⟨ps, I⟩ := S3
    obtain ⟨r1, I1⟩ := I.pop
    obtain ⟨⟨p, hk, e⟩, I2⟩ := I1.pop
    obtain ⟨r3, I3⟩ := I2.pop
    cases (show Rp _ _ _ from r1)
    subst e
    obtain ⟨p', xs, h3, h4, h5⟩ := I3.at_ hc
    rw [hk] at h3
    cases h3
    refine ⟨p, xs, z, j, rfl, rfl, h4, by rw [h5.len]; exact hj, c.nx _ _ _ _ hp ?_⟩
    exact Sta.write ⟨ps, I3, hk, h5.set r3 j⟩ (List.getElem?_eq_some_iff.mp hc).1
theorem sx_dput {td ty tv : TE} (h : EG H0 tv δ ω fun v ω1 => EG H0 td δ ω1 fun o ω2 => EG H0 ty δ ω2 fun y ω3 => ∃ k kvs i w, o = .ptr k ∧ y = .dat (.int i) ∧ v = .dat (.int w) ∧ ω3[k]? = some (.dic kvs) ∧ kvs.length < sizeLine ∧ P.nx δ (ω3.set k (.dic (putK kvs (Sum.inl i) (.int w))))) : SX H0 (sDPut td ty tv) δ ω P := fun σ H vs as S D c =>
  h σ H vs as S _ fun a ω1 x H1 h1 S1 => h1 σ H1 _ _ S1 _ fun o ω2 y H2 h2 S2 => h2 σ H2 _ _ S2 _ fun i ω3 w H3 ⟨k, kvs, i', w', e1, e2, e3, hc, hz, hp⟩ S3 => by
    subst e1 e2 e3
    obtain ⟨ps, I⟩ := S3
    obtain ⟨r1, I1⟩ := I.pop
    obtain ⟨⟨p, hk, e⟩, I2⟩ := I1.pop
    obtain ⟨r3, I3⟩ := I2.pop
    cases (show Rp _ _ _ from r1)
    cases (show Rp _ _ _ from r3)
    subst e
    obtain ⟨p', h3, h4⟩ := I3.atD hc
    rw [hk] at h3
    cases h3
    refine ⟨p, _, rfl, DPut.k (k := Sum.inl i') h4 hz, c.nx _ _ _ _ hp ?_⟩
    exact ⟨ps, I3.change hk (List.getElem?_eq_some_iff.mp hc).1 (o := .dic _) (ho := .dK _) rfl (fun _ z => by cases z)⟩
/-- a new dict -/
theorem eg_dnew {P : A → Om → Prop} (p : P (.ptr ω.length) (ω ++ [.dic []])) : EG H0 tDNewK δ ω P := fun σ H vs as S Q q b n => by
  obtain ⟨ps, I⟩ := S
  exact q _ _ _ _ p ⟨_, I.make n (o := .dic []) (ho := .dK []) rfl⟩
theorem eg_dget {td ty : TE} {P : A → Om → Prop} (h : EG H0 td δ ω fun o ω1 => EG H0 ty δ ω1 fun y ω2 => ∃ k kvs i w, o = .ptr k ∧ y = .dat (.int i) ∧ ω2[k]? = some (.dic kvs) ∧ valV kvs (Sum.inl i) = some (.int w) ∧ P (.dat (.int w)) ω2) : EG H0 (tDGet td ty) δ ω P := fun σ H vs as S Q q =>
  h σ H vs as S _ fun o ω1 x H1 h1 S1 => h1 σ H1 _ _ S1 _ fun y ω2 z H2 ⟨k, kvs, i, w, e1, e2, hc, hv, hp⟩ S2 => by
    subst e1 e2
    obtain ⟨ps, I⟩ := S2
    obtain ⟨r1, I1⟩ := I.pop
    obtain ⟨⟨p, hk, e⟩, I2⟩ := I1.pop
    cases (show Rp _ _ _ from r1)
    subst e
    obtain ⟨p', h3, h4⟩ := I2.atD hc
    rw [hk] at h3
    cases h3
    have g := DGet.k (k := Sum.inl i) h4
    rw [hv] at g
    exact ⟨p, .int w, rfl, g, q _ _ _ H2 hp (Sta.flat ⟨ps, I2⟩ (fl_int _))⟩
theorem eg_dnotin {td ty : TE} {P : A → Om → Prop} (h : EG H0 ty δ ω fun y ω1 => EG H0 td δ ω1 fun o ω2 => ∃ k kvs i, o = .ptr k ∧ y = .dat (.int i) ∧ ω2[k]? = some (.dic kvs) ∧ P (.dat (.bool (!(valV kvs (Sum.inl i)).isSome))) ω2) : EG H0 (tDNotIn ty td) δ ω P := fun σ H vs as S Q q =>
  h σ H vs as S _ fun o ω1 x H1 h1 S1 => h1 σ H1 _ _ S1 _ fun y ω2 z H2 ⟨k, kvs, i, e1, e2, hc, hp⟩ S2 => by
    subst e1 e2
    obtain ⟨ps, I⟩ := S2
    obtain ⟨⟨p, hk, e⟩, I1⟩ := I.pop
    obtain ⟨r1, I2⟩ := I1.pop
    cases (show Rp _ _ _ from r1)
    subst e
    obtain ⟨p', h3, h4⟩ := I2.atD hc
    rw [hk] at h3
    cases h3
    exact ⟨p, _, rfl, DGet.k (k := Sum.inl i) h4, q _ _ _ H2 hp (Sta.flat ⟨ps, I2⟩ (fl_bl _))⟩
theorem sx_while {tc : TT} (W : Nat → Sl → Om → Prop) (m0 : Nat) (h0 : W m0 δ ω)
    (hs : ∀ m δ ω, W m δ ω → ET H0 tc δ ω fun b ω1 => (b = true → SX H0 t δ ω1 { P with nx := fun δ' ω' => ∃ m', m' < m ∧ W m' δ' ω', ct := fun δ' ω' => ∃ m', m' < m ∧ W m' δ' ω', bk := P.nx }) ∧ (b = false → P.nx δ ω1)) : SX H0 (tWhile tc t) δ ω P := fun σ H vs as S D c => by
  refine ⟨fun m σ H => ∃ δ ω, W m δ ω ∧ Sta H0 σ H vs δ ω as, ⟨m0, δ, ω, h0, S⟩, ?_⟩
  rintro m σ H ⟨δ, ω, w, S⟩
  refine hs m δ ω w σ H vs as S _ fun b ω1 H1 ⟨h1, h2⟩ S1 => ?_
  cases b with
  | true =>
    refine iteT ⟨fun σ' H' => ∃ m', m' < m ∧ ∃ δ ω, W m' δ ω ∧ Sta H0 σ' H' vs δ ω as, fun σ' H' q => q, ?_⟩
    refine h1 rfl σ H1 vs as S1 _ ⟨fun δ' ω' σ' H' p S' => ?_, c.rt, fun δ' ω' σ' H' p S' => c.nx δ' ω' σ' H' p S', fun δ' ω' σ' H' p S' => ?_⟩
    · obtain ⟨m', hm, w'⟩ := p
      exact ⟨m', hm, δ', ω', w', S'⟩
    · obtain ⟨m', hm, w'⟩ := p
      exact ⟨m', hm, δ', ω', w', S'⟩
  | false => exact iteF (c.nx _ _ _ _ (h2 rfl) S1)

/-! ### what is walked -/
/-- J walks the items L, as long as kp holds of the owned objects; w, told by b, is kept meanwhile -/
def Walks (H0 : Hp) (J : It) (w : V) (b : A) (L : List A) (kp : Om → Prop) : Prop := ∀ (i : Nat) (σ' : L2.St) (H' : Hp) (vs : List V) (δ' : Sl) (ω' : Om) (as : List A), kp ω' → Sta H0 σ' H' (w :: vs) δ' ω' (b :: as) →
  (L.length ≤ i → J.stop i H') ∧ ∀ c, L[i]? = some c → J.go i H' ∧ ∀ x H'', J.yld i H' x H'' → Sta H0 σ' H'' (x :: w :: vs) δ' ω' (c :: b :: as)
def SR (H0 : Hp) (wi : TI) (δ : Sl) (ω : Om) (P : List A → (Om → Prop) → Om → Prop) : Prop := ∀ (σ : L2.St) (H : Hp) (vs : List V) (as : List A), Sta H0 σ H vs δ ω as → ∀ R : It → Hp → Prop,
  (∀ L kp ω1 J H1 w b, P L kp ω1 → Sta H0 σ H1 (w :: vs) δ ω1 (b :: as) → Walks H0 J w b L kp → R J H1) → wi σ H R
theorem list_stop {ps : List (Option Addr)} {σ : L2.St} {H : Hp} {vs : List V} {as bs : List A} {a : A} {p : Addr} (I : Inn H0 ps σ H (.ref p :: vs) δ ω (a :: as)) (h : Itm K H0 ω a bs) : ∃ xs, SqL K H p xs ∧ RvA ps H0 H bs xs := by
  obtain ⟨r, I1⟩ := I.pop
  obtain ⟨p', xs, e, hs, rx, _⟩ := h.get I1 r
  cases e
  exact ⟨xs, hs, rx⟩
theorem sr_list {P : List A → (Om → Prop) → Om → Prop} (h : EG H0 te δ ω fun a ω1 => ∃ L, Itm K H0 ω1 a L ∧ P L (fun ω' => Itm K H0 ω' a L) ω1) : SR H0 (iList K te) δ ω P := fun σ H vs as S R q =>
  h σ H vs as S _ fun a ω1 x H1 ⟨L, it, hp⟩ S1 => by
    have hx : ∃ p, x = .ref p ∧ ∃ xs, SqL K H1 p xs := by
      obtain ⟨ps, I⟩ := S1
      obtain ⟨r, I1⟩ := I.pop
      obtain ⟨p, xs, e, hs, _⟩ := it.get I1 r
      exact ⟨p, e, xs, hs⟩
    obtain ⟨p, rfl, xs, hs⟩ := hx
    refine ⟨p, rfl, ⟨xs, hs⟩, q _ _ ω1 _ H1 (.ref p) a hp S1 fun i σ' H' vs' δ' ω' as' kp S' => ?_⟩
    obtain ⟨ps', I'⟩ := S'
    obtain ⟨ys, hy, ry⟩ := list_stop I' kp
    refine ⟨fun hi => ⟨ys, hy, by rw [ry.len]; exact hi⟩, fun c hc => ?_⟩
    obtain ⟨u, hu, ru⟩ := ry.get hc
    refine ⟨⟨ys, u, hy, hu⟩, fun z H'' hz => ?_⟩
    obtain ⟨rfl, hz⟩ := hz
    have e := hz ys hy
    rw [hu] at e
    cases e
    exact ⟨ps', I'.push ru⟩
theorem sr_rng {ts : TA} {P : List A → (Om → Prop) → Om → Prop} (h : EA H0 ts δ ω fun bs ω1 => ∃ n : Nat, bs = [.dat (.int n)] ∧ n ≤ 16777216 ∧ P ((List.range n).map fun i => .dat (.int (i : Nat))) (fun _ => True) ω1) : SR H0 (iRng1 ts) δ ω P := fun σ H vs as S R q =>
  h σ H vs as S _ fun bs ω1 us H1 ⟨n, e, hn, hp⟩ hl S1 => by
    subst e
    match us, hl with
    | [u], _ =>
      obtain ⟨ps, I⟩ := S1
      obtain ⟨r, I1⟩ := I.pop
      cases (show Rp _ _ _ from r)
      refine ⟨n, rfl, by omega, by omega, q _ _ ω1 _ H1 .non (.dat .none) hp (Sta.flat ⟨ps, I1⟩ fl_non) fun i σ' H' vs' δ' ω' as' _ S' => ⟨fun hi => ?_, fun c hc => ?_⟩⟩
      · show ((n : Int)).toNat ≤ i
        simp at hi ⊢; omega
      · obtain ⟨hi, rfl⟩ : i < n ∧ c = .dat (.int (i : Nat)) := by
          have hl := (List.getElem?_eq_some_iff.mp hc).1
          have hn : i < n := by simpa using hl
          rw [List.getElem?_map, List.getElem?_range hn] at hc
          exact ⟨hn, (Option.some.inj hc).symm⟩
        refine ⟨show i < ((n : Int)).toNat by omega, fun z H'' hz => ?_⟩
        obtain ⟨rfl, rfl⟩ := hz
        rw [Int.zero_add]
        exact S'.flat (fl_int _)
/-- enumerate of a list of data: the pairs -/
def enA (ds : List PyData) : List A := ds.mapIdx fun i d => .dat (.tuple [.int (i : Nat), d])
theorem sr_enum {ts : TA} {P : List A → (Om → Prop) → Om → Prop} (h : EA H0 ts δ ω fun bs ω1 => ∃ a ds, bs = [a] ∧ Itm K H0 ω1 a (ds.map .dat) ∧ P (enA ds) (fun ω' => Itm K H0 ω' a (ds.map .dat)) ω1) : SR H0 (iEnum K ts) δ ω P := fun σ H vs as S R q =>
  h σ H vs as S _ fun bs ω1 us H1 ⟨a, ds, e, it, hp⟩ hl S1 => by
    subst e
    match us, hl with
    | [x], _ =>
      have hx : ∃ p, x = .ref p ∧ ∃ xs, SqL K H1 p xs := by
        obtain ⟨ps, I⟩ := S1
        obtain ⟨r, I1⟩ := I.pop
        obtain ⟨p, xs, e, hs, _⟩ := it.get I1 r
        exact ⟨p, e, xs, hs⟩
      obtain ⟨p, rfl, xs, hs⟩ := hx
      refine ⟨p, xs, rfl, hs, q _ _ ω1 _ H1 (.ref p) a hp S1 fun i σ' H' vs' δ' ω' as' kp S' => ?_⟩
      obtain ⟨ps', I'⟩ := S'
      obtain ⟨ys, hy, ry⟩ := list_stop I' kp
      refine ⟨fun hi => ⟨ys, hy, by rw [ry.len]; simpa [enA] using hi⟩, fun c hc => ?_⟩
      obtain ⟨d, hd, rfl⟩ : ∃ d, ds[i]? = some d ∧ c = .dat (.tuple [.int (i : Nat), d]) := by
        unfold enA at hc
        rw [List.getElem?_mapIdx] at hc
        cases e : ds[i]? with
        | none => rw [e] at hc; cases hc
        | some d => rw [e] at hc; exact ⟨d, rfl, (Option.some.inj hc).symm⟩
      obtain ⟨u, hu, ru⟩ := ry.get (a := .dat d) (i := i) (by rw [List.getElem?_map, hd]; rfl)
      refine ⟨⟨ys, u, hy, hu⟩, fun z H'' hz => ?_⟩
      obtain ⟨T, x, rfl, hT, rfl, hz⟩ := hz
      have e := hz ys hy
      rw [hu] at e
      cases e
      exact Sta.tuple (xs := [.int (i : Nat), u]) (vs := .ref p :: vs') (as := a :: as') (ds := [.int (i : Nat), d]) ⟨ps', { I' with stk := .cons (.int _) (.cons ru I'.stk) }⟩ rfl hT
theorem Sta.drop2 {σ : L2.St} {H : Hp} {x w : V} {vs : List V} {a b : A} {as : List A} (S : Sta H0 σ H (x :: w :: vs) δ ω (a :: b :: as)) : Sta H0 σ H (x :: vs) δ ω (a :: as) := by
  obtain ⟨ps, I⟩ := S
  obtain ⟨r, I1⟩ := I.pop
  exact ⟨ps, I1.pop.2.push r⟩
theorem Sta.swap {σ : L2.St} {H : Hp} {x w : V} {vs : List V} {a b : A} {as : List A} (S : Sta H0 σ H (x :: w :: vs) δ ω (a :: b :: as)) : Sta H0 σ H (w :: x :: vs) δ ω (b :: a :: as) := by
  obtain ⟨ps, I⟩ := S
  obtain ⟨r, I1⟩ := I.pop
  obtain ⟨r2, I2⟩ := I1.pop
  exact ⟨ps, (I2.push r).push r2⟩
/-- for: the invariant by the turn -/
theorem sx_for {wi : TI} {g : TG} (h : SR H0 wi δ ω fun L kp ω1 => ∃ I : Nat → Sl → Om → Prop, I 0 δ ω1 ∧ (∀ i δ ω, I i δ ω → kp ω) ∧
    (∀ i c δ ω, L[i]? = some c → I i δ ω → ∃ δ', GX H0 g c δ ω δ' ∧ SX H0 t δ' ω { P with nx := I (i + 1), ct := I (i + 1), bk := P.nx }) ∧ ∀ δ ω, I L.length δ ω → P.nx δ ω) : SX H0 (tFor wi g t) δ ω P := fun σ H vs as S D c =>
  h σ H vs as S _ fun L kp ω1 J H1 w b ⟨I, i0, ik, step, done⟩ S1 wk => by
    refine ⟨fun i m σ H => m = L.length - i ∧ i ≤ L.length ∧ ∃ δ ω, I i δ ω ∧ Sta H0 σ H (w :: vs) δ ω (b :: as), ⟨L.length, by simp, Nat.zero_le _, δ, ω1, i0, S1⟩, ?_⟩
    rintro i m σ' H' ⟨rfl, hi, δ', ω', hI, S'⟩
    obtain ⟨w1, w2⟩ := wk i σ' H' vs δ' ω' as (ik i δ' ω' hI) S'
    by_cases hlt : i < L.length
    · obtain ⟨go, yl⟩ := w2 L[i] (List.getElem?_eq_getElem hlt)
      refine .inr ⟨go, fun σ2 H2 => ∃ δ ω, I (i + 1) δ ω ∧ Sta H0 σ2 H2 (w :: vs) δ ω (b :: as), fun σ2 H2 ⟨δ2, ω2, h2, S2⟩ => ⟨L.length - (i + 1), by omega, rfl, hlt, δ2, ω2, h2, S2⟩, fun x H'' hy => ?_⟩
      obtain ⟨δ2, hg, hb⟩ := step i L[i] δ' ω' (List.getElem?_eq_getElem hlt) hI
      refine hg σ' H'' _ _ x (yl x H'' hy) _ fun σ3 H3 S3 => hb σ3 H3 _ _ S3 _ ⟨fun δ4 ω4 σ4 H4 p S4 => ⟨δ4, ω4, p, S4⟩, fun a δ4 ω4 v σ4 H4 p S4 => c.rt a δ4 ω4 v σ4 H4 p S4.drop2, fun δ4 ω4 σ4 H4 p S4 => c.nx δ4 ω4 σ4 H4 p S4.pop, fun δ4 ω4 σ4 H4 p S4 => ⟨δ4, ω4, p, S4⟩⟩
    · have e : i = L.length := by omega
      subst e
      exact .inl ⟨w1 (Nat.le_refl _), c.nx _ _ _ _ (done δ' ω' hI) S'.pop⟩
/-- the same, by what is behind -/
theorem sx_forP {α : Type} {xs : List α} {it : Nat → α → A} {wi : TI} {g : TG} (I : List α → Sl → Om → Prop) (h : SR H0 wi δ ω fun L kp ω1 => L = xs.mapIdx it ∧ I [] δ ω1 ∧ ∀ pre δ ω, I pre δ ω → kp ω)
    (step : ∀ pre x post δ ω, xs = pre ++ x :: post → I pre δ ω → ∃ δ', GX H0 g (it pre.length x) δ ω δ' ∧ SX H0 t δ' ω { P with nx := I (pre ++ [x]), ct := I (pre ++ [x]), bk := P.nx }) (done : ∀ δ ω, I xs δ ω → P.nx δ ω) : SX H0 (tFor wi g t) δ ω P :=
  sx_for fun σ H vs as S R q => h σ H vs as S R fun L kp ω1 J H1 w b ⟨e, i0, ik⟩ S1 wk => q L kp ω1 J H1 w b ⟨fun i => I (xs.take i), i0, fun i δ ω hI => ik _ δ ω hI, fun i c δ ω hc hI => by
    subst e
    rw [List.getElem?_mapIdx] at hc
    cases ex : xs[i]? with
    | none => rw [ex] at hc; cases hc
    | some x =>
      rw [ex] at hc
      cases hc
      have hi := (List.getElem?_eq_some_iff.mp ex).1
      have hl : (xs.take i).length = i := by rw [List.length_take]; omega
      have e1 : xs = xs.take i ++ x :: xs.drop (i + 1) := by
        have h1 := (List.getElem?_eq_some_iff.mp ex).2
        rw [← h1, ← List.drop_eq_getElem_cons hi, List.take_append_drop]
      have e2 : xs.take i ++ [x] = xs.take (i + 1) := by
        rw [List.take_add_one, ex]; rfl
      have := step (xs.take i) x (xs.drop (i + 1)) δ ω e1 hI
      rw [hl, e2] at this
      exact this, fun δ ω hI => by
    subst e
    rw [List.length_mapIdx, List.take_length] at hI
    exact done δ ω hI⟩ S1 wk

/-! ### comprehensions -/
inductive Mat : Sl → L2.St → List V → Prop
  | nil : Mat [] [] []
  | no {δ : Sl} {σ : L2.St} {us : List V} {x : Option V} : Mat δ σ us → Mat (none :: δ) (x :: σ) us
  | yes {δ : Sl} {σ : L2.St} {us : List V} {a : A} {v : V} : Mat δ σ us → Mat (some a :: δ) (some v :: σ) (v :: us)
def slA (δ : Sl) : List A := δ.filterMap id
theorem mat_of {ps : List (Option Addr)} {H0 H : Hp} : ∀ {δ : Sl} {σ : L2.St}, σ.length = δ.length → (∀ (i : Nat) (a : A), δ[i]? = some (some a) → ∃ v, σ[i]? = some (some v) ∧ Rv ps H0 H a v) → ∃ us, Mat δ σ us ∧ RvA ps H0 H (slA δ) us
  | [], [], _, _ => ⟨[], .nil, .nil⟩
  | [], _ :: _, h, _ => by simp at h
  | _ :: _, [], h, _ => by simp at h
  | none :: δ, x :: σ, hl, h => by
    obtain ⟨us, m, r⟩ := mat_of (δ := δ) (σ := σ) (by simpa using hl) (fun i a e => h (i + 1) a (by simpa using e))
    exact ⟨us, .no m, r⟩
  | some a :: δ, x :: σ, hl, h => by
    obtain ⟨us, m, r⟩ := mat_of (δ := δ) (σ := σ) (by simpa using hl) (fun i a e => h (i + 1) a (by simpa using e))
    obtain ⟨v, h1, h2⟩ := h 0 a rfl
    have h1 : x = some v := by simpa using h1
    subst h1
    exact ⟨v :: us, .yes m, .cons h2 r⟩
theorem Mat.back {ps : List (Option Addr)} {H0 H : Hp} : ∀ {δ : Sl} {σ : L2.St} {us : List V}, Mat δ σ us → RvA ps H0 H (slA δ) us → ∀ (i : Nat) (a : A), δ[i]? = some (some a) → ∃ v, σ[i]? = some (some v) ∧ Rv ps H0 H a v
  | _, _, _, .nil, _, i, a, h => by simp at h
  | _, _, _, .no m, r, 0, a, h => by simp at h
  | _, _, _, .no m, r, i + 1, a, h => by
    obtain ⟨v, h1, h2⟩ := m.back (H := H) r i a (by simpa using h)
    exact ⟨v, by simpa using h1, h2⟩
  | _, _, _, .yes (a := a0) m, .cons r t, 0, a, h => by
    have h : a0 = a := by simpa using h
    subst h
    exact ⟨_, rfl, r⟩
  | _, _, _, .yes m, .cons r t, i + 1, a, h => by
    obtain ⟨v, h1, h2⟩ := m.back (H := H) t i a (by simpa using h)
    exact ⟨v, by simpa using h1, h2⟩
theorem Mat.len : ∀ {δ : Sl} {σ : L2.St} {us : List V}, Mat δ σ us → σ.length = δ.length ∧ us.length = (slA δ).length
  | _, _, _, .nil => ⟨rfl, rfl⟩
  | _, _, _, .no m => ⟨by simp [m.len.1], by simpa [slA] using m.len.2⟩
  | _, _, _, .yes m => ⟨by simp [m.len.1], by simpa [slA] using m.len.2⟩
/-- the slots are put by -/
theorem Sta.save {σ : L2.St} {H : Hp} {vs : List V} {as : List A} (S : Sta H0 σ H vs δ ω as) : ∃ us, Mat δ σ us ∧ Sta H0 σ H (us ++ vs) δ ω (slA δ ++ as) := by
  obtain ⟨ps, I⟩ := S
  obtain ⟨us, m, r⟩ := mat_of I.sl I.slot
  exact ⟨us, m, ps, { I with stk := r.append I.stk }⟩
theorem Sta.load {σ σ2 : L2.St} {H : Hp} {vs us : List V} {as : List A} {δ2 : Sl} (m : Mat δ σ us) (S : Sta H0 σ2 H (us ++ vs) δ2 ω (slA δ ++ as)) : Sta H0 σ H vs δ ω as := by
  obtain ⟨ps, I⟩ := S
  obtain ⟨q1, q2⟩ := RvA.split m.len.2 I.stk
  exact ⟨ps, { I with sl := m.len.1, slot := m.back q1, stk := q2 }⟩
def wipeA (δ : Sl) : List Nat → Sl
  | [] => δ
  | v :: vs => (wipeA δ vs).set v none
theorem wipeA_len (δ : Sl) : ∀ vs, (wipeA δ vs).length = δ.length
  | [] => rfl
  | v :: vs => by unfold wipeA; rw [List.length_set, wipeA_len δ vs]
theorem wipe_slot {ps : List (Option Addr)} {H0 H : Hp} {δ : Sl} {σ : L2.St} (h : ∀ (i : Nat) (a : A), δ[i]? = some (some a) → ∃ v, σ[i]? = some (some v) ∧ Rv ps H0 H a v) : ∀ (ws : List Nat) (i : Nat) (a : A), (wipeA δ ws)[i]? = some (some a) → ∃ v, (wipe σ ws)[i]? = some (some v) ∧ Rv ps H0 H a v
  | [], i, a, e => h i a e
  | w :: ws, i, a, e => by
    unfold wipeA at e
    by_cases hi : w = i
    · subst hi
      by_cases hw : w < (wipeA δ ws).length
      · rw [List.getElem?_set_self hw] at e; cases e
      · rw [List.getElem?_eq_none (by simpa using hw)] at e; cases e
    · rw [List.getElem?_set_ne hi] at e
      obtain ⟨v, h1, h2⟩ := wipe_slot h ws i a e
      exact ⟨v, by unfold wipe; rw [List.getElem?_set_ne hi]; exact h1, h2⟩
theorem Sta.wipe {σ : L2.St} {H : Hp} {vs : List V} {as : List A} (S : Sta H0 σ H vs δ ω as) (ws : List Nat) : Sta H0 (L2.wipe σ ws) H vs (wipeA δ ws) ω as := by
  obtain ⟨ps, I⟩ := S
  exact ⟨ps, { I with sl := by rw [wipe_length, wipeA_len]; exact I.sl, slot := wipe_slot I.slot ws }⟩
theorem wipe_set {σ : L2.St} {j : Nat} {x : Option V} : ∀ {ws : List Nat}, j ∈ ws → L2.wipe (σ.set j x) ws = L2.wipe σ ws
  | [], h => by simp at h
  | w :: ws, h => by
    unfold L2.wipe
    by_cases hj : j ∈ ws
    · rw [wipe_set hj]
    · have e : j = w := by
        rcases List.mem_cons.mp h with e | e
        · exact e
        · exact absurd e hj
      subst e
      have : ∀ ws : List Nat, j ∉ ws → L2.wipe (σ.set j x) ws = (L2.wipe σ ws).set j x := by
        intro ws
        induction ws with
        | nil => intro _; rfl
        | cons w ws ih =>
          intro hn
          have hw : w ≠ j := fun e => hn (by rw [e]; exact List.mem_cons_self)
          unfold L2.wipe
          rw [ih fun q => hn (List.mem_cons_of_mem _ q), List.set_comm _ _ hw.symm]
      rw [this ws hj, List.set_set]
theorem wipe_wipe {σ : L2.St} : ∀ {ws us : List Nat}, (∀ w ∈ ws, w ∈ us) → L2.wipe (L2.wipe σ ws) us = L2.wipe σ us
  | [], _, _ => rfl
  | w :: ws, us, h => by
    show L2.wipe ((L2.wipe σ ws).set w none) us = _
    rw [wipe_set (h w List.mem_cons_self), wipe_wipe fun q hq => h q (List.mem_cons_of_mem _ hq)]
/-- a target that stores in the block's own slots alone -/
def GW (g : TG) (ws : List Nat) : Prop := ∀ (x : V) (σ : L2.St) (H : Hp) (Q : L2.St → Hp → Prop), g x (L2.wipe σ ws) H Q → g x (L2.wipe σ ws) H fun σ' H' => L2.wipe σ' ws = L2.wipe σ ws ∧ Q σ' H'
theorem wipe2 {σ : L2.St} {ws : List Nat} : L2.wipe (L2.wipe σ ws) ws = L2.wipe σ ws := wipe_wipe fun _ h => h
theorem gw_name {i : Nat} {ws : List Nat} (h : i ∈ ws) : GW (gName i) ws := fun x σ H Q q => ⟨(wipe_set h).trans wipe2, q⟩
theorem gw_tup2 {i j : Nat} {ws : List Nat} (h : i ∈ ws) (h2 : j ∈ ws) : GW (gTup K 2 (gCons (gName i) (gCons (gName j) gNil))) ws := fun x σ H Q q => by
  obtain ⟨a, xs, e, hs, hl, v, r, e2, w, r2, e3, e4, q⟩ := q
  exact ⟨a, xs, e, hs, hl, v, r, e2, w, r2, e3, e4, ((wipe_set h2).trans (wipe_set h)).trans wipe2, q⟩
/-- a comprehension: the invariant tells the owned objects, the new list among them (the last when it is made) -/
theorem lc_core' {wi : TI} {g : TG} {tt : TT} {ws : List Nat} {F : Om → Om → Prop} (gw : GW g ws) (h : SR H0 wi δ ω fun L kp ω1 => ∃ I : Nat → Om → Prop, I 0 (ω1 ++ [.lst []]) ∧ (∀ i ω, I i ω → kp ω) ∧
    (∀ i c ω, L[i]? = some c → I i ω → ∃ δ', GX H0 g c (wipeA δ ws) ω δ' ∧ ET H0 tt δ' ω fun b ω2 => (b = true → EG H0 te δ' ω2 fun y ω3 => ∃ acc, ω3[ω1.length]? = some (.lst acc) ∧ acc.length < sizeLine ∧ I (i + 1) (ω3.set ω1.length (.lst (acc ++ [y])))) ∧ (b = false → I (i + 1) ω2)) ∧
    ∀ ω, I L.length ω → F ω1 ω) : ∀ (σ : L2.St) (H : Hp) (vs : List V) (as : List A), Sta H0 σ H vs δ ω as → ∀ Q : VK, (∀ ω1 ω' p H', F ω1 ω' → Sta H0 σ H' (.ref p :: vs) δ ω' (.ptr ω1.length :: as) → Scp ω1.length δ ω1 as [] → Q (.ref p) H') → tLc wi g tt te ws σ H Q := fun σ H vs as S Q q =>
  h σ H vs as S _ fun L kp ω1 J H1 w b ⟨I, i0, ik, step, done⟩ S1 wk => by
    intro D nD
    have sc : Scp ω1.length δ ω1 as [] := by
      obtain ⟨ps, I1⟩ := S1
      exact I1.pop.2.scp .nil
    have S2 : Sta H0 σ (upd H1 D (.lst [])) (w :: .ref D :: vs) δ (ω1 ++ [.lst []]) (b :: .ptr ω1.length :: as) := by
      obtain ⟨ps, I1⟩ := S1
      exact Sta.swap (el_make (xs := []) (bs := []) ⟨ps, I1, .nil⟩ nD).1
    refine ⟨fun i m H => m = L.length - i ∧ i ≤ L.length ∧ ∃ ω, I i ω ∧ Sta H0 σ H (w :: .ref D :: vs) δ ω (b :: .ptr ω1.length :: as), ⟨L.length, by simp, Nat.zero_le _, _, i0, S2⟩, ?_⟩
    rintro i m H' ⟨rfl, hi, ω', hI, S'⟩
    by_cases hlt : i < L.length
    · obtain ⟨us, mt, Sv⟩ := S'.save
      obtain ⟨_, w2⟩ := wk i σ H' _ δ ω' _ (ik i ω' hI) S'
      obtain ⟨go, _⟩ := w2 L[i] (List.getElem?_eq_getElem hlt)
      refine .inr ⟨go, fun H2 => ∃ ω, I (i + 1) ω ∧ Sta H0 σ H2 (w :: .ref D :: vs) δ ω (b :: .ptr ω1.length :: as), fun H2 ⟨ω2, h2, S2⟩ => ⟨L.length - (i + 1), by omega, rfl, hlt, ω2, h2, S2⟩, fun x H'' hy => ?_⟩
      -- the item comes; the slots are put by below it
      have Sx : Sta H0 σ H' (w :: (us ++ (w :: .ref D :: vs))) δ ω' (b :: (slA δ ++ (b :: .ptr ω1.length :: as))) := by
        obtain ⟨ps, I1⟩ := Sv
        obtain ⟨q1, q2⟩ := RvA.split mt.len.2 I1.stk
        cases q2 with
        | cons r t => exact ⟨ps, { I1 with stk := .cons r (q1.append (.cons r t)) }⟩
      obtain ⟨_, w3⟩ := wk i σ H' _ δ ω' _ (ik i ω' hI) Sx
      have Sy := ((w3 L[i] (List.getElem?_eq_getElem hlt)).2 x H'' hy)
      have Sz := (Sy.drop2).wipe ws
      obtain ⟨δ2, hg, ht⟩ := step i L[i] ω' (List.getElem?_eq_getElem hlt) hI
      refine gw x σ H'' _ (hg _ H'' _ _ x Sz _ fun σ3 H3 S3 => ht σ3 H3 _ _ S3 _ fun bb ω3 H4 ⟨hT, hF⟩ S4 => ?_)
      have fin : ∀ {ω4 : Om} {H5 : Hp} {v : V} {c : A}, Sta H0 σ3 H5 (us ++ (w :: .ref D :: vs)) δ2 ω4 (slA δ ++ (b :: .ptr ω1.length :: as)) → Sta H0 σ H5 (w :: .ref D :: vs) δ ω4 (b :: .ptr ω1.length :: as) := fun {ω4 H5 v c} S5 => S5.load mt
      cases bb with
      | true =>
        refine iteT (hT rfl σ3 H4 _ _ S4 _ fun y ω5 v H5 ⟨acc, hacc, hz, hI'⟩ S5 => ?_)
        obtain ⟨ps, I5⟩ := S5
        obtain ⟨ry, I6⟩ := I5.pop
        obtain ⟨q1, q2⟩ := RvA.split mt.len.2 I6.stk
        have rD : Rv ps H0 H5 (.ptr ω1.length) (.ref D) := by
          cases q2 with
          | cons _ t => cases t with | cons r _ => exact r
        obtain ⟨p, hp, e⟩ := rD
        cases e
        obtain ⟨p', xs, h3, h4, h5⟩ := I6.at_ hacc
        rw [hp] at h3
        cases h3
        have S7 := Sta.load mt ⟨ps, I6⟩
        obtain ⟨ps7, I7⟩ := S7
        refine ⟨xs, h4, by rw [h5.len]; exact hz, _, hI', ?_⟩
        have S8 := Sta.write (k := ω1.length) (p := D) (xs := xs ++ [v]) (bs := acc ++ [y]) ⟨ps, I6, hp, h5.append (.cons ry .nil)⟩ (List.getElem?_eq_some_iff.mp hacc).1
        exact S8.load mt
      | false => exact iteF ⟨_, hF rfl, S4.load mt⟩
    · have e : i = L.length := by omega
      subst e
      obtain ⟨w1, _⟩ := wk L.length σ H' _ δ ω' _ (ik _ ω' hI) S'
      exact .inl ⟨w1 (Nat.le_refl _), q _ _ _ _ (done ω' hI) S'.pop sc⟩
theorem eg_lcG {wi : TI} {g : TG} {tt : TT} {ws : List Nat} {P : A → Om → Prop} (gw : GW g ws) (h : SR H0 wi δ ω fun L kp ω1 => ∃ I : Nat → Om → Prop, I 0 (ω1 ++ [.lst []]) ∧ (∀ i ω, I i ω → kp ω) ∧
    (∀ i c ω, L[i]? = some c → I i ω → ∃ δ', GX H0 g c (wipeA δ ws) ω δ' ∧ ET H0 tt δ' ω fun b ω2 => (b = true → EG H0 te δ' ω2 fun y ω3 => ∃ acc, ω3[ω1.length]? = some (.lst acc) ∧ acc.length < sizeLine ∧ I (i + 1) (ω3.set ω1.length (.lst (acc ++ [y])))) ∧ (b = false → I (i + 1) ω2)) ∧
    ∀ ω, I L.length ω → P (.ptr ω1.length) ω) : EG H0 (tLc wi g tt te ws) δ ω P := fun σ H vs as S Q q =>
  lc_core' (F := fun ω1 ω' => P (.ptr ω1.length) ω') gw h σ H vs as S Q fun ω1 ω' p H' hp S' _ => q _ _ _ _ hp S'
/-- what a comprehension gives: of each item that passes its element -/
def compR {α : Type} (xs : List α) (f : Nat → α → Bool) (e : Nat → α → PyData) : List PyData := (xs.mapIdx fun i x => if f i x = true then [e i x] else []).flatten
theorem compR_len {α : Type} (xs : List α) (f : Nat → α → Bool) (e : Nat → α → PyData) : (compR xs f e).length ≤ xs.length := by
  unfold compR
  rw [List.length_flatten]
  have : ∀ (l : List (List PyData)), (∀ x ∈ l, x.length ≤ 1) → (l.map List.length).sum ≤ l.length := by
    intro l
    induction l with
    | nil => intro _; simp
    | cons x l ih =>
      intro h
      have h1 := h x List.mem_cons_self
      have h2 := ih fun y hy => h y (List.mem_cons_of_mem _ hy)
      simp only [List.map_cons, List.sum_cons, List.length_cons]
      omega
  refine Nat.le_trans (this _ fun x hx => ?_) (by simp)
  obtain ⟨i, hi, rfl⟩ := List.mem_mapIdx.mp hx
  split <;> simp
theorem compR_snoc {α : Type} (xs : List α) (x : α) (f : Nat → α → Bool) (e : Nat → α → PyData) : compR (xs ++ [x]) f e = compR xs f e ++ if f xs.length x = true then [e xs.length x] else [] := by
  unfold compR
  rw [List.mapIdx_append, List.flatten_append]
  simp
theorem compR_plain {α : Type} (xs : List α) (f : α → Bool) (e : α → PyData) : compR xs (fun _ => f) (fun _ => e) = (xs.filter f).map e := by
  unfold compR
  induction xs with
  | nil => rfl
  | cons x xs ih =>
    rw [List.mapIdx_cons, List.flatten_cons, ih, List.filter_cons]
    by_cases h : f x = true
    · simp [h]
    · simp [h]
theorem compR_all {α : Type} : ∀ (xs : List α) (e : Nat → α → PyData), compR xs (fun _ _ => true) e = xs.mapIdx e
  | [], _ => rfl
  | x :: xs, e => by
    have ih := compR_all xs (fun i => e (i + 1))
    unfold compR at ih ⊢
    rw [List.mapIdx_cons, List.flatten_cons, List.mapIdx_cons]
    rw [← ih]
    simp
theorem el_lc {α : Type} {xs : List α} {it : Nat → α → A} (f : Nat → α → Bool) (e : Nat → α → PyData) {wi : TI} {g : TG} {tt : TT} {ws : List Nat} {P : List A → Om → Prop} (gw : GW g ws) (hz : xs.length ≤ sizeLine)
    (h : SR H0 wi δ ω fun L kp ω1 => L = xs.mapIdx it ∧ (∀ acc, kp (ω1 ++ [.lst acc])) ∧ (∀ i x acc, xs[i]? = some x → ∃ δ', GX H0 g (it i x) (wipeA δ ws) (ω1 ++ [.lst acc]) δ' ∧ ET H0 tt δ' (ω1 ++ [.lst acc]) (fun b ω2 => b = f i x ∧ ω2 = ω1 ++ [.lst acc]) ∧
      (f i x = true → EG H0 te δ' (ω1 ++ [.lst acc]) (fun y ω3 => y = .dat (e i x) ∧ ω3 = ω1 ++ [.lst acc]))) ∧ P ((compR xs f e).map .dat) ω1) : EL H0 (tLc wi g tt te ws) δ ω P := fun σ H vs as S Q q =>
  lc_core' (F := fun ω1 ω' => ω' = ω1 ++ [.lst ((compR xs f e).map .dat)] ∧ P ((compR xs f e).map .dat) ω1) gw (fun σ H vs as S R k => h σ H vs as S R fun L kp ω1 J H1 w b ⟨eL, hk, hs, hp⟩ S1 wk => k L kp ω1 J H1 w b
    ⟨fun i ω => ω = ω1 ++ [.lst ((compR (xs.take i) f e).map .dat)], rfl, fun i ω hω => by rw [hω]; exact hk _, fun i c ω hc hω => by
      subst eL hω
      rw [List.getElem?_mapIdx] at hc
      cases ex : xs[i]? with
      | none => rw [ex] at hc; cases hc
      | some x =>
        rw [ex] at hc
        cases hc
        have hi := (List.getElem?_eq_some_iff.mp ex).1
        have hl : (xs.take i).length = i := by rw [List.length_take]; omega
        have e2 : xs.take (i + 1) = xs.take i ++ [x] := by rw [List.take_add_one, ex]; rfl
        obtain ⟨δ', h1, h2, h3⟩ := hs i x ((compR (xs.take i) f e).map .dat) ex
        refine ⟨δ', h1, fun σ H vs as S Q q => h2 σ H vs as S Q fun b ω2 H' ⟨eb, eω⟩ S' => q b ω2 H' ⟨fun hb => ?_, fun hb => ?_⟩ S'⟩
        · subst eω
          refine (h3 (eb ▸ hb)).imp fun y ω3 ⟨ey, eω⟩ => ?_
          subst ey eω
          refine ⟨(compR (xs.take i) f e).map .dat, by simp, ?_, ?_⟩
          · have := compR_len (xs.take i) f e
            rw [List.length_map]
            omega
          · show List.set _ _ _ = ω1 ++ [Ob.lst ((compR (xs.take (i + 1)) f e).map .dat)]
            rw [e2, compR_snoc, hl, if_pos (eb ▸ hb)]
            simp
        · show ω2 = _
          rw [eω, e2, compR_snoc, hl, if_neg (by rw [← eb, hb]; simp)]
          simp, fun ω hω => by
      subst eL
      rw [List.length_mapIdx, List.take_length] at hω
      exact ⟨hω, hp⟩⟩ S1 wk) σ H vs as S Q fun ω1 ω' p H' ⟨eω, hp⟩ S' sc => by
    subst eω
    exact q _ ω1 p H' hp S' ⟨sc.sl, sc.st, sc.ob, fun a ha => by
      obtain ⟨d, _, rfl⟩ := List.mem_map.mp ha
      trivial⟩

/-! ### calls -/
/-- what comes of a def's call: data, or an exception of a class that C tells -/
inductive Res (ε : Type) where
  | ok (d : PyData)
  | er (e : ε)
/-- a promise: on data that R relates to a result -/
def Pr {ε : Type} (C : ε → Addr) (R : List PyData → Res ε → Prop) : Sp := fun vs H Q E => ∃ ds r, RpA H vs ds ∧ R ds r ∧
  (match r with
  | .ok d => ∀ v H', Same H H' → Rp (vis [] H H') v d → Q v H'
  | .er e => ∀ H', Same H H' → E (.ref (C e)) none H')
theorem Inn.after {ps : List (Option Addr)} {σ : L2.St} {H H' : Hp} {vs : List V} {as : List A} {v : V} {d : PyData} (I : Inn H0 ps σ H vs δ ω as) (e : Same H H') (r : Rp (vis [] H H') v d) : Inn H0 ps σ H' (v :: vs) δ ω (.dat d :: as) :=
  (I.grow e).push (a := .dat d) (Rp.mono (vis_call I.old e I.thr) d v r)
theorem eg_call {ε : Type} {C : ε → Addr} {R : List PyData → Res ε → Prop} {E : XK} {ts : TA} {P : A → Om → Prop} (h : EA H0 ts δ ω fun bs ω1 => ∃ ds r, RdA ω1 bs ds ∧ R ds r ∧
    (match r with
    | .ok d => P (.dat d) ω1
    | .er e => ∀ H', Same H0 H' → E (.ref (C e)) none H')) : EG H0 (tCall (Pr C R) [] E ts) δ ω P := fun σ H vs as S Q q =>
  h σ H vs as S _ fun bs ω1 us H1 ⟨ds, r, hd, hr, hk⟩ hl S1 => by
    rw [List.append_nil]
    obtain ⟨ps, I⟩ := S1
    obtain ⟨q1, q2⟩ := RvA.split hl I.stk
    have I2 : Inn H0 ps σ H1 vs δ ω1 as := { I with stk := q2 }
    refine ⟨ds, r, RdA.rp I ds hd q1, hr, ?_⟩
    cases r with
    | ok d => exact fun v H' e rv => q _ _ v H' hk ⟨ps, I2.after e rv⟩
    | er e => exact fun H' s => hk H' (I.old.trans s)
/-- the list that a call hands back is taken as one's own -/
theorem el_call {ε : Type} {C : ε → Addr} {R : List PyData → Res ε → Prop} {E : XK} {ts : TA} {P : List A → Om → Prop} (h : EA H0 ts δ ω fun bs ω1 => ∃ ds r, RdA ω1 bs ds ∧ R ds r ∧
    (match r with
    | .ok d => ∃ es, d = .list es ∧ noLA es = true ∧ P (es.map .dat) ω1
    | .er e => ∀ H', Same H0 H' → E (.ref (C e)) none H')) : EL H0 (tCall (Pr C R) [] E ts) δ ω P := fun σ H vs as S Q q =>
  h σ H vs as S _ fun bs ω1 us H1 ⟨ds, r, hd, hr, hk⟩ hl S1 => by
    rw [List.append_nil]
    obtain ⟨ps, I⟩ := S1
    obtain ⟨q1, q2⟩ := RvA.split hl I.stk
    have I2 : Inn H0 ps σ H1 vs δ ω1 as := { I with stk := q2 }
    refine ⟨ds, r, RdA.rp I ds hd q1, hr, ?_⟩
    cases r with
    | ok d =>
      obtain ⟨es, rfl, ne, hp⟩ := hk
      intro v H' e rv
      cases rv with
      | lst h1 h2 =>
        rename_i p xs
        obtain ⟨_, g⟩ := vis_cases h1
        rcases g with ⟨g1, g2⟩ | ⟨_, z, _⟩
        · have rt : RvA (ps ++ [some p]) H0 H' (es.map .dat) xs := by
            refine .of_dats (RpA.mono ?_ es xs (RpA.tups es xs ne h2))
            intro b o hb
            unfold tups at hb
            split at hb
            · rename_i ys eb
              cases hb
              obtain ⟨_, g⟩ := vis_cases eb
              refine vis_tup (fun z => ?_) (I.old.trans e) (vis_sub e _ _ eb)
              rcases List.mem_append.mp z with z | z
              · obtain ⟨u, hu, nu⟩ := I.thr b z
                have := e _ _ hu
                rw [vis_sub e _ _ eb] at this
                cases this
                exact nu _ rfl
              · simp at z
                subst z
                have := vis_sub e _ _ eb
                rw [g2] at this
                cases this
            · cases hb
          have J := I2.adopt (H' := H') (p := p) (o := .lst (es.map .dat)) (ho := .lst xs) g1 e g2 rt
          refine q _ _ p H' hp ⟨_, J⟩ ?_
          have sc := I2.scp (bs := []) .nil
          exact ⟨sc.sl, sc.st, sc.ob, fun a ha => by
            obtain ⟨d, _, rfl⟩ := List.mem_map.mp ha
            trivial⟩
        · cases z
    | er e => exact fun H' s => hk H' (I.old.trans s)

/-! ### a def's body -/
/- what a def hands back is data of its own, or holds no list -/
mutual
inductive Fin (ω : Om) : A → PyData → Prop
  | dat (d : PyData) : Fin ω (.dat d) d
  | arg (d : PyData) (h : noL d = true) : Fin ω (.arg d) d
  | ptr {k : Nat} {as : List A} {ds : List PyData} : ω[k]? = some (.lst as) → FinA ω as ds → Fin ω (.ptr k) (.list ds)
inductive FinA (ω : Om) : List A → List PyData → Prop
  | nil : FinA ω [] []
  | cons {a : A} {as : List A} {d : PyData} {ds : List PyData} : Fin ω a d → FinA ω as ds → FinA ω (a :: as) (d :: ds)
end
theorem FinA.dats {ω : Om} : ∀ ds : List PyData, FinA ω (ds.map .dat) ds
  | [] => .nil
  | d :: ds => .cons (.dat d) (FinA.dats ds)
mutual
theorem Fin.rp {ps : List (Option Addr)} {σ : L2.St} {H : Hp} {vs : List V} {as : List A} (I : Inn H0 ps σ H vs δ ω as) : ∀ (d : PyData) {a : A} {v : V}, Fin ω a d → Rv ps H0 H a v → Rp (vis [] H0 H) v d
  | d, _, v, .dat _, r => Rp.mono vis_none d v r
  | d, _, v, .arg _ h, r => Rp.mono vis_none d v (I.argD h r)
  | .list ds, _, _, .ptr (as := bs) hk ha, ⟨p, h1, rfl⟩ => by
    obtain ⟨p', xs, h2, h3, h4⟩ := I.at_ hk
    rw [h1] at h2
    cases h2
    exact .lst (by rw [vis_new (by simp) (I.new p (List.mem_of_getElem? h1))]; exact h3) (FinA.rp I ds ha h4)
theorem FinA.rp {ps : List (Option Addr)} {σ : L2.St} {H : Hp} {vs : List V} {as : List A} (I : Inn H0 ps σ H vs δ ω as) : ∀ (ds : List PyData) {bs : List A} {xs : List V}, FinA ω bs ds → RvA ps H0 H bs xs → RpA (vis [] H0 H) xs ds
  | _, _, _, .nil, .nil => .nil
  | _ :: ds, _, _, .cons h t, .cons r rt => .cons (Fin.rp I _ h r) (FinA.rp I ds t rt)
end
/-- how an argument is told -/
def ent (d : PyData) : A := if noL d = true then .dat d else .arg d
theorem ent_dat {d : PyData} (h : noL d = true) : ent d = .dat d := if_pos h
theorem ent_arg {d : PyData} (h : noL d = false) : ent d = .arg d := if_neg (by rw [h]; decide)
/-- the slots at a def's start: the arguments, then n unset ones -/
def entry (ds : List PyData) (n : Nat) : Sl := ds.map (fun d => some (ent d)) ++ List.replicate n none
theorem sta_entry {H : Hp} {vs : List V} {ds : List PyData} {σ : L2.St} (n : Nat) (h : RpA H vs ds) (hσ : σ = vs.map some ++ List.replicate n none) : Sta H σ H [] (entry ds n) [] [] := by
  subst hσ
  refine ⟨[], ⟨by simp, rfl, Same.refl H, by simp, by simp, by simp [entry, h.len], fun i a e => ?_, .nil⟩⟩
  have hl := h.len
  unfold entry at e
  by_cases hi : i < ds.length
  · rw [List.getElem?_append_left (by simpa using hi), List.getElem?_map] at e
    cases ed : ds[i]? with
    | none => rw [ed] at e; cases e
    | some d =>
      rw [ed] at e
      cases e
      obtain ⟨v, h1, h2⟩ := h.get ed
      refine ⟨v, by rw [List.getElem?_append_left (by rw [List.length_map, hl]; exact hi), List.getElem?_map, h1]; rfl, ?_⟩
      unfold ent
      split
      · rename_i hn
        exact Rp.mono (vis_tups (Same.refl H) (by simp)) d v (Rp.tups d v hn h2)
      · exact h2
  · rw [List.getElem?_append_right (by simpa using hi)] at e
    have := List.mem_of_getElem? e
    rw [List.mem_replicate] at this
    cases this.2
example (k : Int) : ent (.int k) = .dat (.int k) := rfl
example (k : Int) (x : Str) : ent (.tuple [.str x, .int k]) = .dat (.tuple [.str x, .int k]) := rfl
example (ns : List PyData) : ent (.list ns) = .arg (.list ns) := rfl
/-- the wish of a def that is to hand back d -/
def Hand (d : PyData) : Post := { nx := fun _ _ => d = .none, rt := fun a ω => Fin ω a d }
theorem cov_hand {H : Hp} {Q : VK} {d : PyData} (q : ∀ v H', Same H H' → Rp (vis [] H H') v d → Q v H') : Cov H [] [] { nx := fun _ H' => Q .non H', rt := Q } (Hand d) where
  nx := fun δ ω σ H' e S => by
    have e : d = .none := e
    subst e
    exact q .non H' S.old .non
  rt := fun a δ ω v σ H' f ⟨ps, I⟩ => q v H' I.old (Fin.rp I d f I.pop.1)
  bk := fun _ _ _ _ e _ => e.elim
  ct := fun _ _ _ _ e _ => e.elim
end
end Y

/-! Lay5: a def's promise by its body's reading; short words; the walk's own steps. -/
namespace Y
open PySem PySem.Spec L2

abbrev rSub : R2 := rI0 fun i j => .int (i - j)
abbrev rPow : R2 := rI CPow fun i j => .int (i ^ j.toNat)
abbrev rLt : R2 := rI0 fun i j => .bl (decide (i < j))
abbrev rLe : R2 := rI0 fun i j => .bl (decide (i ≤ j))
abbrev rGt : R2 := rI0 fun i j => .bl (decide (j < i))
abbrev rGe : R2 := rI0 fun i j => .bl (decide (j ≤ i))
abbrev rNeg : V → Hp → VK → Prop := rU fun i => .int (-i)
abbrev rInt1 : List V → Hp → VK → Prop := fun xs H Q => (∃ i, xs = [.int i] ∧ Q (.int i) H) ∨ ∃ k, xs = [.bl k] ∧ Q (.int (if k then 1 else 0)) H

/-- the wish by a result -/
def HandR {ε : Type} : Res ε → Post
  | .ok d => Hand d
  | .er _ => { nx := fun _ _ => False, rt := fun _ _ => False }
theorem start_eq {N ps : List Str} {vs : List V} {n : Nat} (hn : N.length = ps.length + n) (hl : vs.length = ps.length) : L2.start N vs = vs.map some ++ List.replicate n none := by
  unfold L2.start
  rw [hn, hl, Nat.add_sub_cancel_left]
theorem cov_handR {ε : Type} {C : ε → Addr} {H : Hp} {Q : VK} {E : XK} {r : Res ε} (q : match r with
    | .ok d => ∀ v H', Same H H' → Rp (vis [] H H') v d → Q v H'
    | .er e => ∀ H', Same H H' → E (.ref (C e)) none H') : Cov H [] [] { nx := fun _ H' => Q .non H', rt := Q } (HandR r) := by
  cases r with
  | ok d => exact cov_hand q
  | er e => exact ⟨fun _ _ _ _ z _ => z.elim, fun _ _ _ _ _ _ z _ => z.elim, fun _ _ _ _ z _ => z.elim, fun _ _ _ _ z _ => z.elim⟩
section
variable {P : Program} {w : World} {K : PySem.W.Frag} {mg : Str → Option Value} {base : Heap}
/-- a def that may raise -/
theorem okR {x qual : Str} {st : Stmt} {f : Addr} {fd : FuncData} {N ps : List Str} {k : Nat} {ε : Type} {C : ε → Addr} {R : List PyData → Res ε → Prop} (F : Fun K x qual st f fd) (S : FnScope N ps (defScope st)) (hlen : ∀ ds r, R ds r → ds.length = ps.length) (n : Nat) (hn : N.length = ps.length + n) (t : XK → TS)
    (hd : ∀ (cdv : Value) (A : Around) (outer : List PySem.Env) (s : Shared) (H : Hp) (E : XK), Room k (A.deeper (PyProof.Rows.envOfC qual (defScope st) s.heap.objs.size f cdv)) → PSs (cxOf (L2.CX P w) P w K mg base N qual (defScope st) f cdv A outer s H E) (defBody st) (t E))
    (hw : ∀ (H : Hp) (E : XK) (ds : List PyData) (r : Res ε), R ds r → (∀ e, r = .er e → ∀ H', Same H H' → E (.ref (C e)) none H') → SX H (t E) (entry ds n) [] (HandR r)) : FnOk P w K mg base (L2.CX P w) (k + 1) f fd ps (Pr C R) :=
  F.okX S (fun vs H Q E ⟨ds, r, h1, h2, _⟩ => by rw [h1.len]; exact hlen ds r h2) fun cdv A outer s H vs Q E hr ⟨ds, r, h1, h2, h3⟩ =>
    ⟨t E, hd cdv A outer s H E hr, hw H E ds r h2 (fun e he => by subst he; exact h3) _ _ _ _ (sta_entry n h1 (start_eq hn (by rw [h1.len]; exact hlen ds r h2))) _ (cov_handR h3)⟩
/-- a def that raises nothing -/
theorem okN {x qual : Str} {st : Stmt} {f : Addr} {fd : FuncData} {N ps : List Str} {k : Nat} {ε : Type} {C : ε → Addr} {R : List PyData → Res ε → Prop} (F : Fun K x qual st f fd) (S : FnScope N ps (defScope st)) (hlen : ∀ ds r, R ds r → ds.length = ps.length) (n : Nat) (hn : N.length = ps.length + n) (t : TS)
    (hd : ∀ (cdv : Value) (A : Around) (outer : List PySem.Env) (s : Shared) (H : Hp) (E : XK), Room k (A.deeper (PyProof.Rows.envOfC qual (defScope st) s.heap.objs.size f cdv)) → PSs (cxOf CX0 P w K mg base N qual (defScope st) f cdv A outer s H E).nox (defBody st) t)
    (hw : ∀ (H : Hp) (ds : List PyData) (r : Res ε), R ds r → SX H t (entry ds n) [] (HandR r)) : FnOk P w K mg base CX0 (k + 1) f fd ps (Pr C R) :=
  F.ok S (fun vs H Q E ⟨ds, r, h1, h2, _⟩ => by rw [h1.len]; exact hlen ds r h2) fun cdv A outer s H vs Q E hr ⟨ds, r, h1, h2, h3⟩ =>
    ⟨t, hd cdv A outer s H E hr, hw H ds r h2 _ _ _ _ (sta_entry n h1 (start_eq hn (by rw [h1.len]; exact hlen ds r h2))) _ (cov_handR h3)⟩
end
theorem Room.u65 {k : Nat} {A : Around} (r : Room k A) : A.units + 65 < cLine := by have := r.un; omega
end Y

/-! Lay6: promises of defs that are handed the script; the written dict PARTS; the law's end. -/
namespace Y
open PySem PySem.Spec L2

/-! ### the script handed on -/
def PrS {ε : Type} (K : PySem.W.Frag) (C : ε → Addr) (R : List Int → List PyData → Res ε → Prop) : Sp := fun vs H Q E => ∃ (a : Addr) (us : List V) (ns : List Int) (ds : List PyData) (r : Res ε), vs = .ref a :: us ∧ SqL K H a (ns.map V.int) ∧ RpA H us ds ∧ R ns ds r ∧
  (match r with
  | .ok d => ∀ v H', Same H H' → Rp (vis [] H H') v d → Q v H'
  | .er e => ∀ H', Same H H' → E (.ref (C e)) none H')
theorem eg_callS {K : PySem.W.Frag} {H0 : Hp} {δ : Sl} {ω : Om} {ε : Type} {C : ε → Addr} {R : List Int → List PyData → Res ε → Prop} {E : XK} {ts : TA} {P : A → Om → Prop} (h : EA H0 ts δ ω fun bs ω1 => ∃ a cs ns ds d, bs = .raw (.ref a) :: cs ∧ SqL K H0 a (ns.map V.int) ∧ RdA ω1 cs ds ∧ R ns ds (.ok d) ∧ P (.dat d) ω1) : EG H0 (tCall (PrS K C R) [] E ts) δ ω P := fun σ H vs as S Q q =>
  h σ H vs as S _ fun bs ω1 us H1 ⟨a, cs, ns, ds, d, eb, hS, hd, hr, hk⟩ hl S1 => by
    rw [List.append_nil]
    subst eb
    match us, hl with
    | u :: us, hl =>
      obtain ⟨ps, I⟩ := S1
      obtain ⟨r0, I0⟩ := I.pop
      have e0 : u = .ref a := r0
      subst e0
      obtain ⟨q1, q2⟩ := RvA.split (as1 := cs) (vs1 := us) (by simpa using hl) I0.stk
      have I2 : Inn H0 ps σ H1 vs δ ω1 as := { I0 with stk := q2 }
      exact ⟨a, us, ns, ds, .ok d, rfl, I.old.seq hS, RdA.rp I0 ds hd q1, hr, fun v H' e rv => q _ _ v H' hk ⟨ps, I2.after e rv⟩⟩
theorem sta_entryS {H : Hp} {vs : List V} {ds : List PyData} {σ : L2.St} (n : Nat) (a : Addr) (h : RpA H vs ds) (hσ : σ = some (.ref a) :: (vs.map some ++ List.replicate n none)) : Sta H σ H [] (some (.raw (.ref a)) :: entry ds n) [] [] := by
  subst hσ
  obtain ⟨ps, I⟩ := sta_entry n h rfl
  refine ⟨ps, { I with sl := by simp [I.sl], slot := fun i b e => ?_ }⟩
  cases i with
  | zero =>
    have e : A.raw (.ref a) = b := by simpa using e
    subst e
    exact ⟨.ref a, rfl, rfl⟩
  | succ i => exact I.slot i b (by simpa using e)
section
variable {P : Program} {w : World} {K : PySem.W.Frag} {mg : Str → Option Value} {base : Heap}
/-- a def that is handed the script first, and raises nothing -/
theorem okS {x qual : Str} {st : Stmt} {f : Addr} {fd : FuncData} {N ps : List Str} {k : Nat} {ε : Type} {C : ε → Addr} {R : List Int → List PyData → Res ε → Prop} (F : Fun K x qual st f fd) (S : FnScope N ps (defScope st)) (hlen : ∀ ns ds r, R ns ds r → ds.length + 1 = ps.length) (n : Nat) (hn : N.length = ps.length + n) (t : TS)
    (hd : ∀ (cdv : Value) (A : Around) (outer : List PySem.Env) (s : Shared) (H : Hp) (E : XK), Room k (A.deeper (PyProof.Rows.envOfC qual (defScope st) s.heap.objs.size f cdv)) → PSs (cxOf CX0 P w K mg base N qual (defScope st) f cdv A outer s H E).nox (defBody st) t)
    (hw : ∀ (H : Hp) (a : Addr) (ns : List Int) (ds : List PyData) (r : Res ε), SqL K H a (ns.map V.int) → R ns ds r → SX H t (some (.raw (.ref a)) :: entry ds n) [] (HandR r)) : FnOk P w K mg base CX0 (k + 1) f fd ps (PrS K C R) := by
  refine F.ok S (fun vs H Q E h => ?_) fun cdv A outer s H vs Q E hr h => ?_
  · obtain ⟨a, us, ns, ds, r, rfl, hS, h1, h2, _⟩ := h
    rw [List.length_cons, h1.len]
    exact hlen ns ds r h2
  · obtain ⟨a, us, ns, ds, r, rfl, hS, h1, h2, h3⟩ := h
    have hl := hlen ns ds r h2
    refine ⟨t, hd cdv A outer s H E hr, hw H a ns ds r hS h2 _ _ _ _ (sta_entryS n a h1 ?_) _ (cov_handR h3)⟩
    rw [start_eq (n := n) hn (by rw [List.length_cons, h1.len]; exact hl)]
    rfl
end

/-! ### PARTS -/
def wSend : Str := PySem.Str.ofString "send"
def wGot : Str := PySem.Str.ofString "got"
def wNote : Str := PySem.Str.ofString "note"
def isWord (z : Str) : Bool := decide (z = wSend) || decide (z = wGot) || decide (z = wNote)
def partsOf (z : Str) : Int := if z = wNote then 2 else 3
structure PartsOk (K : PySem.W.Frag) (w : World) (d : Addr) : Prop where
  ex : ∃ es n, KDict K w d es n
  has : ∀ z, ∃ r, PySem.W.nsIn K d z = some r ∧ r.isSome = isWord z ∧ ∀ u, r = some u → ∃ t, u = .int (partsOf z) t
def tPartsNot (te : TE) : TE := fun σ H Q => te σ H fun x H1 => ∃ z, x = .str z ∧ Q (.bl (!isWord z)) H1
def tPartsIx (te : TE) : TE := fun σ H Q => te σ H fun x H1 => ∃ z, x = .str z ∧ isWord z = true ∧ Q (.int (partsOf z)) H1
theorem PE.ask {X : Cx} {e : Expr} {t t' : TE} (h : PE X e t) (i : ∀ σ H Q, t' σ H Q → t σ H Q) : PE X e t' := ⟨fun pins s σ H Q I q => h.run pins s σ H Q I (i σ H Q q)⟩
section
variable {X : Cx} {te : TE} {e : Expr} {pp pos : Pos} {d : Addr}
/-- every reading is a wish that may be weakened -/
theorem pe_partsNot (p : PartsOk X.K X.w d) (hg : Gl X "PARTS") (hm : X.mg "PARTS" = some (.ref d)) (he : PE X e te) (mono : ∀ σ H Q Q', (∀ v H1, Q v H1 → Q' v H1) → te σ H Q → te σ H Q') : PE X (.Compare e [.NotIn] [.Name "PARTS" pp] pos) (tPartsNot te) := by
  obtain ⟨es, n, D⟩ := p.ex
  refine PE.ask (pe_cmpR (op_notIn_kd D) he (pe_glob (v := .ref d) hg hm rfl) (by rfl)) fun σ H Q q => mono σ H _ _ (fun x H1 h => ?_) q
  obtain ⟨z, rfl, h⟩ := h
  obtain ⟨r, hr, hi, _⟩ := p.has z
  exact ⟨z, r, rfl, rfl, hr, by rw [hi]; exact h⟩
theorem pe_partsIx (p : PartsOk X.K X.w d) (hg : Gl X "PARTS") (hm : X.mg "PARTS" = some (.ref d)) (he : PE X e te) (mono : ∀ σ H Q Q', (∀ v H1, Q v H1 → Q' v H1) → te σ H Q → te σ H Q') (hs : PlainIx e := by exact fun _ _ => rfl) : PE X (.Subscript (.Name "PARTS" pp) e pos) (tPartsIx te) := by
  obtain ⟨es, n, D⟩ := p.ex
  refine PE.ask (pe_ix ix_kdict (pe_glob (v := .ref d) hg hm rfl) he hs) fun σ H Q q => mono σ H _ _ (fun x H1 h => ?_) q
  obtain ⟨z, rfl, hw, h⟩ := h
  obtain ⟨r, hr, hi, hu⟩ := p.has z
  rw [hw] at hi
  obtain ⟨u, rfl⟩ := Option.isSome_iff_exists.mp hi
  obtain ⟨t, rfl⟩ := hu u rfl
  exact ⟨d, z, .int (partsOf z), rfl, rfl, ⟨es, n, _, D.at_, D.lit, hr, t, rfl⟩, h⟩
end
section
variable {K : PySem.W.Frag} {H0 : Hp} {δ : Sl} {ω : Om} {P : A → Om → Prop} {te : TE}
theorem eg_partsNot (h : EG H0 te δ ω fun a ω1 => ∃ z, a = .dat (.str z) ∧ P (.dat (.bool (!isWord z))) ω1) : EG H0 (tPartsNot te) δ ω P := fun σ H vs as S Q q =>
  h σ H vs as S _ fun a ω1 x H1 ⟨z, e, hp⟩ S1 => by
    subst e
    obtain ⟨ps, I⟩ := S1
    obtain ⟨r, I1⟩ := I.pop
    cases (show Rp _ _ _ from r)
    exact ⟨z, rfl, q _ _ _ H1 hp (Sta.flat ⟨ps, I1⟩ (fl_bl _))⟩
theorem eg_partsIx (h : EG H0 te δ ω fun a ω1 => ∃ z, a = .dat (.str z) ∧ isWord z = true ∧ P (.dat (.int (partsOf z))) ω1) : EG H0 (tPartsIx te) δ ω P := fun σ H vs as S Q q =>
  h σ H vs as S _ fun a ω1 x H1 ⟨z, e, hw, hp⟩ S1 => by
    subst e
    obtain ⟨ps, I⟩ := S1
    obtain ⟨r, I1⟩ := I.pop
    cases (show Rp _ _ _ from r)
    exact ⟨z, rfl, hw, q _ _ _ H1 hp (Sta.flat ⟨ps, I1⟩ (fl_int _))⟩
end
/-- list(reversed(x)), x a list -/
def tLstRev (K : PySem.W.Frag) (te : TE) : TE := fun σ H Q => te σ H fun v H1 => ∃ (a : Addr) (xs : List V), v = .ref a ∧ SqL K H1 a xs ∧ ∀ q, H1 q = none → Q (.ref q) (upd H1 q (.lst xs.reverse))
theorem RvA.rev {ps : List (Option Addr)} {H0 H : Hp} : ∀ {as : List A} {vs : List V}, RvA ps H0 H as vs → RvA ps H0 H as.reverse vs.reverse
  | _, _, .nil => .nil
  | _, _, .cons h t => by
    rw [List.reverse_cons, List.reverse_cons]
    exact (RvA.rev t).append (.cons h .nil)
theorem el_lstRev {K : PySem.W.Frag} {H0 : Hp} {δ : Sl} {ω : Om} {te : TE} {P : List A → Om → Prop} (h : EG H0 te δ ω fun a ω1 => ∃ bs, Itm K H0 ω1 a bs ∧ P bs.reverse ω1) : EL H0 (tLstRev K te) δ ω P := fun σ H vs as S Q q =>
  h σ H vs as S _ fun a ω1 x H1 ⟨bs, it, hp⟩ S1 => by
    obtain ⟨ps, I⟩ := S1
    obtain ⟨r, I1⟩ := I.pop
    obtain ⟨p, xs, rfl, hs, rx, _⟩ := it.get I1 r
    refine ⟨p, xs, rfl, hs, fun b n => ?_⟩
    obtain ⟨s, c⟩ := el_make (vs := vs) (as := as) ⟨ps, I1, rx.rev⟩ n
    exact q _ ω1 b _ hp s c
/-- the reading of row[0] -/
theorem mono_ix {K : PySem.W.Frag} {i : Nat} {v : V} : ∀ σ H Q Q', (∀ v H1, Q v H1 → Q' v H1) → (tOp (rIx K) (tVar i) (tC v)) σ H Q → (tOp (rIx K) (tVar i) (tC v)) σ H Q' := by
  rintro σ H Q Q' i ⟨x, hx, h⟩
  refine ⟨x, hx, ?_⟩
  rcases h with ⟨p, xs, j, u, a, b, c, d, e⟩ | ⟨p, xs, j, u, a, b, c, d, e⟩ | ⟨z, j, c, a, b, d, e, f⟩
  · exact .inl ⟨p, xs, j, u, a, b, c, d, i _ _ e⟩
  · exact .inr (.inl ⟨p, xs, j, u, a, b, c, d, i _ _ e⟩)
  · exact .inr (.inr ⟨z, j, c, a, b, d, e, i _ _ f⟩)
section
variable {H0 : Hp} {δ : Sl} {ω : Om} {P : A → Om → Prop}
theorem eb_dat {r : R2} {a b : A} (h : EBL H0 r a b δ ω fun bs ω' => ∃ ds : List PyData, bs = ds.map .dat ∧ P (.dat (.list ds)) ω') : EB H0 r a b δ ω P := fun σ H vs as x y S Q q =>
  h σ H vs as x y S Q fun bs ω' p H' ⟨ds, e, hp⟩ S' c => by
    subst e
    exact q _ _ _ H' hp (S'.froze c)
theorem eb_own {r : R2} {a b : A} (h : EBL H0 r a b δ ω fun bs ω' => P (.ptr ω'.length) (ω' ++ [.lst bs])) : EB H0 r a b δ ω P := fun σ H vs as x y S Q q =>
  h σ H vs as x y S Q fun bs ω' p H' hp S' _ => q _ _ _ H' hp S'
theorem ec_dat {r : List V → Hp → VK → Prop} {cs : List A} (h : ECL H0 r cs δ ω fun bs ω' => ∃ ds : List PyData, bs = ds.map .dat ∧ P (.dat (.list ds)) ω') : EC H0 r cs δ ω P := fun σ H vs us as hl S Q q =>
  h σ H vs us as hl S Q fun bs ω' p H' ⟨ds, e, hp⟩ S' c => by
    subst e
    exact q _ _ _ H' hp (S'.froze c)
theorem ec_own {r : List V → Hp → VK → Prop} {cs : List A} (h : ECL H0 r cs δ ω fun bs ω' => P (.ptr ω'.length) (ω' ++ [.lst bs])) : EC H0 r cs δ ω P := fun σ H vs us as hl S Q q =>
  h σ H vs us as hl S Q fun bs ω' p H' hp S' _ => q _ _ _ H' hp S'
end
section
variable {K : PySem.W.Frag} {H0 : Hp} {δ : Sl} {ω : Om} {P : A → Om → Prop} {te : TE} {tt : TT}
theorem eb_fdivL {i j : Int} (c1 : 0 < j) (c2 : j < 1073741824) (p : P (.dat (.int (i / j))) ω) : EB H0 rFdivU (.dat (.int i)) (.dat (.int j)) δ ω P := eb_fdiv ⟨c1, c2⟩ p
theorem eb_mulL {i j : Int} (c1 : -(2 ^ 64) < i) (c2 : i < 2 ^ 64) (p : P (.dat (.int (i * j))) ω) : EB H0 rMulU (.dat (.int i)) (.dat (.int j)) δ ω P := eb_mul (.inl ⟨c1, c2⟩) p
theorem eb_mulR {i j : Int} (c1 : -(2 ^ 64) < j) (c2 : j < 2 ^ 64) (p : P (.dat (.int (i * j))) ω) : EB H0 rMulU (.dat (.int i)) (.dat (.int j)) δ ω P := eb_mul (.inr ⟨c1, c2⟩) p
theorem eb_powL {i j : Int} (c1 : 0 ≤ j) (c2 : j ≤ 1000000) (c3 : i.natAbs < 2 ^ 64) (p : P (.dat (.int (i ^ j.toNat))) ω) : EB H0 rPow (.dat (.int i)) (.dat (.int j)) δ ω P := eb_pow ⟨c1, c2, c3⟩ p
theorem mapIdx_const {α β : Type} (xs : List α) (f : α → β) : xs.mapIdx (fun _ x => f x) = xs.map f := by
  apply List.ext_getElem?
  intro i
  rw [List.getElem?_mapIdx, List.getElem?_map]
theorem szOk {n : Nat} (h : n ≤ 16777216) : n ≤ sizeLine := by rw [sizeLine_eq]; exact h
theorem szLt {n : Nat} (h : n < 16777216) : n < sizeLine := by rw [sizeLine_eq]; exact h
theorem filter_yes {α : Type} : ∀ xs : List α, xs.filter (fun _ => true) = xs
  | [] => rfl
  | x :: xs => by rw [List.filter_cons_of_pos rfl, filter_yes xs]
/-- [e for i in range(n) if f] -/
theorem el_lcR {ts : TA} {j n : Nat} {P : List A → Om → Prop} (hn : n ≤ 16777216) (f : Nat → Bool) (e : Nat → PyData) (h : EA H0 ts δ ω fun bs ω1 => bs = [.dat (.int (n : Nat))] ∧ ω1 = ω)
    (hs : ∀ i, i < n → ∀ ω', (∃ acc, ω' = ω ++ [.lst acc]) → ET H0 tt ((wipeA δ [j]).set j (some (.dat (.int (i : Nat))))) ω' (fun b ω2 => b = f i ∧ ω2 = ω') ∧ (f i = true → EG H0 te ((wipeA δ [j]).set j (some (.dat (.int (i : Nat))))) ω' fun y ω3 => y = .dat (e i) ∧ ω3 = ω'))
    (hp : P ((((List.range n).filter f).map e).map .dat) ω) : EL H0 (tLc (iRng1 ts) (gName j) tt te [j]) δ ω P := by
  refine el_lc (xs := List.range n) (it := fun _ i => .dat (.int (i : Nat))) (fun _ => f) (fun _ => e) (gw_name (by simp)) (by rw [List.length_range]; exact szOk hn) ?_
  refine sr_rng fun σ H vs as S Q q => h σ H vs as S Q fun bs ω1 us H1 ⟨eb, eω⟩ hl S1 => q bs ω1 us H1 ⟨n, eb, hn, (mapIdx_const _ _).symm, fun _ => trivial, fun i x acc hx => ?_, ?_⟩ hl S1
  · subst eω
    have hi := (List.getElem?_eq_some_iff.mp hx).1
    rw [List.length_range] at hi
    rw [List.getElem?_range hi] at hx
    cases hx
    obtain ⟨h1, h2⟩ := hs i hi _ ⟨acc, rfl⟩
    exact ⟨_, gx_name, h1, h2⟩
  · subst eω
    rw [compR_plain]
    exact hp
/-- [e for x in xs if f] -/
theorem el_lcL {α : Type} {tl : TE} {j : Nat} {P : List A → Om → Prop} (xs : List α) (enc : α → A) (hn : xs.length ≤ 16777216) (f : α → Bool) (e : α → PyData) (h : EG H0 tl δ ω fun a ω1 => ω1 = ω ∧ Itm K H0 ω a (xs.map enc) ∧ ∀ acc, Itm K H0 (ω ++ [.lst acc]) a (xs.map enc))
    (hs : ∀ x, x ∈ xs → ∀ ω', (∃ acc, ω' = ω ++ [.lst acc]) → ET H0 tt ((wipeA δ [j]).set j (some (enc x))) ω' (fun b ω2 => b = f x ∧ ω2 = ω') ∧ (f x = true → EG H0 te ((wipeA δ [j]).set j (some (enc x))) ω' fun y ω3 => y = .dat (e x) ∧ ω3 = ω'))
    (hp : P (((xs.filter f).map e).map .dat) ω) : EL H0 (tLc (iList K tl) (gName j) tt te [j]) δ ω P := by
  refine el_lc (xs := xs) (it := fun _ x => enc x) (fun _ => f) (fun _ => e) (gw_name (by simp)) (szOk hn) ?_
  refine sr_list (h.imp fun a ω1 ⟨eω, h1, h2⟩ => ?_)
  subst eω
  refine ⟨_, h1, (mapIdx_const _ _).symm, h2, fun i x acc hx => ?_, ?_⟩
  · obtain ⟨h1, h2⟩ := hs x (List.mem_of_getElem? hx) _ ⟨acc, rfl⟩
    exact ⟨_, gx_name, h1, h2⟩
  · rw [compR_plain]
    exact hp
/-- [e for i, x in enumerate(xs) if f] -/
theorem el_lcE {α : Type} {ts : TA} {j k : Nat} {P : List A → Om → Prop} (xs : List α) (enc : α → PyData) (hn : xs.length ≤ 16777216) (f : Nat → α → Bool) (e : Nat → α → PyData) (h : EA H0 ts δ ω fun bs ω1 => ω1 = ω ∧ ∃ a, bs = [a] ∧ Itm K H0 ω a ((xs.map enc).map .dat) ∧ ∀ acc, Itm K H0 (ω ++ [.lst acc]) a ((xs.map enc).map .dat))
    (hs : ∀ i x, xs[i]? = some x → ∀ ω', (∃ acc, ω' = ω ++ [.lst acc]) → ET H0 tt (((wipeA δ [j, k]).set j (some (.dat (.int (i : Nat))))).set k (some (.dat (enc x)))) ω' (fun b ω2 => b = f i x ∧ ω2 = ω') ∧ (f i x = true → EG H0 te (((wipeA δ [j, k]).set j (some (.dat (.int (i : Nat))))).set k (some (.dat (enc x)))) ω' fun y ω3 => y = .dat (e i x) ∧ ω3 = ω'))
    (hp : P ((compR xs f e).map .dat) ω) : EL H0 (tLc (iEnum K ts) (gTup K 2 (gCons (gName j) (gCons (gName k) gNil))) tt te [j, k]) δ ω P := by
  refine el_lc (xs := xs) (it := fun i x => .dat (.tuple [.int (i : Nat), enc x])) f e (gw_tup2 (by simp) (by simp)) (szOk hn) ?_
  refine sr_enum fun σ H vs as S Q q => h σ H vs as S Q fun bs ω1 us H1 ⟨eω, a, eb, i1, i2⟩ hl S1 => q bs ω1 us H1 ⟨a, xs.map enc, eb, by rw [eω]; exact i1, ?_, by rw [eω]; exact i2, fun i x acc hx => ?_, by rw [eω]; exact hp⟩ hl S1
  · unfold enA
    apply List.ext_getElem?
    intro i
    rw [List.getElem?_mapIdx, List.getElem?_mapIdx, List.getElem?_map]
    cases xs[i]? <;> rfl
  · subst eω
    obtain ⟨h1, h2⟩ := hs i x hx _ ⟨acc, rfl⟩
    exact ⟨_, gx_tup2, h1, h2⟩
end
/-- the ways through a statement meet -/
theorem sx_cut {H0 : Hp} {δ : Sl} {ω : Om} {P : Post} {t u : TS} (J : Sl → Om → Prop) (h : SX H0 t δ ω { P with nx := J }) (k : ∀ δ' ω', J δ' ω' → SX H0 u δ' ω' P) : SX H0 (tSeq t u) δ ω P :=
  sx_seq fun σ H vs as S D c => h σ H vs as S D ⟨fun δ' ω' σ' H' j S' => c.nx δ' ω' σ' H' (k δ' ω' j) S', c.rt, c.bk, c.ct⟩
end Y

/-! Lay7: the dict PARTS as the top has written it; its test. -/
namespace Y
open PySem PySem.Spec L2
theorem PT.ask {X : Cx} {e : Expr} {t t' : TT} (h : PT X e t) (i : ∀ σ H Q, t' σ H Q → t σ H Q) : PT X e t' := ⟨fun pins s σ H Q I q => h.run pins s σ H Q I (i σ H Q q)⟩
theorem pt_partsNot {X : Cx} {te : TE} {e : Expr} {pp pos : Pos} {d : Addr} (p : PartsOk X.K X.w d) (hg : Gl X "PARTS") (hm : X.mg "PARTS" = some (.ref d)) (he : PE X e te) (mono : ∀ σ H Q Q', (∀ v H1, Q v H1 → Q' v H1) → te σ H Q → te σ H Q') : PT X (.Compare e [.NotIn] [.Name "PARTS" pp] pos) (tB (tPartsNot te)) := by
  obtain ⟨es, n, D⟩ := p.ex
  refine PT.ask (pt_cmpR (op_notIn_kd D) he (pe_glob (v := .ref d) hg hm rfl) (by rfl)) fun σ H Q q => mono σ H _ _ (fun x H1 h => ?_) q
  obtain ⟨z, rfl, h⟩ := h
  obtain ⟨r, hr, hi, _⟩ := p.has z
  exact ⟨z, r, rfl, rfl, hr, by rw [hi]; exact h⟩
theorem ne_sg0 : wSend ≠ wGot := by decide +kernel
theorem ne_sn0 : wSend ≠ wNote := by decide +kernel
theorem ne_gn0 : wGot ≠ wNote := by decide +kernel
theorem parts_mk {K : PySem.W.Frag} {w : World} {d : Addr} {h1 h2 h3 : Int} {u1 u2 u3 v1 v2 v3 : Tok} {n : Nat}
    (pL : K.lookup d = some ⟨.type "dict", none, .dict #[⟨h1, .str wSend u1, .int 3 v1⟩, ⟨h2, .str wGot u2, .int 3 v2⟩, ⟨h3, .str wNote u3, .int 2 v3⟩] n, #[]⟩)
    (pK : PySem.W.KeysLit w.params [⟨h1, .str wSend u1, .int 3 v1⟩, ⟨h2, .str wGot u2, .int 3 v2⟩, ⟨h3, .str wNote u3, .int 2 v3⟩]) (pS : (d == sysModules) = false) : PartsOk K w d where
  ex := ⟨_, _, pL, pK, pS⟩
  has z := by
    have e : PySem.W.nsIn K d z = if wSend = z then some (some (.int 3 v1)) else if wGot = z then some (some (.int 3 v2)) else if wNote = z then some (some (.int 2 v3)) else some none := by
      unfold PySem.W.nsIn
      rw [pL]
      simp only [List.find?, Value.isStr]
      have f : ∀ a b : Str, a ≠ b → (a == b) = false := fun a b h => by simpa using h
      have t : ∀ a : Str, (a == a) = true := fun a => by simp
      by_cases a : wSend = z
      · subst a; rw [if_pos rfl, t]
      · rw [if_neg a, f _ _ a]
        by_cases b : wGot = z
        · subst b; rw [if_pos rfl, t]
        · rw [if_neg b, f _ _ b]
          by_cases c : wNote = z
          · subst c; rw [if_pos rfl, t]
          · rw [if_neg c, f _ _ c]
            rfl
    rw [e]
    by_cases a : wSend = z
    · subst a; exact ⟨_, rfl, rfl, fun u h => ⟨v1, by cases h; rfl⟩⟩
    · rw [if_neg a]
      by_cases b : wGot = z
      · subst b; rw [if_pos rfl]; exact ⟨_, rfl, rfl, fun u h => ⟨v2, by cases h; rfl⟩⟩
      · rw [if_neg b]
        by_cases c : wNote = z
        · subst c; rw [if_pos rfl]; exact ⟨_, rfl, rfl, fun u h => ⟨v3, by cases h; rfl⟩⟩
        · rw [if_neg c]
          refine ⟨_, rfl, ?_, fun u h => by cases h⟩
          unfold isWord
          rw [decide_eq_false (fun h => a h.symm), decide_eq_false (fun h => b h.symm), decide_eq_false (fun h => c h.symm)]
          rfl
end Y

/-! Lay8: a def's body that hands back a tuple of lists of its own. -/
namespace Y
open PySem PySem.Spec L2
def SX0 (H0 : Hp) (ts : TS) (δ : Sl) (ω : Om) (P : Post) : Prop := ∀ (σ : L2.St) (H : Hp), Sta H0 σ H [] δ ω [] → ∀ D : Ends, Cov H0 [] [] D P → ts D σ H
section
variable {K : PySem.W.Frag} {H0 : Hp} {δ : Sl} {ω : Om} {P : Post} {t u : TS} {ts : TA}
theorem sx0_of (h : SX H0 t δ ω P) : SX0 H0 t δ ω P := fun σ H S D c => h σ H _ _ S D c
theorem sx0_seq (h : SX H0 t δ ω { P with nx := fun δ' ω' => SX0 H0 u δ' ω' P }) : SX0 H0 (tSeq t u) δ ω P := fun σ H S D c =>
  h σ H _ _ S _ ⟨fun δ' ω' σ' H' hp S' => hp σ' H' S' D c, c.rt, c.bk, c.ct⟩
theorem sx0_if {tc : TT} (h : ET H0 tc δ ω fun b ω1 => (b = true → SX0 H0 t δ ω1 P) ∧ (b = false → SX0 H0 u δ ω1 P)) : SX0 H0 (tIfS tc t u) δ ω P := fun σ H S D c =>
  h σ H _ _ S _ fun b ω1 H1 ⟨h1, h2⟩ S1 => by
    cases b with
    | true => exact iteT (h1 rfl σ H1 S1 D c)
    | false => exact iteF (h2 rfl σ H1 S1 D c)
theorem sx0_retT (h : EA H0 ts δ ω fun bs ω1 => ∃ ds, FinA ω1 bs ds ∧ ds.length ≤ sizeLine ∧ P.rt (.dat (.tuple ds)) []) : SX0 H0 (tRet (tTup ts)) δ ω P := fun σ H S D c =>
  h σ H _ _ S _ fun bs ω1 us H1 ⟨ds, f, hz, hp⟩ hl S1 => by
    obtain ⟨ps, I⟩ := S1
    have hu : us.length = ds.length := by
      have : ∀ (bs : List A) (ds : List PyData), FinA ω1 bs ds → bs.length = ds.length := by
        intro bs
        induction bs with
        | nil => intro ds h; cases h; rfl
        | cons b bs ih => intro ds h; cases h with | cons _ h => simp [ih _ h]
      rw [hl, this _ _ f]
    refine ⟨by rw [hu]; exact hz, fun p n => ?_⟩
    have e : Same H1 (upd H1 p (.tup us)) := fun b u q => by rw [upd_ne (ne_of_none q n)]; exact q
    have J := I.grow e
    have h0 : H0 p = none := by
      cases h0 : H0 p with
      | none => rfl
      | some u => rw [I.old _ _ h0] at n; cases n
    have q1 := (RvA.split (as1 := bs) (as2 := []) (vs1 := us) (vs2 := []) hl J.stk).1
    refine c.rt _ [] [] _ [] _ hp ⟨[], fun j k b z => by simp at z, rfl, J.old, fun b z => by simp at z, fun k o z => by simp at z, rfl, fun i a z => by simp at z, .cons (.tup (xs := us) ?_ (FinA.rp J ds f q1)) .nil⟩
    rw [vis_new (by simp) h0]; exact upd_same
end
section
variable {P : Program} {w : World} {K : PySem.W.Frag} {mg : Str → Option Value} {base : Heap}
theorem okN0 {x qual : Str} {st : Stmt} {f : Addr} {fd : FuncData} {N ps : List Str} {k : Nat} {ε : Type} {C : ε → Addr} {R : List PyData → Res ε → Prop} (F : Fun K x qual st f fd) (S : FnScope N ps (defScope st)) (hlen : ∀ ds r, R ds r → ds.length = ps.length) (n : Nat) (hn : N.length = ps.length + n) (t : TS)
    (hd : ∀ (cdv : Value) (A : Around) (outer : List PySem.Env) (s : Shared) (H : Hp) (E : XK), Room k (A.deeper (PyProof.Rows.envOfC qual (defScope st) s.heap.objs.size f cdv)) → PSs (cxOf CX0 P w K mg base N qual (defScope st) f cdv A outer s H E).nox (defBody st) t)
    (hw : ∀ (H : Hp) (ds : List PyData) (r : Res ε), R ds r → SX0 H t (entry ds n) [] (HandR r)) : FnOk P w K mg base CX0 (k + 1) f fd ps (Pr C R) :=
  F.ok S (fun vs H Q E ⟨ds, r, h1, h2, _⟩ => by rw [h1.len]; exact hlen ds r h2) fun cdv A outer s H vs Q E hr ⟨ds, r, h1, h2, h3⟩ =>
    ⟨t, hd cdv A outer s H E hr, hw H ds r h2 _ _ (sta_entry n h1 (start_eq hn (by rw [h1.len]; exact hlen ds r h2))) _ (cov_handR h3)⟩
end
end Y

/-! Lay9: list(reversed(a list)). -/
namespace Y
open PySem PySem.Spec PySem.Calls PyProof.Rows PyProof.V L2 RT
section
variable {prog : Program} {w : World} {A : Around} {E : Value → Shared → Prop} {s : Shared}
theorem extend_rev {R : Result → Shared → Prop} {it l S : Addr} {items : Array Value} (res : Value) (hh : A.handled = none) (hit : s.heap.IsRevIter it l ((items.size : Int) - 1)) (hl : s.heap.IsList l items) (hne : l ≠ it) (hn : items.size ≤ sizeLine)
    (hSi : S ≠ it) (hSl : S ≠ l) (c0 : Nat) (hS : s.heap.get? S = some { cls := .type "list", data := .seq #[] c0 })
    (hR : ∀ h' tk acc' c', (∀ b o, b ≠ S → b ≠ it → s.heap.get? b = some o → h'.get? b = some o) → h'.get? S = some { cls := .type "list", dict := none, data := .seq acc' c', slots := #[] } → ItemsOf (fun i v => items[items.size - 1 - i]? = some v) acc' items.size → R (.ok (.ret res)) { s with heap := h', toks := tk }) :
    wpAny (model prog w) A.in1 (Builtin.List.listExtendWith (.ref S) (.ref it) res)
      (fun fin s' => match fin with | .done f => R (.ok f) s' | .again c' => c'.quiet = true ∧ codeAny (model prog w) A c' R s') (fun e s' => R (.error e) s') s := by
  have W := (Walks.listRev (prog := prog) (w := w) (A := A.in1) hh it l hne items).toS
  have hSf : S ∉ [it, l] := by simp only [List.mem_cons, List.not_mem_nil, or_false, not_or]; exact ⟨hSi, hSl⟩
  have hT : s.TypeIs (.ref it) "list_reverseiterator" := Heap.IsRevIter.typeIs hit
  have h1 : Builtin.List.listSameRef (.ref S) (.ref it) = false := by simp [Builtin.List.listSameRef, hSi]
  unfold Builtin.List.listExtendWith
  refine wpAny_bind (wpAny_typeOf hT ?_)
  rw [if_neg (by rw [h1]; decide)]
  refine wpAny_bind (wpAny_pyIter_revIter hit ?_)
  refine wpAny_bind (wpAny_holding ?_)
  unfold Builtin.List.listLengthHint
  refine wpAny_bind (wpAny_specialOf hT nolen_lri ?_)
  show wpAny _ A.in1 (specialOf (Value.ref it) (Str.ofString "__length_hint__") >>= _) _ _ _
  refine wpAny_bind (wpAny_specialOf hT hint_lri ?_)
  generalize hid : ("list_reverseiterator.__length_hint__" : String) = id0
  wp_delta
  rw [show splitId id0 = some ("list_reverseiterator", "__length_hint__") from by subst hid; decide +kernel]
  subst hid
  refine wpAny_bind (wpAny_isInstance (b := true) hT (by rw [isSubtype_type]; kernel_rfl) ?_)
  refine wpAny_pure ?_
  rw [if_neg (by decide)]
  have e0 : ((items.size : Nat) : Int) - 1 - ((0 : Nat) : Int) = (items.size : Int) - 1 := by omega
  refine wpAny_pure ⟨plainId_quiet F.plain_extend_loop _, codeAny_extend_loopS W hn _ hSf _ items.size 0 _ _ _ rfl (Nat.zero_le _) ⟨Nat.zero_le _, by rw [e0]; exact hit, hl⟩ hS (ItemsOf.nil _) fun s' acc' c' hm hS' hacc => ?_⟩
  rw [Moved.eq_with hm]
  refine hR s'.heap s'.toks acc' c' (fun b o hb hb2 e => hm.heap b o (fun hmem => ?_) e) hS' hacc
  rcases List.mem_cons.mp hmem with e' | hmem
  · exact hb e'
  · exact hb2 (List.mem_singleton.mp hmem)
theorem call_list_rev {it l : Addr} {items : Array Value} {Q : Value → Shared → Prop} (hh : A.handled = none) (hit : s.heap.IsRevIter it l ((items.size : Int) - 1)) (hl : s.heap.IsList l items) (hne : l ≠ it) (hn : items.size ≤ sizeLine)
    (hQ : ∀ h' tk acc' c', (∀ b o, b ≠ it → s.heap.get? b = some o → h'.get? b = some o) → h'.get? s.heap.objs.size = some { cls := .type "list", dict := none, data := .seq acc' c', slots := #[] } → ItemsOf (fun i v => items[items.size - 1 - i]? = some v) acc' items.size → Q (.ref s.heap.objs.size) { s with heap := h', toks := tk }) :
    wpAny (model prog w) A (call (.type "list") [.ref it]) Q E s := by
  obtain ⟨oi, hoi, _⟩ := id hit
  obtain ⟨ol, hol, _⟩ := id hl
  have hSi : s.heap.objs.size ≠ it := Nat.ne_of_gt (Heap.lt_size hoi)
  have hSl : s.heap.objs.size ≠ l := Nat.ne_of_gt (Heap.lt_size hol)
  refine callType_codes (Q₁ := fun obj s₁ => obj = .ref s.heap.objs.size ∧ s₁ = { s with heap := s.heap.push { cls := .type "list", data := .seq #[] } }) PySem.F.called_list (PySem.F.typeCall_list_1 _) PySem.F.entry_list_init
    (code_list_new _ ⟨rfl, rfl⟩) fun obj s₁ h₁ => ?_
  obtain ⟨rfl, rfl⟩ := h₁
  have hS : (s.heap.push { cls := .type "list", data := .seq #[] }).get? s.heap.objs.size = some { cls := .type "list", data := .seq #[] } := Heap.get?_push_size _ rfl
  refine ⟨⟨_, hS, rfl⟩, PySem.F.args_list_init_2 _ _, ?_⟩
  show wpAny _ A.in1.in1 (do let old ← Builtin.List.listItems (.ref s.heap.objs.size); Builtin.List.listUpdate (.ref s.heap.objs.size) (fun _ => #[]); letGo old.toList.reverse; Builtin.List.listExtendWith (.ref s.heap.objs.size) (.ref it) .none) _ _ _
  refine wpAny_bind ?_
  unfold Builtin.List.listItems
  refine wpAny_bind (wpAny_seqItems hS rfl (wpAny_pure ?_))
  show wpAny _ A.in1.in1 (updateSeq s.heap.objs.size (fun _ => #[]) >>= fun _ => letGo (#[] : Array Value).toList.reverse >>= fun _ => Builtin.List.listExtendWith (.ref s.heap.objs.size) (.ref it) .none) _ _ _
  refine wpAny_bind (wpAny_updateSeq hS rfl ?_)
  have hS₂ := Heap.get?_update_self (Obj.mapSeq (fun _ => (#[] : Array Value))) hS rfl
  have oth : ∀ b o, b ≠ s.heap.objs.size → (s.heap.push { cls := .type "list", data := .seq #[] }).get? b = some o → ((s.heap.push { cls := .type "list", data := .seq #[] }).update s.heap.objs.size (Obj.mapSeq (fun _ => (#[] : Array Value)))).get? b = some o :=
    fun b o hb e => (Heap.get?_update_other _ _ (Ne.symm hb)).trans e
  refine wpAny_bind (wpAny_letGo ?_)
  have hit1 : ((s.heap.push { cls := .type "list", data := .seq #[] }).update s.heap.objs.size (Obj.mapSeq (fun _ => (#[] : Array Value)))).IsRevIter it l ((items.size : Int) - 1) := hit.at fun o e => oth _ _ hSi.symm (Heap.get?_push_of_some _ e)
  have hl1 : ((s.heap.push { cls := .type "list", data := .seq #[] }).update s.heap.objs.size (Obj.mapSeq (fun _ => (#[] : Array Value)))).IsList l items := hl.at fun o e => oth _ _ hSl.symm (Heap.get?_push_of_some _ e)
  refine extend_rev (A := A.in1) .none hh hit1 hl1 hne hn hSi hSl _ hS₂ fun h' tk acc' c' hk hS' hacc => ?_
  exact ⟨rfl, hQ h' tk acc' c' (fun b o hb e => hk b o (Nat.ne_of_lt (Heap.lt_size e)) hb (oth b o (Nat.ne_of_lt (Heap.lt_size e)) (Heap.get?_push_of_some _ e))) hS' hacc⟩
end
section
variable {X : Cx}
theorem pe_lstRev {e : Expr} {te : TE} {p p2 pos pos2 : Pos} (hc : X.calm = true) (hg : Gl X "list") (hm : X.mg "list" = none) (hg2 : Gl X "reversed") (hm2 : X.mg "reversed" = none) (he : PE X e te)
    (hs : starEach [e] X.env = (false, eval e X.env) :: starEach [] X.env := by rfl)
    (hs2 : starEach [.Call (.Name "reversed" p2) [e] [] pos2] X.env = (false, eval (.Call (.Name "reversed" p2) [e] [] pos2) X.env) :: starEach [] X.env := by rfl) :
    PE X (.Call (.Name "list" p) [.Call (.Name "reversed" p2) [e] [] pos2] [] pos) (tLstRev X.K te) := by
  refine ⟨fun pins s σ H Q I h => ?_⟩
  refine Call_ (ld_blt I hg hm boot_list (PyProof.Rows.callWith_type1 (args_cons (Call_ (ld_blt I hg2 hm2 PyProof.Rows.boot_reversed (PyProof.Rows.callWith_type1 (args_cons (thn (he.run pins s σ H _ I h) fun u s1 ⟨v, H1, I1, r1, q1⟩ => args_nil ?_) hs) hs rfl))) hs2) hs2 rfl))
  obtain ⟨a, xs, ev, hq, q⟩ := q1
  subst ev
  obtain rfl : u = Value.ref a := r1
  obtain ⟨its, rv, p', hz⟩ := I1.list hq
  refine call_reversed_list p'.isList (args_nil ?_)
  have k0 : ∀ b o, s1.heap.get? b = some o → (s1.heap.push (revObj a ((its.toArray.size : Int) - 1))).get? b = some o := fun b o e => Heap.get?_push_of_some _ e
  have I2 : Inv X pins σ H1 { s1 with heap := s1.heap.push (revObj a ((its.toArray.size : Int) - 1)) } := I1.kept (t' := s1.toks) k0
  have fp := I1.fpOk (H' := H1) (b := s1.heap.objs.size) (Nat.le_refl _) (I1.hok.fresh (Nat.le_refl _))
  have hl := p'.isList
  obtain ⟨ol, hol, _⟩ := id hl
  have hne : a ≠ s1.heap.objs.size := Nat.ne_of_lt (Heap.lt_size hol)
  have hn : its.toArray.size ≤ sizeLine := by rw [List.size_toArray, ← rv.length]; exact hz
  refine call_list_rev (s := { s1 with heap := s1.heap.push (revObj a ((its.toArray.size : Int) - 1)) }) (I1.ok.hd hc) ⟨_, Heap.get?_push_size _ rfl, rfl, rfl⟩ (hl.push _) hne hn fun h' tk acc c' hk hD hi => ?_
  refine ⟨.ref (s1.heap.push (revObj a ((its.toArray.size : Int) - 1))).objs.size, upd H1 (s1.heap.push (revObj a ((its.toArray.size : Int) - 1))).objs.size (.lst xs.reverse), I2.turnedNew (t' := tk) (ch := [s1.heap.objs.size]) (fun b o hb e => hk b o (fun z => hb (by simp [z])) e) (fun b hb => by rw [List.mem_singleton.mp hb]; exact fp) (Nat.le_refl _) (show ObjOk X.prog X.w _ _ _ (.lst xs.reverse) from ⟨by rw [List.length_reverse]; exact hz, acc.toList, c', vals_rev rv hi, ?_⟩), rfl, q _ (I2.hok.fresh (Nat.le_refl _))⟩
  rw [Array.toArray_toList]
  exact hD
end
end Y

/-! Lay10: a def that hands back a dict of its own, numbers by numbers. -/
namespace Y
open PySem PySem.Spec L2
abbrev dkv (kvs : List (Int × Int)) : List (Key × V) := kvs.map fun e => (Sum.inl e.1, V.int e.2)
def PrD {ε : Type} (C : ε → Addr) (R : List PyData → List (Int × Int) → Prop) : Sp := fun vs H Q E => ∃ ds kvs, RpA H vs ds ∧ R ds kvs ∧ ∀ p H', Same H H' → H p = none → H' p = some (.dK (dkv kvs)) → Q (.ref p) H'
def HandD (kvs : List (Int × Int)) : Post := { nx := fun _ _ => False, rt := fun a ω => ∃ k, a = .ptr k ∧ ω[k]? = some (.dic (dkv kvs)) }
theorem cov_handD {H : Hp} {Q : VK} {kvs : List (Int × Int)} (q : ∀ p H', Same H H' → H p = none → H' p = some (.dK (dkv kvs)) → Q (.ref p) H') : Cov H [] [] { nx := fun _ H' => Q .non H', rt := Q } (HandD kvs) where
  nx := fun _ _ _ _ e _ => e.elim
  rt := fun a δ ω v σ H' ⟨k, e, hk⟩ ⟨ps, I⟩ => by
    subst e
    obtain ⟨⟨p, h1, rfl⟩, _⟩ := I.pop
    rcases I.obs k _ hk with ⟨z, _⟩ | ⟨p', ho, h2, h3, h4⟩
    · cases z
    · rw [h1] at h2
      cases h2
      cases ho with
      | dK kvs' =>
        have h4 : kvs' = dkv kvs := h4
        subst h4
        exact q p H' I.old (I.new p (List.mem_of_getElem? h1)) h3
      | _ => exact h4.elim
  bk := fun _ _ _ _ e _ => e.elim
  ct := fun _ _ _ _ e _ => e.elim
section
variable {P : Program} {w : World} {K : PySem.W.Frag} {mg : Str → Option Value} {base : Heap}
theorem okD {x qual : Str} {st : Stmt} {f : Addr} {fd : FuncData} {N ps : List Str} {k : Nat} {ε : Type} {C : ε → Addr} {R : List PyData → List (Int × Int) → Prop} (F : Fun K x qual st f fd) (S : FnScope N ps (defScope st)) (hlen : ∀ ds r, R ds r → ds.length = ps.length) (n : Nat) (hn : N.length = ps.length + n) (t : TS)
    (hd : ∀ (cdv : Value) (A : Around) (outer : List PySem.Env) (s : Shared) (H : Hp) (E : XK), Room k (A.deeper (PyProof.Rows.envOfC qual (defScope st) s.heap.objs.size f cdv)) → PSs (cxOf CX0 P w K mg base N qual (defScope st) f cdv A outer s H E).nox (defBody st) t)
    (hw : ∀ (H : Hp) (ds : List PyData) (r : List (Int × Int)), R ds r → SX H t (entry ds n) [] (HandD r)) : FnOk P w K mg base CX0 (k + 1) f fd ps (PrD C R) :=
  F.ok S (fun vs H Q E ⟨ds, r, h1, h2, _⟩ => by rw [h1.len]; exact hlen ds r h2) fun cdv A outer s H vs Q E hr ⟨ds, r, h1, h2, h3⟩ =>
    ⟨t, hd cdv A outer s H E hr, hw H ds r h2 _ _ _ _ (sta_entry n h1 (start_eq hn (by rw [h1.len]; exact hlen ds r h2))) _ (cov_handD h3)⟩
end
section
variable {K : PySem.W.Frag} {H0 : Hp} {δ : Sl} {ω : Om}
theorem eg_callD {ε : Type} {C : ε → Addr} {R : List PyData → List (Int × Int) → Prop} {E : XK} {ts : TA} {P : A → Om → Prop} (h : EA H0 ts δ ω fun bs ω1 => ∃ ds kvs, RdA ω1 bs ds ∧ R ds kvs ∧ P (.ptr ω1.length) (ω1 ++ [.dic (dkv kvs)])) : EG H0 (tCall (PrD C R) [] E ts) δ ω P := fun σ H vs as S Q q =>
  h σ H vs as S _ fun bs ω1 us H1 ⟨ds, kvs, hd, hr, hp⟩ hl S1 => by
    rw [List.append_nil]
    obtain ⟨ps, I⟩ := S1
    obtain ⟨q1, q2⟩ := RvA.split hl I.stk
    have I2 : Inn H0 ps σ H1 vs δ ω1 as := { I with stk := q2 }
    refine ⟨ds, kvs, RdA.rp I ds hd q1, hr, fun p H' e n hp' => ?_⟩
    exact q _ _ _ _ hp ⟨_, I2.adopt (H' := H') (p := p) (o := .dic (dkv kvs)) (ho := .dK (dkv kvs)) n e hp' rfl⟩
end
end Y

/-! Lay11: a def that hands back a list of lists of numbers, each of them its own. -/
namespace Y
open PySem PySem.Spec L2
abbrev oN (ns : List Int) : Ob := .lst (ns.map fun n => .dat (.int n))
abbrev hN (ns : List Int) : HO := .lst (ns.map V.int)
/-- where the inner lists lie -/
def Lies (H : Hp) : List Addr → List (List Int) → Prop
  | [], [] => True
  | q :: qs, ns :: T => H q = some (hN ns) ∧ Lies H qs T
  | _, _ => False
theorem Lies.mono {H H' : Hp} (e : Same H H') : ∀ {qs : List Addr} {T : List (List Int)}, Lies H qs T → Lies H' qs T
  | [], [], _ => trivial
  | q :: qs, ns :: T, ⟨a, b⟩ => ⟨e _ _ a, Lies.mono e b⟩
  | [], _ :: _, h => h.elim
  | _ :: _, [], h => h.elim
theorem Lies.len {H : Hp} : ∀ {qs : List Addr} {T : List (List Int)}, Lies H qs T → qs.length = T.length
  | [], [], _ => rfl
  | q :: qs, ns :: T, ⟨_, b⟩ => by simp [Lies.len b]
  | [], _ :: _, h => h.elim
  | _ :: _, [], h => h.elim
def PrN {ε : Type} (C : ε → Addr) (R : List PyData → Except ε (List (List Int)) → Prop) : Sp := fun vs H Q E => ∃ ds r, RpA H vs ds ∧ R ds r ∧
  (match r with
  | .ok T => ∀ p qs H', Same H H' → H p = none → (∀ q ∈ qs, H q = none) → (p :: qs).Nodup → H' p = some (.lst (qs.map V.ref)) → Lies H' qs T → Q (.ref p) H'
  | .error e => ∀ H', Same H H' → E (.ref (C e)) none H')
theorem rvA_nums {ps : List (Option Addr)} {H0 H : Hp} (ns : List Int) : RvA ps H0 H (ns.map fun n => .dat (.int n)) (ns.map V.int) := by
  induction ns with
  | nil => exact .nil
  | cons n ns ih => exact .cons (show Rp _ _ _ from .int n) ih
section
variable {H0 : Hp} {σ : L2.St} {vs : List V} {δ : Sl} {as : List A}
/-- many lists of numbers are taken on -/
theorem adopt_all {H' : Hp} : ∀ (qs : List Addr) (T : List (List Int)) {ps : List (Option Addr)} {H : Hp} {ω : Om}, Inn H0 ps σ H vs δ ω as → Same H H' → (∀ q ∈ qs, H q = none) → qs.Nodup → Lies H' qs T →
    ∃ H1, Inn H0 (ps ++ qs.map some) σ H1 vs δ (ω ++ T.map oN) as ∧ Same H1 H' ∧ ∀ b, H b = none → b ∉ qs → H1 b = none
  | [], [], ps, H, ω, I, e, _, _, _ => ⟨H, by simpa using I, e, fun b h _ => h⟩
  | q :: qs, ns :: T, ps, H, ω, I, e, hn, nd, ⟨h1, h2⟩ => by
    have hq := hn q List.mem_cons_self
    have eH : Same H (upd H q (hN ns)) := fun b u z => by rw [upd_ne (ne_of_none z hq)]; exact z
    have eH' : Same (upd H q (hN ns)) H' := fun b u z => by
      by_cases hb : b = q
      · subst hb
        rw [upd_same] at z
        cases z
        exact h1
      · rw [upd_ne hb] at z
        exact e _ _ z
    have J := (I.adopt (H' := upd H q (hN ns)) (p := q) (o := oN ns) (ho := hN ns) hq eH upd_same (rvA_nums ns)).pop.2
    obtain ⟨nq, nd'⟩ := List.nodup_cons.mp nd
    obtain ⟨H1, K1, K2, K3⟩ := adopt_all qs T J eH' (fun q' hq' => by
      have : q' ≠ q := fun z => nq (z ▸ hq')
      rw [upd_ne this]
      exact hn q' (List.mem_cons_of_mem _ hq')) nd' h2
    refine ⟨H1, by simpa using K1, K2, fun b hb hm => K3 b ?_ (fun z => hm (List.mem_cons_of_mem _ z))⟩
    rw [upd_ne (fun z => hm (by rw [z]; exact List.mem_cons_self))]
    exact hb
  | [], _ :: _, _, _, _, _, _, _, _, h => h.elim
  | _ :: _, [], _, _, _, _, _, _, _, h => h.elim
end
section
variable {K : PySem.W.Frag} {H0 : Hp} {δ : Sl} {ω : Om}
abbrev ptrs (k n : Nat) : List A := (List.range n).map fun i => .ptr (k + i)
theorem eg_callN {ε : Type} {C : ε → Addr} {R : List PyData → Except ε (List (List Int)) → Prop} {E : XK} {ts : TA} {P : A → Om → Prop} (h : EA H0 ts δ ω fun bs ω1 => ∃ ds r, RdA ω1 bs ds ∧ R ds r ∧
    (match r with
    | .ok T => P (.ptr (ω1.length + T.length)) (ω1 ++ T.map oN ++ [.lst (ptrs ω1.length T.length)])
    | .error e => ∀ H', Same H0 H' → E (.ref (C e)) none H')) : EG H0 (tCall (PrN C R) [] E ts) δ ω P := fun σ H vs as S Q q =>
  h σ H vs as S _ fun bs ω1 us H1 ⟨ds, r, hd, hr, hk⟩ hl S1 => by
    rw [List.append_nil]
    obtain ⟨ps, I⟩ := S1
    obtain ⟨q1, q2⟩ := RvA.split hl I.stk
    have I2 : Inn H0 ps σ H1 vs δ ω1 as := { I with stk := q2 }
    refine ⟨ds, r, RdA.rp I ds hd q1, hr, ?_⟩
    cases r with
    | error e => exact fun H' s => hk H' (I.old.trans s)
    | ok T =>
      intro p qs H' e n hn nd hp hl
      obtain ⟨np, nd'⟩ := List.nodup_cons.mp nd
      obtain ⟨H2, J, e2, h3⟩ := adopt_all qs T I2 e hn nd' hl
      have hlen := I2.len
      have rp : ∀ (l : List Addr) (k : Nat) (xs : List (Option Addr)), xs.length = k → RvA (xs ++ l.map some ++ [some p]) H0 H' (ptrs k l.length) (l.map V.ref) := by
        intro l
        induction l with
        | nil => intro k xs _; exact .nil
        | cons b l ih =>
          intro k xs hx
          have e1 : ptrs k (b :: l).length = .ptr k :: ptrs (k + 1) l.length := by
            unfold ptrs
            rw [List.length_cons, List.range_succ_eq_map, List.map_cons, List.map_map]
            congr 1
            refine List.map_congr_left fun i _ => ?_
            show A.ptr (k + (i + 1)) = A.ptr (k + 1 + i)
            congr 1
            omega
          rw [e1]
          refine .cons ⟨b, ?_, rfl⟩ ?_
          · rw [List.append_assoc, List.getElem?_append_right (by omega), hx, Nat.sub_self]
            rfl
          · have := ih (k + 1) (xs ++ [some b]) (by simp [hx])
            simpa using this
      have Z := J.adopt (H' := H') (p := p) (o := .lst (ptrs ω1.length T.length)) (ho := .lst (qs.map V.ref)) (h3 p n np) e2 hp (by
        have := rp qs ω1.length ps hlen
        rw [hl.len] at this
        exact this)
      have hol : (ω1 ++ T.map oN).length = ω1.length + T.length := by simp
      rw [hol] at Z
      exact q _ _ _ _ hk ⟨_, Z⟩
end
/-! ### the def's side -/
def LiesO (ω : Om) : List Nat → List (List Int) → Prop
  | [], [] => True
  | j :: js, ns :: T => ω[j]? = some (oN ns) ∧ LiesO ω js T
  | _, _ => False
def Pts (ps : List (Option Addr)) : List Nat → List Addr → Prop
  | [], [] => True
  | j :: js, q :: qs => ps[j]? = some (some q) ∧ Pts ps js qs
  | _, _ => False
def HandN (T : List (List Int)) : Post := { nx := fun _ _ => False, rt := fun a ω => ∃ k js, a = .ptr k ∧ ω[k]? = some (.lst (js.map A.ptr)) ∧ (k :: js).Nodup ∧ LiesO ω js T }
theorem pts_of {ps : List (Option Addr)} {H0 H : Hp} : ∀ {js : List Nat} {xs : List V}, RvA ps H0 H (js.map A.ptr) xs → ∃ qs, xs = qs.map V.ref ∧ Pts ps js qs
  | [], _, h => by cases h; exact ⟨[], rfl, trivial⟩
  | j :: js, _, h => by
    cases h with
    | cons h t =>
      obtain ⟨q, h1, rfl⟩ := h
      obtain ⟨qs, rfl, h2⟩ := pts_of t
      exact ⟨q :: qs, rfl, h1, h2⟩
theorem pts_in {ps : List (Option Addr)} : ∀ {js : List Nat} {qs : List Addr}, Pts ps js qs → ∀ q ∈ qs, ∃ j ∈ js, ps[j]? = some (some q)
  | [], [], _, q, hq => by cases hq
  | j :: js, q0 :: qs, ⟨h1, h2⟩, q, hq => by
    rcases List.mem_cons.mp hq with rfl | hq
    · exact ⟨j, List.mem_cons_self, h1⟩
    · obtain ⟨j', a, b⟩ := pts_in h2 q hq
      exact ⟨j', List.mem_cons_of_mem _ a, b⟩
  | [], _ :: _, h, _, _ => h.elim
  | _ :: _, [], h, _, _ => h.elim
theorem pts_nodup {ps : List (Option Addr)} (nd : ∀ (j k : Nat) (p : Addr), ps[j]? = some (some p) → ps[k]? = some (some p) → j = k) : ∀ {js : List Nat} {qs : List Addr}, Pts ps js qs → js.Nodup → qs.Nodup
  | [], [], _, _ => List.nodup_nil
  | j :: js, q :: qs, ⟨h1, h2⟩, hn => by
    obtain ⟨a, b⟩ := List.nodup_cons.mp hn
    refine List.nodup_cons.mpr ⟨fun hq => ?_, pts_nodup nd h2 b⟩
    obtain ⟨j', hj, e⟩ := pts_in h2 q hq
    rw [nd j j' q h1 e] at a
    exact a hj
  | [], _ :: _, h, _ => h.elim
  | _ :: _, [], h, _ => h.elim
theorem lies_of {H0 H : Hp} {ps : List (Option Addr)} {σ : L2.St} {vs : List V} {δ : Sl} {ω : Om} {as : List A} (I : Inn H0 ps σ H vs δ ω as) : ∀ {js : List Nat} {qs : List Addr} {T : List (List Int)}, Pts ps js qs → LiesO ω js T → Lies H qs T
  | [], [], [], _, _ => trivial
  | j :: js, q :: qs, ns :: T, ⟨h1, h2⟩, ⟨h3, h4⟩ => by
    obtain ⟨p, xs, e1, e2, e3⟩ := I.at_ h3
    rw [h1] at e1
    cases e1
    rw [rvA_int e3] at e2
    exact ⟨e2, lies_of I h2 h4⟩
  | [], _ :: _, _, h, _ => h.elim
  | _ :: _, [], _, h, _ => h.elim
  | [], [], _ :: _, _, h => h.elim
  | _ :: _, _ :: _, [], _, h => h.elim
def HandNR {ε : Type} : Except ε (List (List Int)) → Post
  | .ok T => HandN T
  | .error _ => { nx := fun _ _ => False, rt := fun _ _ => False }
theorem cov_handN {ε : Type} {C : ε → Addr} {H : Hp} {Q : VK} {E : XK} {r : Except ε (List (List Int))} (q : match r with
    | .ok T => ∀ p qs H', Same H H' → H p = none → (∀ q ∈ qs, H q = none) → (p :: qs).Nodup → H' p = some (.lst (qs.map V.ref)) → Lies H' qs T → Q (.ref p) H'
    | .error e => ∀ H', Same H H' → E (.ref (C e)) none H') : Cov H [] [] { nx := fun _ H' => Q .non H', rt := Q } (HandNR r) := by
  cases r with
  | error e => exact ⟨fun _ _ _ _ z _ => z.elim, fun _ _ _ _ _ _ z _ => z.elim, fun _ _ _ _ z _ => z.elim, fun _ _ _ _ z _ => z.elim⟩
  | ok T =>
    refine ⟨fun _ _ _ _ z _ => z.elim, fun a δ ω v σ H' ⟨k, js, e, hk, hn, hl⟩ ⟨ps, I⟩ => ?_, fun _ _ _ _ z _ => z.elim, fun _ _ _ _ z _ => z.elim⟩
    subst e
    obtain ⟨⟨p, h1, rfl⟩, I1⟩ := I.pop
    obtain ⟨p', xs, e1, e2, e3⟩ := I.at_ hk
    rw [h1] at e1
    cases e1
    obtain ⟨qs, rfl, hp⟩ := pts_of e3
    have hall : Pts ps (k :: js) (p :: qs) := ⟨h1, hp⟩
    refine q p qs H' I.old (I.new p (List.mem_of_getElem? h1)) (fun b hb => ?_) (pts_nodup I.nd hall hn) e2 (lies_of I hp hl)
    obtain ⟨j, _, e⟩ := pts_in hp b hb
    exact I.new b (List.mem_of_getElem? e)
section
variable {P : Program} {w : World} {K : PySem.W.Frag} {mg : Str → Option Value} {base : Heap}
theorem okRN {x qual : Str} {st : Stmt} {f : Addr} {fd : FuncData} {N ps : List Str} {k : Nat} {ε : Type} {C : ε → Addr} {R : List PyData → Except ε (List (List Int)) → Prop} (F : Fun K x qual st f fd) (S : FnScope N ps (defScope st)) (hlen : ∀ ds r, R ds r → ds.length = ps.length) (n : Nat) (hn : N.length = ps.length + n) (t : XK → TS)
    (hd : ∀ (cdv : Value) (A : Around) (outer : List PySem.Env) (s : Shared) (H : Hp) (E : XK), Room k (A.deeper (PyProof.Rows.envOfC qual (defScope st) s.heap.objs.size f cdv)) → PSs (cxOf (L2.CX P w) P w K mg base N qual (defScope st) f cdv A outer s H E) (defBody st) (t E))
    (hw : ∀ (H : Hp) (E : XK) (ds : List PyData) (r : Except ε (List (List Int))), R ds r → (∀ e, r = .error e → ∀ H', Same H H' → E (.ref (C e)) none H') → SX H (t E) (entry ds n) [] (HandNR r)) : FnOk P w K mg base (L2.CX P w) (k + 1) f fd ps (PrN C R) :=
  F.okX S (fun vs H Q E ⟨ds, r, h1, h2, _⟩ => by rw [h1.len]; exact hlen ds r h2) fun cdv A outer s H vs Q E hr ⟨ds, r, h1, h2, h3⟩ =>
    ⟨t E, hd cdv A outer s H E hr, hw H E ds r h2 (fun e he => by subst he; exact h3) _ _ _ _ (sta_entry n h1 (start_eq hn (by rw [h1.len]; exact hlen ds r h2))) _ (cov_handN h3)⟩
end
end Y

/-! Lay12: a def that writes into the list of numbers it was handed last, and hands it back. -/
namespace Y
open PySem PySem.Spec L2
def hide (H : Hp) (p : Addr) : Hp := fun b => if b = p then none else H b
theorem hide_at (H : Hp) (p : Addr) : hide H p p = none := if_pos rfl
theorem hide_ne {H : Hp} {p b : Addr} (h : b ≠ p) : hide H p b = H b := if_neg h
theorem hide_sub (H : Hp) (p : Addr) : Same (hide H p) H := fun b o h => by
  by_cases hb : b = p
  · subst hb; rw [hide_at] at h; cases h
  · rw [hide_ne hb] at h; exact h
def PrM {ε : Type} (C : ε → Addr) (R : List PyData → List Int → List Int → Prop) : Sp := fun vs H Q E => ∃ us ds p ns ns', vs = us ++ [.ref p] ∧ RpA (hide H p) us ds ∧ H p = some (hN ns) ∧ R ds ns ns' ∧ ∀ H', Same (hide H p) H' → H' p = some (hN ns') → Q (.ref p) H'
def entryM (ds : List PyData) (n : Nat) : Sl := ds.map (fun d => some (ent d)) ++ some (.ptr 0) :: List.replicate n none
def HandM (ns : List Int) : Post := { nx := fun _ _ => False, rt := fun a ω => a = .ptr 0 ∧ ω[0]? = some (oN ns) }
theorem sta_entryM {H : Hp} {us : List V} {ds : List PyData} {σ : L2.St} {p : Addr} {ns : List Int} (n : Nat) (h : RpA (hide H p) us ds) (hp : H p = some (hN ns)) (hσ : σ = (us ++ [V.ref p]).map some ++ List.replicate n none) : Sta (hide H p) σ H [.ref p] (entryM ds n) [oN ns] [.ptr 0] := by
  subst hσ
  have one : ∀ (j : Nat) (q : Addr), ([some p] : List (Option Addr))[j]? = some (some q) → j = 0 ∧ q = p := by
    intro j q e
    cases j with
    | zero => exact ⟨rfl, by cases e; rfl⟩
    | succ j => simp at e
  have hl := h.len
  refine ⟨[some p], fun j k q h1 h2 => by rw [(one j q h1).1, (one k q h2).1], rfl, hide_sub H p, fun q hq => ?_, fun k o hk => ?_, by simp [entryM, hl], fun i a e => ?_, .cons ⟨p, rfl, rfl⟩ .nil⟩
  · have : q = p := by simpa using hq
    subst this
    exact hide_at H q
  · cases k with
    | zero =>
      cases hk
      exact .inr ⟨p, _, rfl, hp, rvA_nums ns⟩
    | succ k => simp at hk
  · unfold entryM at e
    by_cases hi : i < ds.length
    · rw [List.getElem?_append_left (by simpa using hi), List.getElem?_map] at e
      cases ed : ds[i]? with
      | none => rw [ed] at e; cases e
      | some d =>
        rw [ed] at e
        cases e
        obtain ⟨v, h1, h2⟩ := h.get ed
        have hil := (List.getElem?_eq_some_iff.mp h1).1
        refine ⟨v, by rw [List.map_append, List.append_assoc, List.getElem?_append_left (by rw [List.length_map]; exact hil), List.getElem?_map, h1]; rfl, ?_⟩
        unfold ent
        split
        · rename_i hn
          refine Rp.mono ?_ d v (Rp.tups d v hn h2)
          intro b o hb
          unfold tups at hb
          split at hb
          · rename_i xs eb
            cases hb
            have hbp : b ≠ p := fun z => by subst z; rw [hide_at] at eb; cases eb
            exact vis_tup (by simpa using hbp) (hide_sub H p) (hide_sub H p _ _ eb)
          · cases hb
        · exact h2
    · rw [List.getElem?_append_right (by simpa using hi), List.length_map] at e
      by_cases hi2 : i = ds.length
      · subst hi2
        rw [Nat.sub_self] at e
        cases e
        refine ⟨.ref p, ?_, p, rfl, rfl⟩
        rw [List.map_append, List.append_assoc, List.getElem?_append_right (by rw [List.length_map, hl]; exact Nat.le_refl _), List.length_map, hl, Nat.sub_self]
        rfl
      · obtain ⟨m, hm⟩ : ∃ m, i - ds.length = m + 1 := ⟨i - ds.length - 1, by omega⟩
        rw [hm, List.getElem?_cons_succ] at e
        have := List.mem_of_getElem? e
        rw [List.mem_replicate] at this
        cases this.2
theorem cov_handM {H : Hp} {Q : VK} {p : Addr} {ns : List Int} (q : ∀ H', Same (hide H p) H' → H' p = some (hN ns) → Q (.ref p) H') : Cov (hide H p) [.ref p] [.ptr 0] { nx := fun _ H' => Q .non H', rt := Q } (HandM ns) where
  nx := fun _ _ _ _ e _ => e.elim
  rt := fun a δ ω v σ H' ⟨e, hk⟩ ⟨ps, I⟩ => by
    subst e
    obtain ⟨⟨p1, h1, rfl⟩, I1⟩ := I.pop
    obtain ⟨⟨p2, h2, e2⟩, I2⟩ := I1.pop
    rw [h1] at h2
    cases h2
    cases e2
    obtain ⟨p3, xs, e1, e3, e4⟩ := I.at_ hk
    rw [h1] at e1
    cases e1
    rw [rvA_int e4] at e3
    exact q H' I.old e3
  bk := fun _ _ _ _ e _ => e.elim
  ct := fun _ _ _ _ e _ => e.elim
section
variable {P : Program} {w : World} {K : PySem.W.Frag} {mg : Str → Option Value} {base : Heap}
theorem okM {x qual : Str} {st : Stmt} {f : Addr} {fd : FuncData} {N ps : List Str} {k : Nat} {ε : Type} {C : ε → Addr} {R : List PyData → List Int → List Int → Prop} (F : Fun K x qual st f fd) (S : FnScope N ps (defScope st)) (hlen : ∀ ds ns ns', R ds ns ns' → ds.length + 1 = ps.length) (n : Nat) (hn : N.length = ps.length + n) (t : TS)
    (hd : ∀ (cdv : Value) (A : Around) (outer : List PySem.Env) (s : Shared) (H : Hp) (E : XK), Room k (A.deeper (PyProof.Rows.envOfC qual (defScope st) s.heap.objs.size f cdv)) → PSs (cxOf CX0 P w K mg base N qual (defScope st) f cdv A outer s H E).nox (defBody st) t)
    (hw : ∀ (H0 : Hp) (ds : List PyData) (ns ns' : List Int), R ds ns ns' → SX H0 t (entryM ds n) [oN ns] (HandM ns')) : FnOk P w K mg base CX0 (k + 1) f fd ps (PrM C R) :=
  F.ok S (fun vs H Q E ⟨us, ds, p, ns, ns', e, h1, _, h2, _⟩ => by rw [e, List.length_append, h1.len, List.length_singleton]; exact hlen ds ns ns' h2) fun cdv A outer s H vs Q E hr ⟨us, ds, p, ns, ns', e, h1, hp, h2, h3⟩ =>
    ⟨t, hd cdv A outer s H E hr, hw (hide H p) ds ns ns' h2 _ _ _ _ (sta_entryM n h1 hp (by rw [← e]; exact start_eq hn (by rw [e, List.length_append, h1.len, List.length_singleton]; exact hlen ds ns ns' h2))) _ (cov_handM h3)⟩
end
section
variable {K : PySem.W.Frag} {H0 : Hp} {δ : Sl} {ω : Om}
theorem rpA_hide {ps : List (Option Addr)} {σ : L2.St} {H : Hp} {vs : List V} {δ : Sl} {ω : Om} {as : List A} (I : Inn H0 ps σ H vs δ ω as) {p : Addr} (hp : some p ∈ ps) : ∀ {cs : List A} {us : List V} {ds : List PyData}, RdA [] cs ds → RvA ps H0 H cs us → RpA (hide H p) us ds
  | [], _, _, h, r => by cases h; cases r; exact .nil
  | c :: cs, _, _, h, r => by
    cases h with
    | cons hc ht =>
      cases r with
      | cons rc rt =>
        refine .cons ?_ (rpA_hide I hp ht rt)
        cases hc with
        | dat d =>
          refine Rp.mono ?_ _ _ rc
          intro b o hb
          have hbp : b ≠ p := fun z => by subst z; rw [vis_ps hp] at hb; cases hb
          rw [hide_ne hbp]
          exact vis_sub I.old _ _ hb
        | arg d =>
          refine Rp.mono ?_ _ _ rc
          intro b o hb
          have hbp : b ≠ p := fun z => by subst z; rw [I.new b hp] at hb; cases hb
          rw [hide_ne hbp]
          exact I.old _ _ hb
        | ptr h0 _ => simp at h0
theorem eg_callM {ε : Type} {C : ε → Addr} {R : List PyData → List Int → List Int → Prop} {E : XK} {ts : TA} {P : A → Om → Prop} (h : EA H0 ts δ ω fun bs ω1 => ∃ cs k ds ns ns', bs = cs ++ [.ptr k] ∧ RdA [] cs ds ∧ ω1[k]? = some (oN ns) ∧ R ds ns ns' ∧ P (.ptr k) (ω1.set k (oN ns'))) : EG H0 (tCall (PrM C R) [] E ts) δ ω P := fun σ H vs as S Q q =>
  h σ H vs as S _ fun bs ω1 us H1 ⟨cs, k, ds, ns, ns', eb, hd, hk, hr, hp⟩ hl S1 => by
    rw [List.append_nil]
    subst eb
    obtain ⟨ps, I⟩ := S1
    obtain ⟨q1, q2⟩ := RvA.split hl I.stk
    have I2 : Inn H0 ps σ H1 vs δ ω1 as := { I with stk := q2 }
    have hul : us.length = cs.length + 1 := by rw [hl]; simp
    have e1 : us = us.take cs.length ++ us.drop cs.length := (List.take_append_drop _ _).symm
    rw [e1] at q1
    obtain ⟨r1, r2⟩ := RvA.split (by rw [List.length_take]; omega) q1
    have hdl : (us.drop cs.length).length = 1 := by rw [List.length_drop]; omega
    match hdv : us.drop cs.length, hdl with
    | [v], _ =>
      rw [hdv] at r2
      cases r2 with
      | cons rv _ =>
        obtain ⟨p, hpk, rfl⟩ := rv
        have hpm : some p ∈ ps := List.mem_of_getElem? hpk
        obtain ⟨p', xs, h3, h4, h5⟩ := I2.at_ hk
        rw [hpk] at h3
        cases h3
        rw [rvA_int h5] at h4
        refine ⟨us.take cs.length, ds, p, ns, ns', by rw [← hdv]; exact e1, rpA_hide I2 hpm hd r1, h4, hr, fun H' e hp' => ?_⟩
        have J := I2.change hpk (List.getElem?_eq_some_iff.mp hk).1 (o := oN ns') (ho := hN ns') (rvA_nums ns') (fun _ z => by cases z)
        have eH : Same (upd H1 p (hN ns')) H' := fun b o hb => by
          by_cases hbp : b = p
          · subst hbp
            rw [upd_same] at hb
            cases hb
            exact hp'
          · rw [upd_ne hbp] at hb
            exact e b o (by rw [hide_ne hbp]; exact hb)
        exact q _ _ _ _ hp ⟨ps, (J.grow eH).push ⟨p, hpk, rfl⟩⟩
end
end Y

namespace Y
open PySem PySem.Spec L2
/- need_row(row): slots 0 row -/
def t_need_row (K : PySem.W.Frag) (E : XK) (a_C_NoRow : Addr) : TS :=
  (tSeq (tIfS (tOr (tTest (tOp (rEqD K) (tCB (rLenU K) (tCons (tVar 0) tNil)) (tC (.int 0)))) (tB (tPartsNot (tOp (rIx K) (tVar 0) (tC (.int 0)))))) (fun _ _ H => E (.ref a_C_NoRow) none H) tNext) (tIfS (tTest (tOp (rNeD K) (tCB (rLenU K) (tCons (tVar 0) tNil)) (tPartsIx (tOp (rIx K) (tVar 0) (tC (.int 0)))))) (fun _ _ H => E (.ref a_C_NoRow) none H) tNext))
/- need_hand(hands, hand): slots 0 hands 1 hand -/
def t_need_hand (K : PySem.W.Frag) (E : XK) (a_C_NoHand : Addr) : TS :=
  (tIfS (tOr (tTest (tOp rLt (tVar 1) (tC (.int 0)))) (tTest (tOp rGe (tVar 1) (tVar 0)))) (fun _ _ H => E (.ref a_C_NoHand) none H) tNext)
/- need_letter(found, hand, letter): slots 0 found 1 hand 2 letter -/
def t_need_letter (K : PySem.W.Frag) (E : XK) (a_C_NoLetter : Addr) (a_C_GotTwice : Addr) : TS :=
  (tSeq (tIfS (tOr (tTest (tOp rLt (tVar 2) (tC (.int 0)))) (tTest (tOp rGe (tVar 2) (tCB (rLenU K) (tCons (tVar 0) tNil))))) (fun _ _ H => E (.ref a_C_NoLetter) none H) tNext) (tSeq (tIfS (tTest (tOp (rNeD K) (tOp (rIx K) (tOp (rIx K) (tVar 0) (tVar 2)) (tC (.int 1))) (tVar 1))) (fun _ _ H => E (.ref a_C_NoLetter) none H) tNext) (tIfS (tB (tNotN (tOp (rIx K) (tOp (rIx K) (tVar 0) (tVar 2)) (tC (.int 3))))) (fun _ _ H => E (.ref a_C_GotTwice) none H) tNext)))
/- letters(hands, rows): slots 0 hands 1 rows 2 found 3 place 4 row -/
def t_letters (K : PySem.W.Frag) (E : XK) (s_need_row : Sp) (s_need_hand : Sp) (s_need_letter : Sp) (a_C_NoHands : Addr) (a_C_TooMany : Addr) : TS :=
  (tSeq (tIfS (tOr (tTest (tOp rLt (tVar 0) (tC (.int 1)))) (tTest (tOp rGt (tVar 0) (tC (.int 40))))) (fun _ _ H => E (.ref a_C_NoHands) none H) tNext) (tSeq (tIfS (tTest (tOp rGt (tCB (rLenU K) (tCons (tVar 1) tNil)) (tC (.int 1000)))) (fun _ _ H => E (.ref a_C_TooMany) none H) tNext) (tSeq (tAsg (tLst tNil) (gName 2)) (tSeq (tFor (iEnum K (tCons (tVar 1) tNil)) (gTup K 2 (gCons (gName 3) (gCons (gName 4) gNil))) (tSeq (tDrop (tCall s_need_row [] E (tCons (tVar 4) tNil))) (tSeq (tDrop (tCall s_need_hand [] E (tCons (tVar 0) (tCons (tOp (rIx K) (tVar 4) (tC (.int 1))) tNil)))) (tSeq (tIfS (tTest (tOp (rEqD K) (tOp (rIx K) (tVar 4) (tC (.int 0))) (tC (.str (PySem.Str.ofString "send"))))) (tSeq (tDrop (tCall s_need_hand [] E (tCons (tVar 0) (tCons (tOp (rIx K) (tVar 4) (tC (.int 2))) tNil)))) (tDrop (tBM K "list" rAppend (tVar 2) (tCons (tTup (tCons (tOp (rIx K) (tVar 4) (tC (.int 1))) (tCons (tOp (rIx K) (tVar 4) (tC (.int 2))) (tCons (tVar 3) (tCons (tC .non) tNil))))) tNil)))) tNext) (tIfS (tTest (tOp (rEqD K) (tOp (rIx K) (tVar 4) (tC (.int 0))) (tC (.str (PySem.Str.ofString "got"))))) (tSeq (tDrop (tCall s_need_letter [] E (tCons (tVar 2) (tCons (tOp (rIx K) (tVar 4) (tC (.int 1))) (tCons (tOp (rIx K) (tVar 4) (tC (.int 2))) tNil))))) (tAsg (tOp (rAddU K) (tSl (rSlU K) (tOp (rIx K) (tVar 2) (tOp (rIx K) (tVar 4) (tC (.int 2)))) tNoPart (tPart (tC (.int 3)))) (tTup (tCons (tVar 3) tNil))) (gSub (tVar 2) (tOp (rIx K) (tVar 4) (tC (.int 2))) rSetL))) tNext))))) (tRet (tVar 2))))))
/- _law_cell_at(_law_script, _law_k): slots 0 _law_script 1 _law_k -/
def t_l_cell_at (K : PySem.W.Frag) : TS :=
  (tSeq (tIfS (tTest (tOp rLt (tVar 1) (tCB (rLenU K) (tCons (tVar 0) tNil)))) (tRet (tOp (rIx K) (tVar 0) (tVar 1))) tNext) (tRet (tC (.int 0))))
/- _law_hands_by(_law_cell): slots 0 _law_cell -/
def t_l_hands_by (K : PySem.W.Frag) : TS :=
  (tSeq (tIfS (tTest (tOp (rEqD K) (tOp rModU (tOp rFdivU (tVar 0) (tC (.int 5))) (tC (.int 8))) (tC (.int 1)))) (tRet (tOp (rAddU K) (tC (.int 1)) (tOp rModU (tOp rFdivU (tVar 0) (tC (.int 40))) (tC (.int 40))))) tNext) (tRet (tOp (rAddU K) (tC (.int 1)) (tOp rModU (tVar 0) (tC (.int 5))))))
/- _law_cells_by(_law_script, _law_first): slots 0 _law_script 1 _law_first 2 _law_size 3 _law_many 4 _law_k -/
def t_l_cells_by (K : PySem.W.Frag) (s__law_cell_at : Sp) : TS :=
  (tSeq (tAsg (tCall s__law_cell_at [] E0 (tCons (tVar 0) (tCons (tC (.int 1)) tNil))) (gName 2)) (tSeq (tIfS (tTest (tOp (rEqD K) (tOp rModU (tVar 2) (tC (.int 4))) (tC (.int 1)))) (tSeq (tAsg (tOp (rAddU K) (tOp rModU (tOp rFdivU (tVar 2) (tC (.int 4))) (tC (.int 61))) (tOp rMulU (tC (.int 100)) (tOp rFdivU (tOp rModU (tOp rFdivU (tVar 2) (tC (.int 244))) (tC (.int 8))) (tC (.int 7))))) (gName 3)) (tRet (tLc (iRng1 (tCons (tVar 3) tNil)) (gName 4) tYes (tOp rModU (tOp rMulU (tOp (rAddU K) (tOp rFdivU (tVar 2) (tC (.int 4))) (tOp rMulU (tC (.int 104729)) (tVar 4))) (tC (.int 48271))) (tC (.int 2147483647))) [4]))) tNext) (tRet (tSl (rSlU K) (tVar 0) (tPart (tVar 1)) (tPart (tOp (rAddU K) (tVar 1) (tC (.int 960))))))))
/- _law_rows_by(_law_cells, _law_hands): slots 0 _law_cells 1 _law_hands 2 _law_rows 3 _law_sent 4 _law_waits 5 _law_cell 6 _law_kind 7 _law_more 8 _law_letter 9 _law_one -/
def t_l_rows_by (K : PySem.W.Frag) : TS :=
  (tSeq (tAsg (tLst tNil) (gName 2)) (tSeq (tAsg (tLst tNil) (gName 3)) (tSeq (tAsg (tLst tNil) (gName 4)) (tSeq (tFor (iList K (tVar 0)) (gName 5) (tSeq (tAsg (tOp rModU (tVar 5) (tC (.int 8))) (gName 6)) (tSeq (tAsg (tOp rFdivU (tVar 5) (tC (.int 8))) (gName 7)) (tIfS (tTest (tOp rGt (tVar 6) (tC (.int 5)))) (tDrop (tBM K "list" rAppend (tVar 2) (tCons (tTup (tCons (tC (.str (PySem.Str.ofString "note"))) (tCons (tOp rModU (tVar 7) (tVar 1)) tNil))) tNil))) (tIfS (tAnd (tTest (tOp rGt (tVar 6) (tC (.int 2)))) (tTest (tOp (rNeD K) (tVar 4) (tLst tNil)))) (tSeq (tAsg (tOp (rIx K) (tVar 4) (tOp rModU (tVar 7) (tCB (rLenU K) (tCons (tVar 4) tNil)))) (gName 8)) (tSeq (tAsg (tLc (iList K (tVar 4)) (gName 9) (tTest (tOp (rNeD K) (tVar 9) (tVar 8))) (tVar 9) [9]) (gName 4)) (tDrop (tBM K "list" rAppend (tVar 2) (tCons (tTup (tCons (tC (.str (PySem.Str.ofString "got"))) (tCons (tOp (rIx K) (tVar 3) (tVar 8)) (tCons (tVar 8) tNil)))) tNil))))) (tSeq (tDrop (tBM K "list" rAppend (tVar 2) (tCons (tTup (tCons (tC (.str (PySem.Str.ofString "send"))) (tCons (tOp rModU (tVar 7) (tVar 1)) (tCons (tOp rModU (tOp rFdivU (tVar 7) (tVar 1)) (tVar 1)) tNil)))) tNil))) (tSeq (tDrop (tBM K "list" rAppend (tVar 4) (tCons (tCB (rLenU K) (tCons (tVar 3) tNil)) tNil))) (tDrop (tBM K "list" rAppend (tVar 3) (tCons (tOp rModU (tOp rFdivU (tVar 7) (tVar 1)) (tVar 1)) tNil)))))))))) (tRet (tVar 2))))))
/- _law_whole(_law_found): slots 0 _law_found -/
def t_l_whole (K : PySem.W.Frag) : TS :=
  (tRet (tAndV (tCB (rIsi K) (tCons (tVar 0) (tCons (tC (.ty "int")) tNil))) (tNotV (tCB (rIsi K) (tCons (tVar 0) (tCons (tC (.ty "bool")) tNil))))))
/- _law_letters_by(_law_rows): slots 0 _law_rows 1 _law_found 2 _law_place -/
def t_l_letters_by (K : PySem.W.Frag) : TS :=
  (tSeq (tAsg (tLst tNil) (gName 1)) (tSeq (tFor (iRng1 (tCons (tCB (rLenU K) (tCons (tVar 0) tNil)) tNil)) (gName 2) (tSeq (tIfS (tTest (tOp (rEqD K) (tOp (rIx K) (tOp (rIx K) (tVar 0) (tVar 2)) (tC (.int 0))) (tC (.str (PySem.Str.ofString "send"))))) (tDrop (tBM K "list" rAppend (tVar 1) (tCons (tLst (tCons (tOp (rIx K) (tOp (rIx K) (tVar 0) (tVar 2)) (tC (.int 1))) (tCons (tOp (rIx K) (tOp (rIx K) (tVar 0) (tVar 2)) (tC (.int 2))) (tCons (tVar 2) (tCons (tC .non) tNil))))) tNil))) tNext) (tIfS (tTest (tOp (rEqD K) (tOp (rIx K) (tOp (rIx K) (tVar 0) (tVar 2)) (tC (.int 0))) (tC (.str (PySem.Str.ofString "got"))))) (tAsg (tVar 2) (gSub (tOp (rIx K) (tVar 1) (tOp (rIx K) (tOp (rIx K) (tVar 0) (tVar 2)) (tC (.int 2)))) (tC (.int 3)) rSetL)) tNext))) (tRet (tVar 1))))
/- ends(hands, rows): slots 0 hands 1 rows 2 found 3 place 4 row 5 hand 6 own -/
def t_ends (K : PySem.W.Frag) (E : XK) (s_letters : Sp) : TS :=
  (tSeq (tDrop (tCall s_letters [] E (tCons (tVar 0) (tCons (tVar 1) tNil)))) (tSeq (tAsg (tLc (iRng1 (tCons (tVar 0) tNil)) (gName 5) tYes (tLst (tCons (tC (.int 0)) tNil)) [5]) (gName 2)) (tSeq (tFor (iEnum K (tCons (tVar 1) tNil)) (gTup K 2 (gCons (gName 3) (gCons (gName 4) gNil))) (tIfS (tTest (tOp (rEqD K) (tOp (rIx K) (tVar 4) (tC (.int 0))) (tC (.str (PySem.Str.ofString "note"))))) (tDrop (tBM K "list" rAppend (tOp (rIx K) (tVar 2) (tOp (rIx K) (tVar 4) (tC (.int 1)))) (tCons (tOp (rAddU K) (tVar 3) (tC (.int 1))) tNil))) tNext)) (tRet (tLc (iList K (tVar 2)) (gName 6) tYes (tOp (rAddU K) (tVar 6) (tLst (tCons (tCB (rLenU K) (tCons (tVar 1) tNil)) tNil))) [6])))))
/- _law_wholes(_law_found, _law_due): slots 0 _law_found 1 _law_due 2 _law_k -/
def t_l_wholes (K : PySem.W.Frag) (s__law_whole : Sp) : TS :=
  (tSeq (tIfS (tOr (tNot (tB (tCB (rIsi K) (tCons (tVar 0) (tCons (tC (.ty "list")) tNil))))) (tTest (tOp (rNeD K) (tCB (rLenU K) (tCons (tVar 0) tNil)) (tCB (rLenU K) (tCons (tVar 1) tNil))))) (tRet (tC (.bl false))) tNext) (tSeq (tFor (iRng1 (tCons (tCB (rLenU K) (tCons (tVar 1) tNil)) tNil)) (gName 2) (tIfS (tOr (tNot (tB (tCall s__law_whole [] E0 (tCons (tOp (rIx K) (tVar 0) (tVar 2)) tNil)))) (tTest (tOp (rNeD K) (tOp (rIx K) (tVar 0) (tVar 2)) (tOp (rIx K) (tVar 1) (tVar 2))))) (tRet (tC (.bl false))) tNext)) (tRet (tC (.bl true)))))
/- need_line(told, line): slots 0 told 1 line 2 hand 3 number -/
def t_need_line (K : PySem.W.Frag) (E : XK) (a_C_NoLine : Addr) : TS :=
  (tSeq (tIfS (tTest (tOp (rNeD K) (tCB (rLenU K) (tCons (tVar 1) tNil)) (tCB (rLenU K) (tCons (tVar 0) tNil)))) (fun _ _ H => E (.ref a_C_NoLine) none H) tNext) (tFor (iEnum K (tCons (tVar 1) tNil)) (gTup K 2 (gCons (gName 2) (gCons (gName 3) gNil))) (tIfS (tOr (tTest (tOp rLt (tVar 3) (tC (.int 0)))) (tTest (tOp rGe (tVar 3) (tCB (rLenU K) (tCons (tOp (rIx K) (tVar 0) (tVar 2)) tNil))))) (fun _ _ H => E (.ref a_C_NoLine) none H) tNext)))
/- ends_of(told, line): slots 0 told 1 line 2 hand 3 number -/
def t_ends_of (K : PySem.W.Frag) : TS :=
  (tRet (tLc (iEnum K (tCons (tVar 1) tNil)) (gTup K 2 (gCons (gName 2) (gCons (gName 3) gNil))) tYes (tOp (rIx K) (tOp (rIx K) (tVar 0) (tVar 2)) (tVar 3)) [2, 3]))
/- is_stray(letter, kept): slots 0 letter 1 kept -/
def t_is_stray (K : PySem.W.Frag) : TS :=
  (tSeq (tIfS (tB (tIsN (tOp (rIx K) (tVar 0) (tC (.int 3))))) (tRet (tC (.bl false))) tNext) (tRet (tAndV (tOp rLt (tOp (rIx K) (tVar 0) (tC (.int 3))) (tOp (rIx K) (tVar 1) (tOp (rIx K) (tVar 0) (tC (.int 1))))) (tOp rGe (tOp (rIx K) (tVar 0) (tC (.int 2))) (tOp (rIx K) (tVar 1) (tOp (rIx K) (tVar 0) (tC (.int 0))))))))
/- is_under_way(letter, kept): slots 0 letter 1 kept -/
def t_is_under_way (K : PySem.W.Frag) : TS :=
  (tSeq (tIfS (tTest (tOp rGe (tOp (rIx K) (tVar 0) (tC (.int 2))) (tOp (rIx K) (tVar 1) (tOp (rIx K) (tVar 0) (tC (.int 0)))))) (tRet (tC (.bl false))) tNext) (tRet (tOrV (tIsN (tOp (rIx K) (tVar 0) (tC (.int 3)))) (tOp rGe (tOp (rIx K) (tVar 0) (tC (.int 3))) (tOp (rIx K) (tVar 1) (tOp (rIx K) (tVar 0) (tC (.int 1))))))))
/- strays_by(found, kept): slots 0 found 1 kept 2 number 3 letter -/
def t_strays_by (K : PySem.W.Frag) (s_is_stray : Sp) : TS :=
  (tRet (tLc (iEnum K (tCons (tVar 0) tNil)) (gTup K 2 (gCons (gName 2) (gCons (gName 3) gNil))) (tB (tCall s_is_stray [] E0 (tCons (tVar 3) (tCons (tVar 1) tNil)))) (tVar 2) [2, 3]))
/- kept_by(hands, rows, line): slots 0 hands 1 rows 2 line 3 told -/
def t_kept_by (K : PySem.W.Frag) (E : XK) (s_ends : Sp) (s_need_line : Sp) (s_ends_of : Sp) : TS :=
  (tSeq (tAsg (tCall s_ends [] E (tCons (tVar 0) (tCons (tVar 1) tNil))) (gName 3)) (tSeq (tDrop (tCall s_need_line [] E (tCons (tVar 3) (tCons (tVar 2) tNil)))) (tRet (tCall s_ends_of [] E0 (tCons (tVar 3) (tCons (tVar 2) tNil))))))
/- strays(hands, rows, line): slots 0 hands 1 rows 2 line -/
def t_strays (K : PySem.W.Frag) (E : XK) (s_kept_by : Sp) (s_letters : Sp) (s_strays_by : Sp) : TS :=
  (tRet (tCall s_strays_by [] E0 (tCons (tCall s_letters [] E (tCons (tVar 0) (tCons (tVar 1) tNil))) (tCons (tCall s_kept_by [] E (tCons (tVar 0) (tCons (tVar 1) (tCons (tVar 2) tNil)))) tNil))))
/- under_way(hands, rows, line): slots 0 hands 1 rows 2 line 3 kept 4 number 5 letter -/
def t_under_way (K : PySem.W.Frag) (E : XK) (s_kept_by : Sp) (s_letters : Sp) (s_is_under_way : Sp) : TS :=
  (tSeq (tAsg (tCall s_kept_by [] E (tCons (tVar 0) (tCons (tVar 1) (tCons (tVar 2) tNil)))) (gName 3)) (tRet (tLc (iEnum K (tCons (tCall s_letters [] E (tCons (tVar 0) (tCons (tVar 1) tNil))) tNil)) (gTup K 2 (gCons (gName 4) (gCons (gName 5) gNil))) (tB (tCall s_is_under_way [] E0 (tCons (tVar 5) (tCons (tVar 3) tNil)))) (tVar 4) [4, 5])))
/- is_sound(hands, rows, line): slots 0 hands 1 rows 2 line -/
def t_is_sound (K : PySem.W.Frag) (E : XK) (s_strays : Sp) : TS :=
  (tRet (tOp (rEqD K) (tCall s_strays [] E (tCons (tVar 0) (tCons (tVar 1) (tCons (tVar 2) tNil)))) (tLst tNil)))
/- _law_ends_by(_law_rows, _law_hands): slots 0 _law_rows 1 _law_hands 2 _law_found 3 _law_place 4 _law_hand 5 _law_own -/
def t_l_ends_by (K : PySem.W.Frag) : TS :=
  (tSeq (tAsg (tLc (iRng1 (tCons (tVar 1) tNil)) (gName 4) tYes (tLst (tCons (tC (.int 0)) tNil)) [4]) (gName 2)) (tSeq (tFor (iRng1 (tCons (tCB (rLenU K) (tCons (tVar 0) tNil)) tNil)) (gName 3) (tIfS (tTest (tOp (rEqD K) (tOp (rIx K) (tOp (rIx K) (tVar 0) (tVar 3)) (tC (.int 0))) (tC (.str (PySem.Str.ofString "note"))))) (tDrop (tBM K "list" rAppend (tOp (rIx K) (tVar 2) (tOp (rIx K) (tOp (rIx K) (tVar 0) (tVar 3)) (tC (.int 1)))) (tCons (tOp (rAddU K) (tVar 3) (tC (.int 1))) tNil))) tNext)) (tRet (tLc (iList K (tVar 2)) (gName 5) tYes (tOp (rAddU K) (tVar 5) (tLst (tCons (tCB (rLenU K) (tCons (tVar 0) tNil)) tNil))) [5]))))
/- _law_line_by(_law_cell, _law_told): slots 0 _law_cell 1 _law_told 2 _law_hand -/
def t_l_line_by (K : PySem.W.Frag) : TS :=
  (tRet (tLc (iRng1 (tCons (tCB (rLenU K) (tCons (tVar 1) tNil)) tNil)) (gName 2) tYes (tOp rModU (tOp rModU (tOp rMulU (tOp (rAddU K) (tVar 0) (tOp rMulU (tC (.int 7919)) (tVar 2))) (tC (.int 48271))) (tC (.int 2147483647))) (tCB (rLenU K) (tCons (tOp (rIx K) (tVar 1) (tVar 2)) tNil))) [2]))
/- new_numbers(found, kept): slots 0 found 1 kept 2 fresh 3 number 4 letter -/
def t_new_numbers (K : PySem.W.Frag) : TS :=
  (tSeq (tAsg tDNewK (gName 2)) (tSeq (tFor (iEnum K (tCons (tVar 0) tNil)) (gTup K 2 (gCons (gName 3) (gCons (gName 4) gNil))) (tIfS (tTest (tOp rLt (tOp (rIx K) (tVar 4) (tC (.int 2))) (tOp (rIx K) (tVar 1) (tOp (rIx K) (tVar 4) (tC (.int 0)))))) (sDPut (tVar 2) (tVar 3) (tCB (rLenU K) (tCons (tVar 2) tNil))) tNext)) (tRet (tVar 2))))
/- sound_ends(hands, rows, line): slots 0 hands 1 rows 2 line 3 kept -/
def t_sound_ends (K : PySem.W.Frag) (E : XK) (s_kept_by : Sp) (s_letters : Sp) (s_strays_by : Sp) (a_C_Unsound : Addr) : TS :=
  (tSeq (tAsg (tCall s_kept_by [] E (tCons (tVar 0) (tCons (tVar 1) (tCons (tVar 2) tNil)))) (gName 3)) (tSeq (tIfS (tTest (tOp (rNeD K) (tCall s_strays_by [] E0 (tCons (tCall s_letters [] E (tCons (tVar 0) (tCons (tVar 1) tNil))) (tCons (tVar 3) tNil))) (tLst tNil))) (fun _ _ H => E (.ref a_C_Unsound) none H) tNext) (tRet (tVar 3))))
/- left(hands, rows, line): slots 0 hands 1 rows 2 line 3 kept 4 fresh 5 found 6 place 7 row -/
def t_left (K : PySem.W.Frag) (E : XK) (s_sound_ends : Sp) (s_letters : Sp) (s_new_numbers : Sp) : TS :=
  (tSeq (tAsg (tCall s_sound_ends [] E (tCons (tVar 0) (tCons (tVar 1) (tCons (tVar 2) tNil)))) (gName 3)) (tSeq (tAsg (tCall s_new_numbers [] E0 (tCons (tCall s_letters [] E (tCons (tVar 0) (tCons (tVar 1) tNil))) (tCons (tVar 3) tNil))) (gName 4)) (tSeq (tAsg (tLst tNil) (gName 5)) (tSeq (tFor (iEnum K (tCons (tVar 1) tNil)) (gTup K 2 (gCons (gName 6) (gCons (gName 7) gNil))) (tIfS (tTest (tOp rLt (tVar 6) (tOp (rIx K) (tVar 3) (tOp (rIx K) (tVar 7) (tC (.int 1)))))) (tSeq (tIfS (tTest (tOp (rEqD K) (tOp (rIx K) (tVar 7) (tC (.int 0))) (tC (.str (PySem.Str.ofString "got"))))) (tAsg (tTup (tCons (tC (.str (PySem.Str.ofString "got"))) (tCons (tOp (rIx K) (tVar 7) (tC (.int 1))) (tCons (tDGet (tVar 4) (tOp (rIx K) (tVar 7) (tC (.int 2)))) tNil)))) (gName 7)) tNext) (tDrop (tBM K "list" rAppend (tVar 5) (tCons (tVar 7) tNil)))) tNext)) (tRet (tVar 5))))))
/- again(hands, rows, line): slots 0 hands 1 rows 2 line 3 kept 4 found 5 fresh 6 number -/
def t_again (K : PySem.W.Frag) (E : XK) (s_sound_ends : Sp) (s_letters : Sp) (s_new_numbers : Sp) (s_is_under_way : Sp) : TS :=
  (tSeq (tAsg (tCall s_sound_ends [] E (tCons (tVar 0) (tCons (tVar 1) (tCons (tVar 2) tNil)))) (gName 3)) (tSeq (tAsg (tCall s_letters [] E (tCons (tVar 0) (tCons (tVar 1) tNil))) (gName 4)) (tSeq (tAsg (tCall s_new_numbers [] E0 (tCons (tVar 4) (tCons (tVar 3) tNil))) (gName 5)) (tRet (tLc (iList K (tCB (rListU K) (tCons (tVar 5) tNil))) (gName 6) (tB (tCall s_is_under_way [] E0 (tCons (tOp (rIx K) (tVar 4) (tVar 6)) (tCons (tVar 3) tNil)))) (tDGet (tVar 5) (tVar 6)) [6])))))
/- lost(hands, rows, line): slots 0 hands 1 rows 2 line 3 kept 4 found 5 place 6 row 7 hand -/
def t_lost (K : PySem.W.Frag) (E : XK) (s_kept_by : Sp) : TS :=
  (tSeq (tAsg (tCall s_kept_by [] E (tCons (tVar 0) (tCons (tVar 1) (tCons (tVar 2) tNil)))) (gName 3)) (tSeq (tAsg (tLc (iRng1 (tCons (tVar 0) tNil)) (gName 7) tYes (tC (.int 0)) [7]) (gName 4)) (tSeq (tFor (iEnum K (tCons (tVar 1) tNil)) (gTup K 2 (gCons (gName 5) (gCons (gName 6) gNil))) (tIfS (tTest (tOp rGe (tVar 5) (tOp (rIx K) (tVar 3) (tOp (rIx K) (tVar 6) (tC (.int 1)))))) (tAsg (tOp (rAddU K) (tOp (rIx K) (tVar 4) (tOp (rIx K) (tVar 6) (tC (.int 1)))) (tC (.int 1))) (gSub (tVar 4) (tOp (rIx K) (tVar 6) (tC (.int 1))) rSetL)) tNext)) (tRet (tVar 4)))))
/- _law_has_stray(_law_rows, _law_told, _law_line): slots 0 _law_rows 1 _law_told 2 _law_line 3 _law_sent 4 _law_place 5 _law_is_kept -/
def t_l_has_stray (K : PySem.W.Frag) : TS :=
  (tSeq (tAsg (tLst tNil) (gName 3)) (tSeq (tFor (iRng1 (tCons (tCB (rLenU K) (tCons (tVar 0) tNil)) tNil)) (gName 4) (tSeq (tAsg (tOp rLt (tVar 4) (tOp (rIx K) (tOp (rIx K) (tVar 1) (tOp (rIx K) (tOp (rIx K) (tVar 0) (tVar 4)) (tC (.int 1)))) (tOp (rIx K) (tVar 2) (tOp (rIx K) (tOp (rIx K) (tVar 0) (tVar 4)) (tC (.int 1)))))) (gName 5)) (tSeq (tIfS (tTest (tOp (rEqD K) (tOp (rIx K) (tOp (rIx K) (tVar 0) (tVar 4)) (tC (.int 0))) (tC (.str (PySem.Str.ofString "send"))))) (tDrop (tBM K "list" rAppend (tVar 3) (tCons (tVar 5) tNil))) tNext) (tIfS (tAnd (tTest (tOp (rEqD K) (tOp (rIx K) (tOp (rIx K) (tVar 0) (tVar 4)) (tC (.int 0))) (tC (.str (PySem.Str.ofString "got"))))) (tAnd (tB (tVar 5)) (tNot (tB (tOp (rIx K) (tVar 3) (tOp (rIx K) (tOp (rIx K) (tVar 0) (tVar 4)) (tC (.int 2)))))))) (tRet (tC (.bl true))) tNext)))) (tRet (tC (.bl false)))))
/- number_ahead(own, place): slots 0 own 1 place 2 found 3 number 4 end -/
def t_number_ahead (K : PySem.W.Frag) : TS :=
  (tSeq (tAsg (tC (.int 0)) (gName 2)) (tSeq (tFor (iEnum K (tCons (tVar 0) tNil)) (gTup K 2 (gCons (gName 3) (gCons (gName 4) gNil))) (tIfS (tTest (tOp rLe (tVar 4) (tVar 1))) (tAsg (tVar 3) (gName 2)) tNext)) (tRet (tVar 2))))
/- fall(found, told, line): slots 0 found 1 told 2 line 3 taken 4 wrong 5 letter 6 hand -/
def t_fall (K : PySem.W.Frag) (s_ends_of : Sp) (s_strays_by : Sp) (s_number_ahead : Sp) : TS :=
  (tSeq (tAsg (tCB (rListU K) (tCons (tVar 2) tNil)) (gName 2)) (tSeq (tAsg (tLst tNil) (gName 3)) (tSeq (tAsg (tCall s_strays_by [] E0 (tCons (tVar 0) (tCons (tCall s_ends_of [] E0 (tCons (tVar 1) (tCons (tVar 2) tNil))) tNil))) (gName 4)) (tSeq (tWhile (tTest (tOp (rNeD K) (tVar 4) (tLst tNil))) (tSeq (tAsg (tOp (rIx K) (tVar 4) (tC (.int 0))) (gName 5)) (tSeq (tAsg (tOp (rIx K) (tOp (rIx K) (tVar 0) (tVar 5)) (tC (.int 1))) (gName 6)) (tSeq (tAsg (tCall s_number_ahead [] E0 (tCons (tOp (rIx K) (tVar 1) (tVar 6)) (tCons (tOp (rIx K) (tOp (rIx K) (tVar 0) (tVar 5)) (tC (.int 3))) tNil))) (gSub (tVar 2) (tVar 6) rSetL)) (tSeq (tDrop (tBM K "list" rAppend (tVar 3) (tCons (tTup (tCons (tVar 5) (tCons (tVar 6) (tCons (tOp (rIx K) (tVar 2) (tVar 6)) tNil)))) tNil))) (tAsg (tCall s_strays_by [] E0 (tCons (tVar 0) (tCons (tCall s_ends_of [] E0 (tCons (tVar 1) (tCons (tVar 2) tNil))) tNil))) (gName 4))))))) (tRet (tTup (tCons (tVar 3) (tCons (tVar 2) tNil))))))))
/- now(told): slots 0 told 1 own -/
def t_now (K : PySem.W.Frag) : TS :=
  (tRet (tLc (iList K (tVar 0)) (gName 1) tYes (tOp rSub (tCB (rLenU K) (tCons (tVar 1) tNil)) (tC (.int 1))) [1]))
/- top_line(hands, rows, fallen): slots 0 hands 1 rows 2 fallen 3 line 4 hand -/
def t_top_line (K : PySem.W.Frag) (E : XK) (s_ends : Sp) (s_now : Sp) (s_need_hand : Sp) : TS :=
  (tSeq (tAsg (tCall s_now [] E0 (tCons (tCall s_ends [] E (tCons (tVar 0) (tCons (tVar 1) tNil))) tNil)) (gName 3)) (tSeq (tFor (iList K (tVar 2)) (gName 4) (tDrop (tCall s_need_hand [] E (tCons (tVar 0) (tCons (tVar 4) tNil))))) (tRet (tLc (iRng1 (tCons (tVar 0) tNil)) (gName 4) tYes (tOp rSub (tOp (rIx K) (tVar 3) (tVar 4)) (tCB rInt1 (tCons (tOp (rInU K) (tVar 4) (tVar 2)) tNil))) [4]))))
/- steps(hands, rows, fallen): slots 0 hands 1 rows 2 fallen 3 line -/
def t_steps (K : PySem.W.Frag) (E : XK) (s_top_line : Sp) (s_ends : Sp) (s_letters : Sp) (s_fall : Sp) : TS :=
  (tSeq (tAsg (tCall s_top_line [] E (tCons (tVar 0) (tCons (tVar 1) (tCons (tVar 2) tNil)))) (gName 3)) (tRet (tOp (rIx K) (tCall s_fall [] E0 (tCons (tCall s_letters [] E (tCons (tVar 0) (tCons (tVar 1) tNil))) (tCons (tCall s_ends [] E (tCons (tVar 0) (tCons (tVar 1) tNil))) (tCons (tVar 3) tNil)))) (tC (.int 0)))))
/- last_line(hands, rows, fallen): slots 0 hands 1 rows 2 fallen 3 line -/
def t_last_line (K : PySem.W.Frag) (E : XK) (s_top_line : Sp) (s_ends : Sp) (s_letters : Sp) (s_fall : Sp) : TS :=
  (tSeq (tAsg (tCall s_top_line [] E (tCons (tVar 0) (tCons (tVar 1) (tCons (tVar 2) tNil)))) (gName 3)) (tRet (tOp (rIx K) (tCall s_fall [] E0 (tCons (tCall s_letters [] E (tCons (tVar 0) (tCons (tVar 1) tNil))) (tCons (tCall s_ends [] E (tCons (tVar 0) (tCons (tVar 1) tNil))) (tCons (tVar 3) tNil)))) (tC (.int 1)))))
/- line_with(hands, rows, hand, number): slots 0 hands 1 rows 2 hand 3 number 4 told 5 line -/
def t_line_with (K : PySem.W.Frag) (E : XK) (s_ends : Sp) (s_need_hand : Sp) (s_now : Sp) (s_letters : Sp) (s_fall : Sp) (a_C_NoLine : Addr) : TS :=
  (tSeq (tAsg (tCall s_ends [] E (tCons (tVar 0) (tCons (tVar 1) tNil))) (gName 4)) (tSeq (tDrop (tCall s_need_hand [] E (tCons (tVar 0) (tCons (tVar 2) tNil)))) (tSeq (tIfS (tOr (tTest (tOp rLt (tVar 3) (tC (.int 0)))) (tTest (tOp rGe (tVar 3) (tCB (rLenU K) (tCons (tOp (rIx K) (tVar 4) (tVar 2)) tNil))))) (fun _ _ H => E (.ref a_C_NoLine) none H) tNext) (tSeq (tAsg (tCall s_now [] E0 (tCons (tVar 4) tNil)) (gName 5)) (tSeq (tAsg (tVar 3) (gSub (tVar 5) (tVar 2) rSetL)) (tSeq (tAsg (tOp (rIx K) (tCall s_fall [] E0 (tCons (tCall s_letters [] E (tCons (tVar 0) (tCons (tVar 1) tNil))) (tCons (tVar 4) (tCons (tVar 5) tNil)))) (tC (.int 1))) (gName 5)) (tSeq (tIfS (tTest (tOp rLt (tOp (rIx K) (tVar 5) (tVar 2)) (tVar 3))) (tRet (tC .non)) tNext) (tRet (tVar 5)))))))))
/- needless(hands, rows): slots 0 hands 1 rows 2 everybody 3 hand -/
def t_needless (K : PySem.W.Frag) (E : XK) (s_last_line : Sp) : TS :=
  (tSeq (tAsg (tLc (iRng1 (tCons (tVar 0) tNil)) (gName 3) tYes (tVar 3) [3]) (gName 2)) (tRet (tCall s_last_line [] E (tCons (tVar 0) (tCons (tVar 1) (tCons (tVar 2) tNil))))))
/- _law_fallen_by(_law_cell, _law_hands): slots 0 _law_cell 1 _law_hands 2 _law_fallen 3 _law_hand -/
def t_l_fallen_by (K : PySem.W.Frag) : TS :=
  (tSeq (tAsg (tLc (iRng1 (tCons (tVar 1) tNil)) (gName 3) (tTest (tOp (rEqD K) (tOp rModU (tOp rModU (tOp rMulU (tOp (rAddU K) (tVar 0) (tOp rMulU (tC (.int 7919)) (tVar 3))) (tC (.int 48271))) (tC (.int 2147483647))) (tC (.int 3))) (tC (.int 0)))) (tVar 3) [3]) (gName 2)) (tSeq (tIfS (tTest (tOp (rEqD K) (tOp rModU (tVar 0) (tC (.int 7))) (tC (.int 1)))) (tAsg (tLstRg (tRg1 (tVar 1))) (gName 2)) tNext) (tSeq (tIfS (tTest (tOp (rEqD K) (tOp rModU (tVar 0) (tC (.int 7))) (tC (.int 2)))) (tAsg (tLst tNil) (gName 2)) tNext) (tSeq (tIfS (tTest (tOp (rEqD K) (tOp rModU (tOp rFdivU (tVar 0) (tC (.int 7))) (tC (.int 2))) (tC (.int 1)))) (tAsg (tLstRev K (tVar 2)) (gName 2)) tNext) (tSeq (tIfS (tTest (tOp (rEqD K) (tOp rModU (tOp rFdivU (tVar 0) (tC (.int 14))) (tC (.int 5))) (tC (.int 1)))) (tAsg (tOp (rAddU K) (tVar 2) (tSl (rSlU K) (tVar 2) tNoPart (tPart (tC (.int 1))))) (gName 2)) tNext) (tRet (tVar 2)))))))
/- _law_letters_by(_law_rows): slots 0 _law_rows 1 _law_found 2 _law_place -/
def t_l_letters_by_08 (K : PySem.W.Frag) : TS :=
  (tSeq (tAsg (tLst tNil) (gName 1)) (tSeq (tFor (iRng1 (tCons (tCB (rLenU K) (tCons (tVar 0) tNil)) tNil)) (gName 2) (tSeq (tIfS (tTest (tOp (rEqD K) (tOp (rIx K) (tOp (rIx K) (tVar 0) (tVar 2)) (tC (.int 0))) (tC (.str (PySem.Str.ofString "send"))))) (tDrop (tBM K "list" rAppend (tVar 1) (tCons (tLst (tCons (tOp (rIx K) (tOp (rIx K) (tVar 0) (tVar 2)) (tC (.int 1))) (tCons (tOp (rIx K) (tOp (rIx K) (tVar 0) (tVar 2)) (tC (.int 2))) (tCons (tVar 2) (tCons (tCB (rLenU K) (tCons (tVar 0) tNil)) tNil))))) tNil))) tNext) (tIfS (tTest (tOp (rEqD K) (tOp (rIx K) (tOp (rIx K) (tVar 0) (tVar 2)) (tC (.int 0))) (tC (.str (PySem.Str.ofString "got"))))) (tAsg (tVar 2) (gSub (tOp (rIx K) (tVar 1) (tOp (rIx K) (tOp (rIx K) (tVar 0) (tVar 2)) (tC (.int 2)))) (tC (.int 3)) rSetL)) tNext))) (tRet (tVar 1))))
/- _law_fallen_by(_law_cell, _law_hands): slots 0 _law_cell 1 _law_hands 2 _law_hand -/
def t_l_fallen_by_09 (K : PySem.W.Frag) : TS :=
  (tSeq (tIfS (tTest (tOp (rEqD K) (tOp rModU (tVar 0) (tC (.int 7))) (tC (.int 1)))) (tRet (tLstRg (tRg1 (tVar 1)))) tNext) (tSeq (tIfS (tTest (tOp (rEqD K) (tOp rModU (tVar 0) (tC (.int 7))) (tC (.int 2)))) (tRet (tLst tNil)) tNext) (tRet (tLc (iRng1 (tCons (tVar 1) tNil)) (gName 2) (tTest (tOp (rEqD K) (tOp rModU (tOp rModU (tOp rMulU (tOp (rAddU K) (tVar 0) (tOp rMulU (tC (.int 7919)) (tVar 2))) (tC (.int 48271))) (tC (.int 2147483647))) (tC (.int 3))) (tC (.int 0)))) (tVar 2) [2]))))
/- _law_line_by(_law_cell, _law_told, _law_top): slots 0 _law_cell 1 _law_told 2 _law_top 3 _law_line 4 _law_hand 5 _law_number 6 _law_latest 7 _law_end -/
def t_l_line_by_09 (K : PySem.W.Frag) : TS :=
  (tSeq (tAsg (tLst tNil) (gName 3)) (tSeq (tFor (iRng1 (tCons (tCB (rLenU K) (tCons (tVar 1) tNil)) tNil)) (gName 4) (tSeq (tAsg (tOp rModU (tOp rModU (tOp rMulU (tOp (rAddU K) (tVar 0) (tOp rMulU (tC (.int 7919)) (tVar 4))) (tC (.int 48271))) (tC (.int 2147483647))) (tCB (rLenU K) (tCons (tOp (rIx K) (tVar 1) (tVar 4)) tNil))) (gName 5)) (tSeq (tIfS (tTest (tOp (rEqD K) (tOp rModU (tVar 0) (tC (.int 2))) (tC (.int 1)))) (tSeq (tAsg (tOp rModU (tOp rFdivU (tVar 0) (tC (.int 2))) (tOp (rAddU K) (tOp (rIx K) (tOp (rIx K) (tVar 1) (tVar 4)) (tUn rNeg (tC (.int 1)))) (tC (.int 1)))) (gName 6)) (tAsg (tOp rSub (tCB (rLenU K) (tCons (tLc (iList K (tOp (rIx K) (tVar 1) (tVar 4))) (gName 7) (tTest (tOp rLe (tVar 7) (tVar 6))) (tVar 7) [7]) tNil)) (tC (.int 1))) (gName 5))) tNext) (tDrop (tBM K "list" rAppend (tVar 3) (tCons (tCB rMin2 (tCons (tOp (rIx K) (tVar 2) (tVar 4)) (tCons (tVar 5) tNil))) tNil)))))) (tRet (tVar 3))))
/- _law_no_later(_law_line, _law_other): slots 0 _law_line 1 _law_other 2 _law_k -/
def t_l_no_later (K : PySem.W.Frag) : TS :=
  (tRet (tOp (rEqD K) (tLc (iRng1 (tCons (tCB (rLenU K) (tCons (tVar 0) tNil)) tNil)) (gName 2) (tTest (tOp rGt (tOp (rIx K) (tVar 0) (tVar 2)) (tOp (rIx K) (tVar 1) (tVar 2)))) (tVar 2) [2]) (tLst tNil)))
/- law(_law_script): slots 0 _law_script 1 _law_hands 2 _law_rows 3 _law_fallen 4 _law_told 5 _law_hand 6 _law_top 7 _law_found 8 _law_turn 9 _law_mixed 10 _law_line -/
def t_law_k09 (K : PySem.W.Frag) (s__law_cell_at : Sp) (s__law_hands_by : Sp) (s__law_cells_by : Sp) (s__law_rows_by : Sp) (s__law_fallen_by : Sp) (s__law_ends_by : Sp) (s_last_line : Sp) (s__law_whole : Sp) (s__law_has_stray : Sp) (s__law_line_by : Sp) (s__law_no_later : Sp) : TS :=
  (tSeq (tAsg (tCall s__law_hands_by [] E0 (tCons (tCall s__law_cell_at [] E0 (tCons (tVar 0) (tCons (tC (.int 0)) tNil))) tNil)) (gName 1)) (tSeq (tAsg (tCall s__law_rows_by [] E0 (tCons (tCall s__law_cells_by [] E0 (tCons (tVar 0) (tCons (tC (.int 3)) tNil))) (tCons (tVar 1) tNil))) (gName 2)) (tSeq (tAsg (tCall s__law_fallen_by [] E0 (tCons (tOp rModU (tCall s__law_cell_at [] E0 (tCons (tVar 0) (tCons (tC (.int 2)) tNil))) (tC (.int 1000003))) (tCons (tVar 1) tNil))) (gName 3)) (tSeq (tAsg (tCall s__law_ends_by [] E0 (tCons (tVar 2) (tCons (tVar 1) tNil))) (gName 4)) (tSeq (tAsg (tLc (iRng1 (tCons (tVar 1) tNil)) (gName 5) tYes (tOp rSub (tOp rSub (tCB (rLenU K) (tCons (tOp (rIx K) (tVar 4) (tVar 5)) tNil)) (tC (.int 1))) (tCB rInt1 (tCons (tOp (rInU K) (tVar 5) (tVar 3)) tNil))) [5]) (gName 6)) (tSeq (tAsg (tCall s_last_line [] E0 (tCons (tVar 1) (tCons (tCB (rListU K) (tCons (tVar 2) tNil)) (tCons (tCB (rListU K) (tCons (tVar 3) tNil)) tNil)))) (gName 7)) (tSeq (tIfS (tOr (tNot (tB (tCB (rIsi K) (tCons (tVar 7) (tCons (tC (.ty "list")) tNil))))) (tTest (tOp (rNeD K) (tCB (rLenU K) (tCons (tVar 7) tNil)) (tVar 1)))) (tRet (tC (.bl false))) tNext) (tSeq (tFor (iRng1 (tCons (tVar 1) tNil)) (gName 5) (tIfS (tOr (tNot (tB (tCall s__law_whole [] E0 (tCons (tOp (rIx K) (tVar 7) (tVar 5)) tNil)))) (tOr (tTest (tOp rLt (tOp (rIx K) (tVar 7) (tVar 5)) (tC (.int 0)))) (tTest (tOp rGt (tOp (rIx K) (tVar 7) (tVar 5)) (tOp (rIx K) (tVar 6) (tVar 5)))))) (tRet (tC (.bl false))) tNext)) (tSeq (tIfS (tB (tCall s__law_has_stray [] E0 (tCons (tVar 2) (tCons (tVar 4) (tCons (tVar 7) tNil))))) (tRet (tC (.bl false))) tNext) (tSeq (tFor (iRng1 (tCons (tC (.int 6)) tNil)) (gName 8) (tSeq (tAsg (tOp rModU (tOp rMulU (tOp (rAddU K) (tOp rFdivU (tCall s__law_cell_at [] E0 (tCons (tVar 0) (tCons (tC (.int 2)) tNil))) (tC (.int 1000003))) (tOp rMulU (tC (.int 7919)) (tVar 8))) (tC (.int 69621))) (tC (.int 2147483629))) (gName 9)) (tSeq (tAsg (tCall s__law_line_by [] E0 (tCons (tOp (rAddU K) (tOp rMulU (tOp rFdivU (tVar 9) (tC (.int 2))) (tC (.int 2))) (tOp rModU (tVar 8) (tC (.int 2)))) (tCons (tVar 4) (tCons (tVar 6) tNil)))) (gName 10)) (tIfS (tAnd (tNot (tB (tCall s__law_has_stray [] E0 (tCons (tVar 2) (tCons (tVar 4) (tCons (tVar 10) tNil)))))) (tNot (tB (tCall s__law_no_later [] E0 (tCons (tVar 10) (tCons (tVar 7) tNil)))))) (tRet (tC (.bl false))) tNext)))) (tRet (tC (.bl true)))))))))))))
/- _law_numbers(_law_found, _law_rows, _law_hands): slots 0 _law_found 1 _law_rows 2 _law_hands 3 _law_hand 4 _law_notes 5 _law_row -/
def t_l_numbers (K : PySem.W.Frag) (s__law_whole : Sp) : TS :=
  (tSeq (tIfS (tOr (tNot (tB (tCB (rIsi K) (tCons (tVar 0) (tCons (tC (.ty "list")) tNil))))) (tTest (tOp (rNeD K) (tCB (rLenU K) (tCons (tVar 0) tNil)) (tVar 2)))) (tRet (tC (.bl false))) tNext) (tSeq (tFor (iRng1 (tCons (tVar 2) tNil)) (gName 3) (tSeq (tAsg (tCB (rLenU K) (tCons (tLc (iList K (tVar 1)) (gName 5) (tTest (tOp (rEqD K) (tVar 5) (tTup (tCons (tC (.str (PySem.Str.ofString "note"))) (tCons (tVar 3) tNil))))) (tVar 5) [5]) tNil)) (gName 4)) (tIfS (tOr (tNot (tB (tCall s__law_whole [] E0 (tCons (tOp (rIx K) (tVar 0) (tVar 3)) tNil)))) (tOr (tTest (tOp rLt (tOp (rIx K) (tVar 0) (tVar 3)) (tC (.int 0)))) (tTest (tOp rGt (tOp (rIx K) (tVar 0) (tVar 3)) (tOp (rAddU K) (tVar 4) (tC (.int 1))))))) (tRet (tC (.bl false))) tNext))) (tRet (tC (.bl true)))))
/- _law_line_told(_law_found, _law_hands): slots 0 _law_found 1 _law_hands 2 _law_one -/
def t_l_line_told (K : PySem.W.Frag) (s__law_whole : Sp) : TS :=
  (tSeq (tIfS (tOr (tNot (tB (tCB (rIsi K) (tCons (tVar 0) (tCons (tC (.ty "list")) tNil))))) (tTest (tOp (rNeD K) (tCB (rLenU K) (tCons (tVar 0) tNil)) (tVar 1)))) (tRet (tC (.bl false))) tNext) (tRet (tOp (rEqD K) (tCB (rLenU K) (tCons (tLc (iList K (tVar 0)) (gName 2) (tB (tCall s__law_whole [] E0 (tCons (tVar 2) tNil))) (tVar 2) [2]) tNil)) (tVar 1))))
/- _law_line_by(_law_cell, _law_told, _law_fallen): slots 0 _law_cell 1 _law_told 2 _law_fallen 3 _law_line 4 _law_hand 5 _law_number 6 _law_latest 7 _law_end -/
def t_l_line_by_12 (K : PySem.W.Frag) : TS :=
  (tSeq (tAsg (tLst tNil) (gName 3)) (tSeq (tFor (iRng1 (tCons (tCB (rLenU K) (tCons (tVar 1) tNil)) tNil)) (gName 4) (tSeq (tAsg (tOp rModU (tOp rModU (tOp rMulU (tOp (rAddU K) (tVar 0) (tOp rMulU (tC (.int 7919)) (tVar 4))) (tC (.int 48271))) (tC (.int 2147483647))) (tCB (rLenU K) (tCons (tOp (rIx K) (tVar 1) (tVar 4)) tNil))) (gName 5)) (tSeq (tIfS (tTest (tOp (rEqD K) (tOp rModU (tVar 0) (tC (.int 2))) (tC (.int 1)))) (tSeq (tAsg (tOp rModU (tOp rFdivU (tVar 0) (tC (.int 2))) (tOp (rAddU K) (tOp (rIx K) (tOp (rIx K) (tVar 1) (tVar 4)) (tUn rNeg (tC (.int 1)))) (tC (.int 1)))) (gName 6)) (tAsg (tOp rSub (tCB (rLenU K) (tCons (tLc (iList K (tOp (rIx K) (tVar 1) (tVar 4))) (gName 7) (tTest (tOp rLe (tVar 7) (tVar 6))) (tVar 7) [7]) tNil)) (tC (.int 1))) (gName 5))) tNext) (tDrop (tBM K "list" rAppend (tVar 3) (tCons (tCB rMin2 (tCons (tOp rSub (tOp rSub (tCB (rLenU K) (tCons (tOp (rIx K) (tVar 1) (tVar 4)) tNil)) (tC (.int 1))) (tCB rInt1 (tCons (tOp (rInU K) (tVar 4) (tVar 2)) tNil))) (tCons (tVar 5) tNil))) tNil)))))) (tRet (tVar 3))))
/- _law_alike(_law_row, _law_old): slots 0 _law_row 1 _law_old -/
def t_l_alike_12 (K : PySem.W.Frag) (s__law_whole : Sp) : TS :=
  (tSeq (tIfS (tOr (tNot (tB (tCB (rIsi K) (tCons (tVar 0) (tCons (tC (.ty "tuple")) tNil))))) (tOr (tTest (tOp (rNeD K) (tCB (rLenU K) (tCons (tVar 0) tNil)) (tCB (rLenU K) (tCons (tVar 1) tNil)))) (tNot (tB (tCB (rIsi K) (tCons (tOp (rIx K) (tVar 0) (tC (.int 0))) (tCons (tC (.ty "str")) tNil))))))) (tRet (tC (.bl false))) tNext) (tRet (tAndV (tOp (rEqD K) (tOp (rIx K) (tVar 0) (tC (.int 0))) (tOp (rIx K) (tVar 1) (tC (.int 0)))) (tAndV (tCall s__law_whole [] E0 (tCons (tOp (rIx K) (tVar 0) (tC (.int 1))) tNil)) (tAndV (tOp (rEqD K) (tOp (rIx K) (tVar 0) (tC (.int 1))) (tOp (rIx K) (tVar 1) (tC (.int 1)))) (tCall s__law_whole [] E0 (tCons (tOp (rIx K) (tVar 0) (tUn rNeg (tC (.int 1)))) tNil)))))))
/- _law_left_rightly(_law_found, _law_rows, _law_told, _law_line): slots 0 _law_found 1 _law_rows 2 _law_told 3 _law_line 4 _law_kept 5 _law_sends 6 _law_fresh 7 _law_k 8 _law_old 9 _law_at 10 _law_place -/
def t_l_left_rightly (K : PySem.W.Frag) (s__law_alike : Sp) : TS :=
  (tSeq (tAsg (tLc (iRng1 (tCons (tCB (rLenU K) (tCons (tVar 1) tNil)) tNil)) (gName 10) (tTest (tOp rLt (tVar 10) (tOp (rIx K) (tOp (rIx K) (tVar 2) (tOp (rIx K) (tOp (rIx K) (tVar 1) (tVar 10)) (tC (.int 1)))) (tOp (rIx K) (tVar 3) (tOp (rIx K) (tOp (rIx K) (tVar 1) (tVar 10)) (tC (.int 1))))))) (tVar 10) [10]) (gName 4)) (tSeq (tIfS (tOr (tNot (tB (tCB (rIsi K) (tCons (tVar 0) (tCons (tC (.ty "list")) tNil))))) (tTest (tOp (rNeD K) (tCB (rLenU K) (tCons (tVar 0) tNil)) (tCB (rLenU K) (tCons (tVar 4) tNil))))) (tRet (tC (.bl false))) tNext) (tSeq (tAsg (tLc (iRng1 (tCons (tCB (rLenU K) (tCons (tVar 1) tNil)) tNil)) (gName 10) (tTest (tOp (rEqD K) (tOp (rIx K) (tOp (rIx K) (tVar 1) (tVar 10)) (tC (.int 0))) (tC (.str (PySem.Str.ofString "send"))))) (tVar 10) [10]) (gName 5)) (tSeq (tAsg tDNewK (gName 6)) (tSeq (tFor (iRng1 (tCons (tCB (rLenU K) (tCons (tVar 4) tNil)) tNil)) (gName 7) (tSeq (tAsg (tOp (rIx K) (tVar 1) (tOp (rIx K) (tVar 4) (tVar 7))) (gName 8)) (tSeq (tIfS (tNot (tB (tCall s__law_alike [] E0 (tCons (tOp (rIx K) (tVar 0) (tVar 7)) (tCons (tVar 8) tNil))))) (tRet (tC (.bl false))) tNext) (tSeq (tIfS (tTest (tOp (rEqD K) (tOp (rIx K) (tVar 8) (tC (.int 0))) (tC (.str (PySem.Str.ofString "send"))))) (tSeq (sDPut (tVar 6) (tOp (rIx K) (tVar 4) (tVar 7)) (tCB (rLenU K) (tCons (tVar 6) tNil))) (tIfS (tTest (tOp (rNeD K) (tOp (rIx K) (tOp (rIx K) (tVar 0) (tVar 7)) (tC (.int 2))) (tOp (rIx K) (tVar 8) (tC (.int 2))))) (tRet (tC (.bl false))) tNext)) tNext) (tIfS (tTest (tOp (rEqD K) (tOp (rIx K) (tVar 8) (tC (.int 0))) (tC (.str (PySem.Str.ofString "got"))))) (tSeq (tAsg (tOp (rIx K) (tVar 5) (tOp (rIx K) (tVar 8) (tC (.int 2)))) (gName 9)) (tIfS (tOr (tB (tDNotIn (tVar 9) (tVar 6))) (tTest (tOp (rNeD K) (tOp (rIx K) (tOp (rIx K) (tVar 0) (tVar 7)) (tC (.int 2))) (tDGet (tVar 6) (tVar 9))))) (tRet (tC (.bl false))) tNext)) tNext))))) (tRet (tC (.bl true))))))))
/- law(_law_script): slots 0 _law_script 1 _law_hands 2 _law_rows 3 _law_fallen 4 _law_told 5 _law_handed 6 _law_line 7 _law_drawn 8 _law_given 9 _law_found 10 _law_kept 11 _law_stays 12 _law_hand 13 _law_k 14 _law_row -/
def t_law_k12 (K : PySem.W.Frag) (s__law_cell_at : Sp) (s__law_hands_by : Sp) (s__law_cells_by : Sp) (s__law_rows_by : Sp) (s__law_fallen_by : Sp) (s__law_ends_by : Sp) (s_last_line : Sp) (s__law_line_told : Sp) (s__law_line_by : Sp) (s__law_has_stray : Sp) (s_left : Sp) (s__law_left_rightly : Sp) (s_steps : Sp) : TS :=
  (tSeq (tAsg (tCall s__law_hands_by [] E0 (tCons (tCall s__law_cell_at [] E0 (tCons (tVar 0) (tCons (tC (.int 0)) tNil))) tNil)) (gName 1)) (tSeq (tAsg (tCall s__law_rows_by [] E0 (tCons (tCall s__law_cells_by [] E0 (tCons (tVar 0) (tCons (tC (.int 3)) tNil))) (tCons (tVar 1) tNil))) (gName 2)) (tSeq (tAsg (tCall s__law_fallen_by [] E0 (tCons (tCall s__law_cell_at [] E0 (tCons (tVar 0) (tCons (tC (.int 2)) tNil))) (tCons (tVar 1) tNil))) (gName 3)) (tSeq (tAsg (tCall s__law_ends_by [] E0 (tCons (tVar 2) (tCons (tVar 1) tNil))) (gName 4)) (tSeq (tAsg (tCB (rListU K) (tCons (tVar 2) tNil)) (gName 5)) (tSeq (tAsg (tCall s_last_line [] E0 (tCons (tVar 1) (tCons (tVar 5) (tCons (tCB (rListU K) (tCons (tVar 3) tNil)) tNil)))) (gName 6)) (tSeq (tIfS (tNot (tB (tCall s__law_line_told [] E0 (tCons (tVar 6) (tCons (tVar 1) tNil))))) (tRet (tC (.bl false))) tNext) (tSeq (tIfS (tTest (tOp (rNeD K) (tLc (iRng1 (tCons (tVar 1) tNil)) (gName 13) (tOr (tTest (tOp rLt (tOp (rIx K) (tVar 6) (tVar 13)) (tC (.int 0)))) (tTest (tOp rGe (tOp (rIx K) (tVar 6) (tVar 13)) (tCB (rLenU K) (tCons (tOp (rIx K) (tVar 4) (tVar 13)) tNil))))) (tVar 13) [13]) (tLst tNil))) (tRet (tC (.bl false))) tNext) (tSeq (tAsg (tCall s__law_line_by [] E0 (tCons (tOp rFdivU (tCall s__law_cell_at [] E0 (tCons (tVar 0) (tCons (tC (.int 2)) tNil))) (tC (.int 14))) (tCons (tVar 4) (tCons (tVar 3) tNil)))) (gName 7)) (tSeq (tIfS (tAnd (tTest (tOp (rEqD K) (tOp rModU (tOp rFdivU (tCall s__law_cell_at [] E0 (tCons (tVar 0) (tCons (tC (.int 2)) tNil))) (tC (.int 7))) (tC (.int 2))) (tC (.int 1)))) (tNot (tB (tCall s__law_has_stray [] E0 (tCons (tVar 2) (tCons (tVar 4) (tCons (tVar 7) tNil))))))) (tAsg (tVar 7) (gName 6)) tNext) (tSeq (tAsg (tCB (rListU K) (tCons (tVar 6) tNil)) (gName 8)) (tSeq (tAsg (tCall s_left [] E0 (tCons (tVar 1) (tCons (tVar 5) (tCons (tVar 8) tNil)))) (gName 9)) (tSeq (tIfS (tOr (tTest (tOp (rNeD K) (tVar 5) (tVar 2))) (tOr (tTest (tOp (rNeD K) (tVar 8) (tVar 6))) (tNot (tB (tCall s__law_left_rightly [] E0 (tCons (tVar 9) (tCons (tVar 2) (tCons (tVar 4) (tCons (tVar 6) tNil))))))))) (tRet (tC (.bl false))) tNext) (tSeq (tAsg (tCB (rListU K) (tCons (tVar 9) tNil)) (gName 10)) (tSeq (tDrop (tBM K "list" rAppend (tVar 9) (tCons (tTup (tCons (tC (.str (PySem.Str.ofString "note"))) (tCons (tC (.int 0)) tNil))) tNil))) (tSeq (tAsg (tCall s_left [] E0 (tCons (tVar 1) (tCons (tVar 5) (tCons (tVar 8) tNil)))) (gName 9)) (tSeq (tIfS (tOr (tTest (tOp (rNeD K) (tVar 5) (tVar 2))) (tTest (tOp (rNeD K) (tVar 9) (tVar 10)))) (tRet (tC (.bl false))) tNext) (tSeq (tAsg (tLc (iRng1 (tCons (tVar 1) tNil)) (gName 12) tYes (tOp (rAddU K) (tC (.int 1)) (tCB (rLenU K) (tCons (tLc (iList K (tVar 9)) (gName 14) (tTest (tOp (rEqD K) (tVar 14) (tTup (tCons (tC (.str (PySem.Str.ofString "note"))) (tCons (tVar 12) tNil))))) (tVar 14) [14]) tNil))) [12]) (gName 11)) (tSeq (tIfS (tTest (tOp (rNeD K) (tCall s_last_line [] E0 (tCons (tVar 1) (tCons (tCB (rListU K) (tCons (tVar 9) tNil)) (tCons (tLst tNil) tNil)))) (tVar 11))) (tRet (tC (.bl false))) tNext) (tRet (tOp (rEqD K) (tCall s_steps [] E0 (tCons (tVar 1) (tCons (tCB (rListU K) (tCons (tVar 9) tNil)) (tCons (tCB (rListU K) (tCons (tVar 3) tNil)) tNil)))) (tLst tNil))))))))))))))))))))))
end Y

/-! Mb: the kinds of data, the classes of refusals, what a law promises. -/
namespace Y
open PySem PySem.Spec L2

inductive Er where
  | NoHands | TooMany | NoRow | NoHand | NoLetter | GotTwice | NoLine | Unsound
  deriving DecidableEq
/-- lists of whole numbers -/
abbrev dI (ns : List Int) : PyData := .list (ns.map .int)
theorem noLA_ints : ∀ ns : List Int, noLA (ns.map .int) = true
  | [] => rfl
  | n :: ns => by simp [noLA, noL, noLA_ints ns]
theorem shaped_int (i : Int) : SeqAt.shaped (.int i) = true := rfl
theorem lay_ints : ∀ ns : List Int, PyData.canLayAll0 (ns.map .int) = true
  | [] => by simp [PyData.canLayAll0]
  | n :: ns => by simp [PyData.canLayAll0, PyData.canLay0, lay_ints ns]
theorem depth_ints : ∀ ns : List Int, PyData.depthAll (ns.map .int) ≤ 1
  | [] => by simp [PyData.depthAll]
  | n :: ns => by
    have := depth_ints ns
    simp only [List.map_cons, PyData.depthAll, PyData.depth]
    omega
theorem shaped_list {ds : List PyData} {k : Nat} (h1 : PyData.canLayAll0 ds = true) (h2 : PyData.depthAll ds ≤ k) (hk : k ≤ 60) : SeqAt.shaped (.list ds) = true := by
  have h3 : PyData.depth (.list ds) ≤ 64 := by
    simp only [PyData.depth]
    omega
  show (PyData.canLay0 (.list ds) && decide (PyData.depth (.list ds) ≤ 64)) = true
  rw [Bool.and_eq_true]
  exact ⟨by simp only [PyData.canLay0]; exact h1, decide_eq_true h3⟩
theorem shaped_ints (ns : List Int) : SeqAt.shaped (dI ns) = true := shaped_list (lay_ints ns) (depth_ints ns) (by decide)
theorem eqv_ints : ∀ ns ms : List Int, PyData.eqvAll (ns.map .int) (ms.map .int) = decide (ns = ms)
  | [], [] => by simp [PyData.eqvAll]
  | [], m :: ms => by simp [PyData.eqvAll]
  | n :: ns, [] => by simp [PyData.eqvAll]
  | n :: ns, m :: ms => by
    simp only [List.map_cons, PyData.eqvAll, PyData.eqv, eqv_ints ns ms]
    by_cases h : n = m
    · subst h; simp
    · have : (n == m) = false := by simpa using h
      simp [this, h]
theorem eqv_dI (ns ms : List Int) : PyData.eqv (dI ns) (dI ms) = decide (ns = ms) := by
  simp only [PyData.eqv, eqv_ints]
theorem itm_dI {K : PySem.W.Frag} {H0 : Hp} {ω : Om} (ns : List Int) : Itm K H0 ω (.dat (dI ns)) (ns.map fun n => .dat (.int n)) := by
  have := Itm.dat (K := K) (H0 := H0) (ω := ω) (ns.map .int)
  rw [List.map_map] at this
  exact this
theorem itm_aI {K : PySem.W.Frag} {H0 : Hp} {ω : Om} (ns : List Int) : Itm K H0 ω (.arg (dI ns)) (ns.map fun n => .dat (.int n)) := by
  have := Itm.argT (K := K) (H0 := H0) (ω := ω) (ns.map .int) (noLA_ints ns)
  rw [List.map_map] at this
  exact this
theorem at_nat {α : Type} {xs : List α} {i : Int} {c : α} (h0 : 0 ≤ i) (h : xs[i.toNat]? = some c) : atI xs i = some c := by
  have e : i = (i.toNat : Int) := by omega
  rw [e]
  exact atI_nat h
/-- the cell of a script -/
def cellAt (ns : List Int) (k : Int) : Int := ns.getD k.toNat 0
/-- what the law promises -/
def spLaw (K : PySem.W.Frag) : Sp := fun vs H Q _ => ∃ (a : Addr) (ns : List Int), vs = [.ref a] ∧ SqL K H a (ns.map V.int) ∧ ns.length ≤ 63 ∧ ∀ H', Q (.bl true) H'
def R_law (ns : List Int) (ds : List PyData) (r : Res Er) : Prop := ds = [] ∧ ns.length ≤ 63 ∧ r = .ok (.bool true)
theorem law_imp {K : PySem.W.Frag} {C : Er → Addr} {vs : List V} {H : Hp} {Q : VK} {E : XK} (h : spLaw K vs H Q E) : PrS K C R_law vs H Q E := by
  obtain ⟨a, ns, rfl, hS, hl, q⟩ := h
  exact ⟨a, [], ns, [], .ok (.bool true), rfl, hS, .nil, ⟨rfl, hl, rfl⟩, fun v H' _ r => by cases r; exact q H'⟩
abbrev sp_law (K : PySem.W.Frag) (C : Er → Addr) : Sp := PrS K C R_law
theorem len_law {ns : List Int} {ds : List PyData} {r : Res Er} (h : R_law ns ds r) : ds.length + 1 = 1 := by rw [h.1]; rfl
end Y
namespace Y
open PySem PySem.Spec L2
theorem enA_map {α : Type} (xs : List α) (f : α → PyData) : enA (xs.map f) = xs.mapIdx fun i x => .dat (.tuple [.int (i : Nat), f x]) := by
  unfold enA
  apply List.ext_getElem?
  intro i
  rw [List.getElem?_mapIdx, List.getElem?_mapIdx, List.getElem?_map]
  cases xs[i]? <;> rfl
theorem map_idx {α : Type} (xs : List α) (f : α → A) : xs.map f = xs.mapIdx fun _ x => f x := by
  apply List.ext_getElem?
  intro i
  rw [List.getElem?_mapIdx, List.getElem?_map]
theorem rng_idx (n : Nat) (f : Nat → A) : (List.range n).map f = (List.range n).mapIdx fun _ i => f i := map_idx _ _
theorem mid_get {α : Type} {xs pre post : List α} {x : α} (h : xs = pre ++ x :: post) : xs[pre.length]? = some x := by
  subst h; simp
theorem rd_dI {ω : Om} {k : Nat} {ns : List Int} (h : ω[k]? = some (.lst (ns.map fun n => .dat (.int n)))) : Rd ω (.ptr k) (dI ns) := by
  refine .ptr h ?_
  have := RdA.dats (ω := ω) (ns.map .int)
  rw [List.map_map] at this
  exact this
def noLater : List Int → List Int → Bool
  | x :: xs, y :: ys => decide (x ≤ y) && noLater xs ys
  | _, _ => true
theorem noLater_iff : ∀ {xs ys : List Int}, xs.length = ys.length → (noLater xs ys = true ↔ ∀ (i : Nat) (x y : Int), xs[i]? = some x → ys[i]? = some y → x ≤ y)
  | [], [], _ => by simp [noLater]
  | [], _ :: _, h => by simp at h
  | _ :: _, [], h => by simp at h
  | x :: xs, y :: ys, h => by
    have ih := noLater_iff (xs := xs) (ys := ys) (by simpa using h)
    simp only [noLater, Bool.and_eq_true, decide_eq_true_eq, ih]
    constructor
    · rintro ⟨h1, h2⟩ i u v hu hv
      cases i with
      | zero => simp at hu hv; omega
      | succ i => exact h2 i u v (by simpa using hu) (by simpa using hv)
    · intro h2
      exact ⟨h2 0 x y rfl rfl, fun i u v hu hv => h2 (i + 1) u v (by simpa using hu) (by simpa using hv)⟩
theorem kb_bool : kitB "bool" "bool" = some true := by decide +kernel
theorem kb_bool_int : kitB "bool" "int" = some true := by decide +kernel
theorem kb_int : kitB "int" "int" = some true := by decide +kernel
theorem kb_int_bool : kitB "int" "bool" = some false := by decide +kernel
theorem kb_list : kitB "list" "list" = some true := by decide +kernel
theorem kb_tuple : kitB "tuple" "tuple" = some true := by decide +kernel
theorem kb_str : kitB "str" "str" = some true := by decide +kernel
end Y

namespace Y
open PySem PySem.Spec L2
local macro_rules | `(tactic| walk_at "y1") => `(tactic| first
  | (fail_if_success (with_reducible show SX _ (tSeq (tIfS _ _ _) _) _ _ _)); (with_reducible refine sx_seq ?_)
  | with_reducible refine sx_asg ?_
  | with_reducible refine sx_if ?_
  | with_reducible refine sx_ret ?_
  | with_reducible refine sx_retN ?_
  | with_reducible refine sx_next ?_
  | with_reducible refine sx_app ?_
  | with_reducible refine sx_clear ?_
  | with_reducible refine sx_setL ?_
  | with_reducible refine sx_dput ?_
  | with_reducible refine sx_drop ?_
  | with_reducible refine eg_var (by with_unfolding_all rfl) ?_
  | with_reducible refine eg_int ?_
  | with_reducible refine eg_bl ?_
  | with_reducible refine eg_str ?_
  | with_reducible refine eg_non ?_
  | with_reducible refine eg_raw ?_
  | with_reducible refine eg_op ?_
  | with_reducible refine eg_cb ?_
  | with_reducible refine eg_tup ?_
  | with_reducible refine eg_isN ?_
  | with_reducible refine eg_notN ?_
  | with_reducible refine eg_and ?_
  | with_reducible refine eg_or ?_
  | with_reducible refine eg_not ?_
  | with_reducible refine eg_dnew ?_
  | with_reducible refine eg_dget ?_
  | with_reducible refine eg_dnotin ?_
  | with_reducible refine eg_un ?_
  | with_reducible refine eg_partsNot ?_
  | with_reducible refine eg_partsIx ?_
  | with_reducible refine et_test ?_
  | with_reducible refine et_B ?_
  | with_reducible refine et_not ?_
  | with_reducible refine et_and ?_
  | with_reducible refine et_or ?_
  | with_reducible refine et_yes ?_
  | with_reducible refine ea_nil ?_
  | with_reducible refine ea_cons ?_
  | with_reducible refine el_lst ?_
  | with_reducible refine el_slL ?_
  | with_reducible refine el_op ?_
  | with_reducible refine el_cb ?_
  | with_reducible refine el_lstRev ?_
  | with_reducible refine el_rng ?_
  | with_reducible refine eo_none ?_
  | with_reducible refine eo_some ?_
  | with_reducible refine sr_list ?_
  | with_reducible refine sr_rng ?_
  | with_reducible refine sr_enum ?_
  | with_reducible refine eb_add ?_
  | with_reducible refine eb_sub ?_
  | with_reducible refine eb_fdivL (by decide) (by decide) ?_
  | with_reducible refine eb_mulL (by decide) (by decide) ?_
  | with_reducible refine eb_mulR (by decide) (by decide) ?_
  | with_reducible refine eb_powL (by decide) (by decide) (by decide) ?_
  | with_reducible refine eb_mod (by decide) ?_
  | with_reducible refine eb_lt ?_
  | with_reducible refine eb_le ?_
  | with_reducible refine eb_gt ?_
  | with_reducible refine eb_ge ?_
  | with_reducible refine eb_eqI ?_
  | with_reducible refine eb_neI ?_
  | with_reducible refine eb_eqB ?_)
local macro_rules | `(tactic| walk_at "y1") => `(tactic| first
  | with_reducible refine call_cell ?_
  | with_reducible refine Exists.intro _ (Exists.intro _ (Exists.intro _ (And.intro (Eq.refl [A.raw (V.ref _), A.dat (PyData.int _)]) (And.intro (by assumption) (And.intro (by first | decide | omega) ?_))))))
local macro_rules | `(tactic| walk_at "y") => `(tactic| (repeat' (walk_at "y1")))
local macro_rules | `(tactic| walk_at "yi") => `(tactic| ((repeat' (walk_at "y1")); (with_reducible refine sx_seq ?_); (repeat' (walk_at "y1"))))


/-! ### the script's cell -/
def R_l_cell_at (ns : List Int) (ds : List PyData) (r : Res Er) : Prop := ∃ k : Int, ds = [.int k] ∧ 0 ≤ k ∧ r = .ok (.int (cellAt ns k))
abbrev sp_l_cell_at (K : PySem.W.Frag) (C : Er → Addr) : Sp := PrS K C R_l_cell_at
theorem len_l_cell_at {ns : List Int} {ds : List PyData} {r : Res Er} (h : R_l_cell_at ns ds r) : ds.length + 1 = 2 := by
  obtain ⟨k, rfl, _⟩ := h; rfl
theorem wk_l_cell_at (K : PySem.W.Frag) (C : Er → Addr) (H : Hp) (a : Addr) (ns : List Int) (ds : List PyData) (r : Res Er) (hS : SqL K H a (ns.map V.int)) (h : R_l_cell_at ns ds r) : SX H (t_l_cell_at K) (some (.raw (.ref a)) :: entry ds 0) [] (HandR r) := by
  obtain ⟨k, rfl, hk, rfl⟩ := h
  show SX H (t_l_cell_at K) [some (.raw (.ref a)), some (.dat (.int k))] [] _
  unfold t_l_cell_at
  walk_at "yi"
  refine ec_len (.scr hS) ?_
  walk_at "y"
  refine ⟨_, rfl, fun h => ?_, fun h => ?_⟩
  · have hlt := of_decide_eq_true h
    rw [List.length_map] at hlt
    walk_at "y"
    refine eb_ixUL (.scr hS) (c := .dat (.int (cellAt ns k))) (at_nat hk ?_) ?_
    · rw [List.getElem?_map, List.getElem?_eq_getElem (by omega)]
      unfold cellAt
      rw [List.getD_eq_getElem?_getD, List.getElem?_eq_getElem (by omega)]
      rfl
    · exact .dat _
  · have hlt := of_decide_eq_false h
    rw [List.length_map] at hlt
    walk_at "y"
    have e : cellAt ns k = 0 := by
      unfold cellAt
      rw [List.getD_eq_getElem?_getD, List.getElem?_eq_none (by omega)]
      rfl
    rw [e]
    exact .dat _
/-- the call -/
theorem call_cell {K : PySem.W.Frag} {C : Er → Addr} {H0 : Hp} {δ : Sl} {ω : Om} {E : XK} {ts : TA} {P : A → Om → Prop} (h : EA H0 ts δ ω fun bs ω1 => ∃ a ns k, bs = [.raw (.ref a), .dat (.int k)] ∧ SqL K H0 a (ns.map V.int) ∧ 0 ≤ k ∧ P (.dat (.int (cellAt ns k))) ω1) : EG H0 (tCall (sp_l_cell_at K C) [] E ts) δ ω P :=
  eg_callS fun σ H vs as S Q q => h σ H vs as S Q fun bs ω' us H' ⟨a, ns, k, e, hS, hk, hp⟩ hl S' => q bs ω' us H' ⟨a, [.dat (.int k)], ns, [.int k], _, e, hS, .cons (.dat _) .nil, ⟨k, rfl, hk, rfl⟩, hp⟩ hl S'

theorem dI_rng (n : Nat) (g : Nat → Int) : (List.range n).map (fun i => PyData.int (g i)) = ((List.range n).map g).map .int := by
  rw [List.map_map]; rfl
end Y

/-! Mr: rows, letters, good histories: plain Lean. -/
namespace Y
open PySem PySem.Spec L2

inductive Row where
  | emp
  | mk (w : Str) (ns : List Int)
  deriving DecidableEq
abbrev Row.send (h t : Int) : Row := .mk wSend [h, t]
abbrev Row.got (h l : Int) : Row := .mk wGot [h, l]
abbrev Row.note (h : Int) : Row := .mk wNote [h]
def dRow : Row → PyData
  | .emp => .tuple []
  | .mk w ns => .tuple (.str w :: ns.map .int)
abbrev dRows (rows : List Row) : PyData := .list (rows.map dRow)
structure Let where
  s : Int
  t : Int
  p : Nat
  g : Option Nat
  deriving DecidableEq
def dOpt : Option Nat → PyData
  | none => .none
  | some g => .int (g : Nat)
def dLet (l : Let) : PyData := .tuple [.int l.s, .int l.t, .int (l.p : Nat), dOpt l.g]
abbrev dLets (f : List Let) : PyData := .list (f.map dLet)

theorem noL_row : ∀ r : Row, noL (dRow r) = true
  | .emp => rfl
  | .mk w ns => by simp [dRow, noL, noLA, noLA_ints]
theorem noL_opt : ∀ o : Option Nat, noL (dOpt o) = true
  | none => rfl
  | some _ => rfl
theorem noL_let (l : Let) : noL (dLet l) = true := by simp [dLet, noL, noLA, noL_opt]
theorem noLA_of {α : Type} {f : α → PyData} (h : ∀ x, noL (f x) = true) : ∀ xs : List α, noLA (xs.map f) = true
  | [] => rfl
  | x :: xs => by simp [noLA, h x, noLA_of h xs]
theorem noLA_rows (rows : List Row) : noLA (rows.map dRow) = true := noLA_of noL_row rows
theorem noLA_lets (f : List Let) : noLA (f.map dLet) = true := noLA_of noL_let f

/-! ### what is refused -/
def needRow : Row → Option Er
  | .emp => some .NoRow
  | .mk w ns => if isWord w = true then (if (ns.length : Int) + 1 = partsOf w then none else some .NoRow) else some .NoRow
def needHand (hands h : Int) : Option Er := if h < 0 ∨ hands ≤ h then some .NoHand else none
def needLetter (f : List Let) (hand l : Int) : Option Er :=
  if l < 0 ∨ (f.length : Int) ≤ l then some .NoLetter else
  match f[l.toNat]? with
  | none => some .NoLetter
  | some x => if x.t = hand then (match x.g with
    | none => none
    | some _ => some .GotTwice) else some .NoLetter
/-- one row -/
def stepL (hands : Int) (place : Nat) (f : List Let) (r : Row) : Except Er (List Let) :=
  match needRow r with
  | some e => .error e
  | none => match r with
    | .emp => .error .NoRow
    | .mk w ns =>
      let h := ns.getD 0 0
      let x := ns.getD 1 0
      match needHand hands h with
      | some e => .error e
      | none =>
        if w = wSend then (match needHand hands x with
          | some e => .error e
          | none => .ok (f ++ [⟨h, x, place, none⟩]))
        else if w = wGot then (match needLetter f h x with
          | some e => .error e
          | none => .ok (f.modify x.toNat fun l => { l with g := some place }))
        else .ok f
def goL (hands : Int) : Nat → List Let → List Row → Except Er (List Let)
  | _, f, [] => .ok f
  | k, f, r :: rows => match stepL hands k f r with
    | .error e => .error e
    | .ok f' => goL hands (k + 1) f' rows
def lettersM (hands : Int) (rows : List Row) : Except Er (List Let) :=
  if hands < 1 ∨ 40 < hands then .error .NoHands else if 1000 < rows.length then .error .TooMany else goL hands 0 [] rows
theorem goL_append (hands : Int) : ∀ (a b : List Row) (k : Nat) (f : List Let), goL hands k f (a ++ b) = match goL hands k f a with
    | .error e => .error e
    | .ok f' => goL hands (k + a.length) f' b
  | [], b, k, f => rfl
  | r :: a, b, k, f => by
    simp only [List.cons_append, goL]
    cases stepL hands k f r with
    | error e => rfl
    | ok f' =>
      simp only
      rw [goL_append hands a b (k + 1) f', List.length_cons, show k + 1 + a.length = k + (a.length + 1) by omega]
theorem goL_snoc (hands : Int) (a : List Row) (r : Row) (f f' : List Let) (k : Nat) (h : goL hands k f a = .ok f') : goL hands k f (a ++ [r]) = stepL hands (k + a.length) f' r := by
  rw [goL_append, h]
  simp only [goL]
  cases stepL hands (k + a.length) f' r <;> rfl
theorem goL_bad (hands : Int) (a b : List Row) (r : Row) (f f' : List Let) (k : Nat) (e : Er) (h : goL hands k f a = .ok f') (hr : stepL hands (k + a.length) f' r = .error e) : goL hands k f (a ++ r :: b) = .error e := by
  rw [goL_append, h]
  simp only [goL, hr]
theorem stepL_len {hands : Int} {k : Nat} {f f' : List Let} {r : Row} (h : stepL hands k f r = .ok f') : f'.length ≤ f.length + 1 := by
  unfold stepL at h
  split at h
  · cases h
  · split at h
    · cases h
    · simp only at h
      split at h
      · cases h
      · split at h
        · split at h
          · cases h
          · cases h; simp
        · split at h
          · split at h
            · cases h
            · cases h; simp
          · cases h; omega
theorem goL_len {hands : Int} : ∀ {rows : List Row} {k : Nat} {f f' : List Let}, goL hands k f rows = .ok f' → f'.length ≤ f.length + rows.length
  | [], k, f, f', h => by cases h; simp
  | r :: rows, k, f, f', h => by
    simp only [goL] at h
    split at h
    · cases h
    · rename_i f1 h1
      have := stepL_len h1
      have := goL_len h
      simp only [List.length_cons]
      omega
def toRes {α : Type} (enc : α → PyData) : Except Er α → Res Er
  | .ok x => .ok (enc x)
  | .error e => .er e
def optRes : Option Er → Res Er
  | none => .ok .none
  | some e => .er e
end Y

namespace Y
open PySem PySem.Spec L2
local macro_rules | `(tactic| walk_at "y1") => `(tactic| first
  | (fail_if_success (with_reducible show SX _ (tSeq (tIfS _ _ _) _) _ _ _)); (with_reducible refine sx_seq ?_)
  | with_reducible refine sx_asg ?_
  | with_reducible refine sx_if ?_
  | with_reducible refine sx_ret ?_
  | with_reducible refine sx_retN ?_
  | with_reducible refine sx_next ?_
  | with_reducible refine sx_app ?_
  | with_reducible refine sx_clear ?_
  | with_reducible refine sx_setL ?_
  | with_reducible refine sx_dput ?_
  | with_reducible refine sx_drop ?_
  | with_reducible refine eg_var (by with_unfolding_all rfl) ?_
  | with_reducible refine eg_int ?_
  | with_reducible refine eg_bl ?_
  | with_reducible refine eg_str ?_
  | with_reducible refine eg_non ?_
  | with_reducible refine eg_raw ?_
  | with_reducible refine eg_op ?_
  | with_reducible refine eg_cb ?_
  | with_reducible refine eg_tup ?_
  | with_reducible refine eg_isN ?_
  | with_reducible refine eg_notN ?_
  | with_reducible refine eg_and ?_
  | with_reducible refine eg_or ?_
  | with_reducible refine eg_not ?_
  | with_reducible refine eg_dnew ?_
  | with_reducible refine eg_dget ?_
  | with_reducible refine eg_dnotin ?_
  | with_reducible refine eg_un ?_
  | with_reducible refine eg_partsNot ?_
  | with_reducible refine eg_partsIx ?_
  | with_reducible refine et_test ?_
  | with_reducible refine et_B ?_
  | with_reducible refine et_not ?_
  | with_reducible refine et_and ?_
  | with_reducible refine et_or ?_
  | with_reducible refine et_yes ?_
  | with_reducible refine ea_nil ?_
  | with_reducible refine ea_cons ?_
  | with_reducible refine el_lst ?_
  | with_reducible refine el_slL ?_
  | with_reducible refine el_op ?_
  | with_reducible refine el_cb ?_
  | with_reducible refine el_lstRev ?_
  | with_reducible refine el_rng ?_
  | with_reducible refine eo_none ?_
  | with_reducible refine eo_some ?_
  | with_reducible refine sr_list ?_
  | with_reducible refine sr_rng ?_
  | with_reducible refine sr_enum ?_
  | with_reducible refine eb_add ?_
  | with_reducible refine eb_sub ?_
  | with_reducible refine eb_fdivL (by decide) (by decide) ?_
  | with_reducible refine eb_mulL (by decide) (by decide) ?_
  | with_reducible refine eb_mulR (by decide) (by decide) ?_
  | with_reducible refine eb_powL (by decide) (by decide) (by decide) ?_
  | with_reducible refine eb_mod (by decide) ?_
  | with_reducible refine eb_lt ?_
  | with_reducible refine eb_le ?_
  | with_reducible refine eb_gt ?_
  | with_reducible refine eb_ge ?_
  | with_reducible refine eb_eqI ?_
  | with_reducible refine eb_neI ?_
  | with_reducible refine eb_eqB ?_)
local macro_rules | `(tactic| walk_at "y1") => `(tactic| first
  | with_reducible refine call_cell ?_
  | with_reducible refine Exists.intro _ (Exists.intro _ (Exists.intro _ (And.intro (Eq.refl [A.raw (V.ref _), A.dat (PyData.int _)]) (And.intro (by assumption) (And.intro (by first | decide | omega) ?_))))))
local macro_rules | `(tactic| walk_at "y") => `(tactic| (repeat' (walk_at "y1")))
local macro_rules | `(tactic| walk_at "yi") => `(tactic| ((repeat' (walk_at "y1")); (with_reducible refine sx_seq ?_); (repeat' (walk_at "y1"))))


theorem isWord_cases {w : Str} (h : isWord w = true) : w = wSend ∨ w = wGot ∨ w = wNote := by
  unfold isWord at h
  simp only [Bool.or_eq_true, decide_eq_true_eq] at h
  rcases h with (h | h) | h
  · exact .inl h
  · exact .inr (.inl h)
  · exact .inr (.inr h)
theorem sh_send : SeqAt.shaped (.str wSend) = true := by decide +kernel
theorem sh_got : SeqAt.shaped (.str wGot) = true := by decide +kernel
theorem sh_note : SeqAt.shaped (.str wNote) = true := by decide +kernel
theorem sh_word {w : Str} (h : isWord w = true) : SeqAt.shaped (.str w) = true := by
  rcases isWord_cases h with rfl | rfl | rfl
  · exact sh_send
  · exact sh_got
  · exact sh_note
theorem ne_sg : ¬ wSend = wGot := by decide +kernel
theorem ne_gs : ¬ wGot = wSend := by decide +kernel
theorem ne_ns : ¬ wNote = wSend := by decide +kernel
theorem ne_ng : ¬ wNote = wGot := by decide +kernel
theorem ne_sn : ¬ wSend = wNote := by decide +kernel
theorem ne_gn : ¬ wGot = wNote := by decide +kernel
theorem at_cons {α : Type} {x : α} {xs : List α} : atI (x :: xs) 0 = some x := at_nat (by decide) rfl
theorem at_ns {w : PyData} {ns : List Int} {j : Nat} {x : Int} (h : ns[j]? = some x) : atI (w :: ns.map .int) ((j + 1 : Nat) : Int) = some (.int x) := atI_nat (by rw [List.getElem?_cons_succ, List.getElem?_map, h]; rfl)

/-! ### need_row -/
def R_need_row (ds : List PyData) (r : Res Er) : Prop := ∃ x : Row, ds = [dRow x] ∧ r = optRes (needRow x)
abbrev sp_need_row (K : PySem.W.Frag) (C : Er → Addr) : Sp := Pr C R_need_row
theorem len_need_row {ds : List PyData} {r : Res Er} (h : R_need_row ds r) : ds.length = 1 := by
  obtain ⟨x, rfl, _⟩ := h; rfl
theorem wk_need_row (K : PySem.W.Frag) (C : Er → Addr) (H : Hp) (E : XK) (ds : List PyData) (r : Res Er) (h : R_need_row ds r) (hE : ∀ e, r = .er e → ∀ H', Same H H' → E (.ref (C e)) none H') : SX H (t_need_row K E (C .NoRow)) (entry ds 0) [] (HandR r) := by
  obtain ⟨x, rfl, rfl⟩ := h
  have e0 : entry [dRow x] 0 = [some (.dat (dRow x))] := by unfold entry; rw [List.map_singleton, ent_dat (noL_row x)]; rfl
  rw [e0]
  unfold t_need_row
  cases x with
  | emp =>
    refine sx_seq ?_
    walk_at "y"
    refine ec_lenT (.dat []) ?_
    walk_at "y"
    refine ⟨true, rfl, iteT ⟨fun _ => ?_, fun z => by cases z⟩⟩
    exact sx_exit (hE _ rfl)
  | mk w ns =>
    refine sx_seq ?_
    walk_at "y"
    refine ec_lenT (.dat _) ?_
    walk_at "y"
    refine ⟨false, by simp; omega, iteF ?_⟩
    walk_at "y"
    refine eb_ixUT (.dat _) (d := .str w) at_cons ?_
    refine ⟨w, rfl, _, rfl, fun hw => ?_, fun hw => ?_⟩
    · have hw : isWord w = false := by simpa using hw
      exact sx_exit (hE _ (by simp [optRes, needRow, hw]))
    · have hw : isWord w = true := by simpa using hw
      walk_at "y"
      refine ec_lenT (.dat _) ?_
      walk_at "y"
      refine eb_ixUT (.dat _) (d := .str w) at_cons ?_
      refine ⟨w, rfl, hw, ?_⟩
      walk_at "y"
      have el : ((PyData.str w :: ns.map .int).length : Int) = ns.length + 1 := by simp
      refine ⟨_, rfl, fun h => ?_, fun h => ?_⟩
      · have h : ¬ ((PyData.str w :: ns.map .int).length : Int) = partsOf w := by simpa using h
        rw [el] at h
        exact sx_exit (hE _ (by simp [optRes, needRow, hw, h]))
      · have h : ((PyData.str w :: ns.map .int).length : Int) = partsOf w := by simpa using h
        rw [el] at h
        walk_at "y"
        have e : optRes (needRow (.mk w ns)) = Res.ok .none := by simp [optRes, needRow, hw, h]
        rw [e]
        rfl

/-! ### need_hand -/
def R_need_hand (ds : List PyData) (r : Res Er) : Prop := ∃ n h : Int, ds = [.int n, .int h] ∧ r = optRes (needHand n h)
abbrev sp_need_hand (K : PySem.W.Frag) (C : Er → Addr) : Sp := Pr C R_need_hand
theorem len_need_hand {ds : List PyData} {r : Res Er} (h : R_need_hand ds r) : ds.length = 2 := by
  obtain ⟨x, y, rfl, _⟩ := h; rfl
theorem wk_need_hand (K : PySem.W.Frag) (C : Er → Addr) (H : Hp) (E : XK) (ds : List PyData) (r : Res Er) (h : R_need_hand ds r) (hE : ∀ e, r = .er e → ∀ H', Same H H' → E (.ref (C e)) none H') : SX H (t_need_hand K E (C .NoHand)) (entry ds 0) [] (HandR r) := by
  obtain ⟨n, h, rfl, rfl⟩ := h
  show SX H (t_need_hand K E (C .NoHand)) [some (.dat (.int n)), some (.dat (.int h))] [] _
  unfold t_need_hand
  walk_at "y"
  refine ⟨_, rfl, ?_⟩
  split
  · rename_i h1
    have h1 := of_decide_eq_true h1
    refine ⟨fun _ => ?_, fun z => by cases z⟩
    exact sx_exit (hE _ (by simp [optRes, needHand, h1]))
  · rename_i h1
    have h1 : ¬ h < 0 := by simpa using h1
    walk_at "y"
    refine ⟨_, rfl, fun h2 => ?_, fun h2 => ?_⟩
    · have h2 := of_decide_eq_true h2
      exact sx_exit (hE _ (by simp [optRes, needHand, h2]))
    · have h2 := of_decide_eq_false h2
      walk_at "y"
      have e : optRes (needHand n h) = Res.ok .none := by simp [optRes, needHand, h1, h2]
      rw [e]
      rfl

/-! ### need_letter -/
def R_need_letter (ds : List PyData) (r : Res Er) : Prop := ∃ (f : List Let) (h l : Int), ds = [dLets f, .int h, .int l] ∧ r = optRes (needLetter f h l)
abbrev sp_need_letter (K : PySem.W.Frag) (C : Er → Addr) : Sp := Pr C R_need_letter
theorem len_need_letter {ds : List PyData} {r : Res Er} (h : R_need_letter ds r) : ds.length = 3 := by
  obtain ⟨f, x, y, rfl, _⟩ := h; rfl
theorem itm_aLets {K : PySem.W.Frag} {H0 : Hp} {ω : Om} (f : List Let) : Itm K H0 ω (.arg (dLets f)) (f.map fun l => .dat (dLet l)) := by
  have := Itm.argT (K := K) (H0 := H0) (ω := ω) (f.map dLet) (noLA_lets f)
  rw [List.map_map] at this
  exact this
theorem itm_dLets {K : PySem.W.Frag} {H0 : Hp} {ω : Om} (f : List Let) : Itm K H0 ω (.dat (dLets f)) (f.map fun l => .dat (dLet l)) := by
  have := Itm.dat (K := K) (H0 := H0) (ω := ω) (f.map dLet)
  rw [List.map_map] at this
  exact this
theorem at_let {f : List Let} {l : Int} {x : Let} (h0 : 0 ≤ l) (h : f[l.toNat]? = some x) : atI (f.map fun l => A.dat (dLet l)) l = some (.dat (dLet x)) := at_nat h0 (by rw [List.getElem?_map, h]; rfl)
theorem isNo_opt (o : Option Nat) : isNo (dOpt o) = o.isNone := by cases o <;> rfl
theorem wk_need_letter (K : PySem.W.Frag) (C : Er → Addr) (H : Hp) (E : XK) (ds : List PyData) (r : Res Er) (h : R_need_letter ds r) (hE : ∀ e, r = .er e → ∀ H', Same H H' → E (.ref (C e)) none H') : SX H (t_need_letter K E (C .NoLetter) (C .GotTwice)) (entry ds 0) [] (HandR r) := by
  obtain ⟨f, h, l, rfl, rfl⟩ := h
  show SX H (t_need_letter K E (C .NoLetter) (C .GotTwice)) [some (.arg (dLets f)), some (.dat (.int h)), some (.dat (.int l))] [] _
  unfold t_need_letter
  refine sx_seq ?_
  walk_at "y"
  refine ⟨_, rfl, ?_⟩
  split
  · rename_i h1
    have h1 := of_decide_eq_true h1
    refine ⟨fun _ => ?_, fun z => by cases z⟩
    exact sx_exit (hE _ (by simp [optRes, needLetter, h1]))
  · rename_i h1
    have h1 : ¬ l < 0 := by simpa using h1
    walk_at "y"
    refine ec_len (itm_aLets f) ?_
    walk_at "y"
    refine ⟨_, rfl, fun h2 => ?_, fun h2 => ?_⟩
    · have h2 := of_decide_eq_true h2
      rw [List.length_map] at h2
      exact sx_exit (hE _ (by simp [optRes, needLetter, h2]))
    · have h2 := of_decide_eq_false h2
      rw [List.length_map] at h2
      obtain ⟨x, hx⟩ : ∃ x, f[l.toNat]? = some x := ⟨_, List.getElem?_eq_getElem (by omega)⟩
      walk_at "yi"
      refine eb_ixUL (itm_aLets f) (at_let (by omega) hx) ?_
      walk_at "y"
      refine eb_ixUT (.dat _) (d := .int x.t) rfl ?_
      walk_at "y"
      refine ⟨_, rfl, fun h3 => ?_, fun h3 => ?_⟩
      · have h3 : ¬ x.t = h := by simpa using h3
        exact sx_exit (hE _ (by simp [optRes, needLetter, h1, h2, hx, h3]))
      · have h3 : x.t = h := by simpa using h3
        walk_at "y"
        refine eb_ixUL (itm_aLets f) (at_let (by omega) hx) ?_
        walk_at "y"
        refine eb_ixUT (.dat _) (d := dOpt x.g) rfl ?_
        refine ⟨_, rfl, _, rfl, fun h4 => ?_, fun h4 => ?_⟩
        · rw [isNo_opt] at h4
          cases hg : x.g with
          | none => rw [hg] at h4; cases h4
          | some q => exact sx_exit (hE _ (by simp [optRes, needLetter, h1, h2, hx, h3, hg]))
        · rw [isNo_opt] at h4
          cases hg : x.g with
          | none =>
            walk_at "y"
            have e : optRes (needLetter f h l) = Res.ok .none := by simp [optRes, needLetter, h1, h2, hx, h3, hg]
            rw [e]
            rfl
          | some q => rw [hg] at h4; cases h4
end Y

namespace Y
open PySem PySem.Spec L2
local macro_rules | `(tactic| walk_at "y1") => `(tactic| first
  | (fail_if_success (with_reducible show SX _ (tSeq (tIfS _ _ _) _) _ _ _)); (with_reducible refine sx_seq ?_)
  | with_reducible refine sx_asg ?_
  | with_reducible refine sx_if ?_
  | with_reducible refine sx_ret ?_
  | with_reducible refine sx_retN ?_
  | with_reducible refine sx_next ?_
  | with_reducible refine sx_app ?_
  | with_reducible refine sx_clear ?_
  | with_reducible refine sx_setL ?_
  | with_reducible refine sx_dput ?_
  | with_reducible refine sx_drop ?_
  | with_reducible refine eg_var (by with_unfolding_all rfl) ?_
  | with_reducible refine eg_int ?_
  | with_reducible refine eg_bl ?_
  | with_reducible refine eg_str ?_
  | with_reducible refine eg_non ?_
  | with_reducible refine eg_raw ?_
  | with_reducible refine eg_op ?_
  | with_reducible refine eg_cb ?_
  | with_reducible refine eg_tup ?_
  | with_reducible refine eg_isN ?_
  | with_reducible refine eg_notN ?_
  | with_reducible refine eg_and ?_
  | with_reducible refine eg_or ?_
  | with_reducible refine eg_not ?_
  | with_reducible refine eg_dnew ?_
  | with_reducible refine eg_dget ?_
  | with_reducible refine eg_dnotin ?_
  | with_reducible refine eg_un ?_
  | with_reducible refine eg_partsNot ?_
  | with_reducible refine eg_partsIx ?_
  | with_reducible refine et_test ?_
  | with_reducible refine et_B ?_
  | with_reducible refine et_not ?_
  | with_reducible refine et_and ?_
  | with_reducible refine et_or ?_
  | with_reducible refine et_yes ?_
  | with_reducible refine ea_nil ?_
  | with_reducible refine ea_cons ?_
  | with_reducible refine el_lst ?_
  | with_reducible refine el_slL ?_
  | with_reducible refine el_op ?_
  | with_reducible refine el_cb ?_
  | with_reducible refine el_lstRev ?_
  | with_reducible refine el_rng ?_
  | with_reducible refine eo_none ?_
  | with_reducible refine eo_some ?_
  | with_reducible refine sr_list ?_
  | with_reducible refine sr_rng ?_
  | with_reducible refine sr_enum ?_
  | with_reducible refine eb_add ?_
  | with_reducible refine eb_sub ?_
  | with_reducible refine eb_fdivL (by decide) (by decide) ?_
  | with_reducible refine eb_mulL (by decide) (by decide) ?_
  | with_reducible refine eb_mulR (by decide) (by decide) ?_
  | with_reducible refine eb_powL (by decide) (by decide) (by decide) ?_
  | with_reducible refine eb_mod (by decide) ?_
  | with_reducible refine eb_lt ?_
  | with_reducible refine eb_le ?_
  | with_reducible refine eb_gt ?_
  | with_reducible refine eb_ge ?_
  | with_reducible refine eb_eqI ?_
  | with_reducible refine eb_neI ?_
  | with_reducible refine eb_eqB ?_)
local macro_rules | `(tactic| walk_at "y1") => `(tactic| first
  | with_reducible refine call_cell ?_
  | with_reducible refine Exists.intro _ (Exists.intro _ (Exists.intro _ (And.intro (Eq.refl [A.raw (V.ref _), A.dat (PyData.int _)]) (And.intro (by assumption) (And.intro (by first | decide | omega) ?_))))))
local macro_rules | `(tactic| walk_at "y") => `(tactic| (repeat' (walk_at "y1")))
local macro_rules | `(tactic| walk_at "yi") => `(tactic| ((repeat' (walk_at "y1")); (with_reducible refine sx_seq ?_); (repeat' (walk_at "y1"))))


section
variable {K : PySem.W.Frag} {C : Er → Addr} {H0 : Hp} {δ : Sl} {ω : Om} {E : XK} {ts : TA} {P : A → Om → Prop}
theorem call_need_row (h : EA H0 ts δ ω fun bs ω1 => ∃ x, RdA ω1 bs [dRow x] ∧ (∀ e, needRow x = some e → ∀ H', Same H0 H' → E (.ref (C e)) none H') ∧ (needRow x = none → P (.dat .none) ω1)) : EG H0 (tCall (sp_need_row K C) [] E ts) δ ω P :=
  eg_call fun σ H vs as S Q q => h σ H vs as S Q fun bs ω' us H' ⟨x, hr, h1, h2⟩ hl S' => q bs ω' us H' ⟨_, _, hr, ⟨x, rfl, rfl⟩, by
    cases e : needRow x with
    | none => exact h2 e
    | some e' => exact h1 e' e⟩ hl S'
theorem call_need_hand (h : EA H0 ts δ ω fun bs ω1 => ∃ n x, RdA ω1 bs [.int n, .int x] ∧ (∀ e, needHand n x = some e → ∀ H', Same H0 H' → E (.ref (C e)) none H') ∧ (needHand n x = none → P (.dat .none) ω1)) : EG H0 (tCall (sp_need_hand K C) [] E ts) δ ω P :=
  eg_call fun σ H vs as S Q q => h σ H vs as S Q fun bs ω' us H' ⟨n, x, hr, h1, h2⟩ hl S' => q bs ω' us H' ⟨_, _, hr, ⟨n, x, rfl, rfl⟩, by
    cases e : needHand n x with
    | none => exact h2 e
    | some e' => exact h1 e' e⟩ hl S'
theorem call_need_letter (h : EA H0 ts δ ω fun bs ω1 => ∃ f x l, RdA ω1 bs [dLets f, .int x, .int l] ∧ (∀ e, needLetter f x l = some e → ∀ H', Same H0 H' → E (.ref (C e)) none H') ∧ (needLetter f x l = none → P (.dat .none) ω1)) : EG H0 (tCall (sp_need_letter K C) [] E ts) δ ω P :=
  eg_call fun σ H vs as S Q q => h σ H vs as S Q fun bs ω' us H' ⟨f, x, l, hr, h1, h2⟩ hl S' => q bs ω' us H' ⟨_, _, hr, ⟨f, x, l, rfl, rfl⟩, by
    cases e : needLetter f x l with
    | none => exact h2 e
    | some e' => exact h1 e' e⟩ hl S'
end
abbrev lLets (f : List Let) : Ob := .lst (f.map fun l => .dat (dLet l))
theorem rd_lets {ω : Om} {k : Nat} {f : List Let} (h : ω[k]? = some (lLets f)) : Rd ω (.ptr k) (dLets f) := by
  refine .ptr h ?_
  have := RdA.dats (ω := ω) (f.map dLet)
  rw [List.map_map] at this
  exact this
theorem fin_lets {ω : Om} {k : Nat} {f : List Let} (h : ω[k]? = some (lLets f)) : Fin ω (.ptr k) (dLets f) := by
  refine .ptr h ?_
  have := FinA.dats (ω := ω) (f.map dLet)
  rw [List.map_map] at this
  exact this
theorem row_word {x : Row} (h : needRow x = none) : ∃ w ns, x = .mk w ns ∧ isWord w = true ∧ (ns.length : Int) + 1 = partsOf w := by
  cases x with
  | emp => cases h
  | mk w ns =>
    by_cases hw : isWord w = true
    · by_cases hl : (ns.length : Int) + 1 = partsOf w
      · exact ⟨w, ns, rfl, hw, hl⟩
      · simp [needRow, hw, hl] at h
    · simp [needRow, hw] at h
theorem parts_ge (w : Str) : 2 ≤ partsOf w := by unfold partsOf; split <;> decide

theorem modify_set {α : Type} {f : List α} {i : Nat} {x : α} {g : α → α} (h : f[i]? = some x) : f.modify i g = f.set i (g x) := by
  apply List.ext_getElem?
  intro j
  rw [List.getElem?_modify, List.getElem?_set]
  by_cases hj : i = j
  · subst hj
    have hl := (List.getElem?_eq_some_iff.mp h).1
    rw [h]
    simp [hl]
  · rw [if_neg hj]
    cases f[j]? with
    | none => rfl
    | some y => simp [hj]
/-! ### letters -/
def R_letters (ds : List PyData) (r : Res Er) : Prop := ∃ (hands : Int) (rows : List Row), ds = [.int hands, dRows rows] ∧ r = toRes dLets (lettersM hands rows)
abbrev sp_letters (K : PySem.W.Frag) (C : Er → Addr) : Sp := Pr C R_letters
theorem len_letters {ds : List PyData} {r : Res Er} (h : R_letters ds r) : ds.length = 2 := by
  obtain ⟨f, x, rfl, _⟩ := h; rfl
theorem wk_letters (K : PySem.W.Frag) (C : Er → Addr) (H : Hp) (E : XK) (ds : List PyData) (r : Res Er) (h : R_letters ds r) (hE : ∀ e, r = .er e → ∀ H', Same H H' → E (.ref (C e)) none H') :
    SX H (t_letters K E (sp_need_row K C) (sp_need_hand K C) (sp_need_letter K C) (C .NoHands) (C .TooMany)) (entry ds 3) [] (HandR r) := by
  obtain ⟨hands, rows, rfl, rfl⟩ := h
  show SX H (t_letters K E (sp_need_row K C) (sp_need_hand K C) (sp_need_letter K C) (C .NoHands) (C .TooMany)) [some (.dat (.int hands)), some (.arg (dRows rows)), none, none, none] [] _
  unfold t_letters
  refine sx_seq ?_
  walk_at "y"
  refine ⟨_, rfl, ?_⟩
  split
  · rename_i h1
    have h1 := of_decide_eq_true h1
    exact ⟨fun _ => sx_exit (hE _ (by simp [toRes, lettersM, h1])), fun z => by cases z⟩
  rename_i h1
  have h1 : ¬ hands < 1 := by simpa using h1
  walk_at "y"
  refine ⟨_, rfl, fun h2 => ?_, fun h2 => ?_⟩
  · have h2 := of_decide_eq_true h2
    exact sx_exit (hE _ (by simp [toRes, lettersM, h2]))
  have h2 := of_decide_eq_false h2
  walk_at "yi"
  refine ec_len (.argT _ (noLA_rows rows)) ?_
  walk_at "y"
  refine ⟨_, rfl, fun h3 => ?_, fun h3 => ?_⟩
  · have h3 := of_decide_eq_true h3
    rw [List.length_map, List.length_map] at h3
    exact sx_exit (hE _ (by
      have h3' : 1000 < rows.length := by omega
      simp [toRes, lettersM, h1, h2, h3']))
  have h3 := of_decide_eq_false h3
  rw [List.length_map, List.length_map] at h3
  have hM : lettersM hands rows = goL hands 0 [] rows := by
    have h3' : ¬ 1000 < rows.length := by omega
    simp [lettersM, h1, h2, h3']
  rw [hM] at hE ⊢
  walk_at "y"
  refine el_own (el_lst ?_)
  walk_at "y"
  refine ⟨by decide, ?_⟩
  walk_at "y"
  refine sx_forP (xs := rows) (it := fun i x => .dat (.tuple [.int (i : Nat), dRow x])) (fun pre δ ω => ∃ a b f, δ = [some (.dat (.int hands)), some (.arg (dRows rows)), some (.ptr 0), a, b] ∧ ω = [lLets f] ∧ goL hands 0 [] pre = .ok f) ?_ ?_ ?_
  · walk_at "y"
    refine ⟨_, rows.map dRow, rfl, .argT _ (noLA_rows rows), enA_map _ _, ⟨_, _, [], rfl, rfl, rfl⟩, ?_⟩
    rintro pre δ ω ⟨_, _, _, rfl, rfl, _⟩
    exact .argT _ (noLA_rows rows)
  · rintro pre x post δ ω e ⟨a, b, f, rfl, rfl, hf⟩
    refine ⟨_, gx_tup2, ?_⟩
    have bad : ∀ e', stepL hands pre.length f x = .error e' → ∀ H', Same H H' → E (.ref (C e')) none H' := fun e' he => hE e' (by
      rw [e, goL_bad hands pre post x [] f 0 e' hf (by rw [Nat.zero_add]; exact he)]; rfl)
    have good : ∀ f', stepL hands pre.length f x = .ok f' → goL hands 0 [] (pre ++ [x]) = .ok f' := fun f' he => by
      rw [goL_snoc hands pre x [] f 0 hf, Nat.zero_add, he]
    have hlen : f.length ≤ pre.length := by have := goL_len hf; simpa using this
    have hpl : pre.length < rows.length := by rw [e]; simp
    walk_at "y"
    refine call_need_row ?_
    walk_at "y"
    refine ⟨x, .cons (.dat _) .nil, fun e' he => bad e' (by simp [stepL, he]), fun hrow => ?_⟩
    obtain ⟨w, ns, rfl, hw, hpn⟩ := row_word hrow
    have hp2 := parts_ge w
    obtain ⟨u, hu⟩ : ∃ u, ns[0]? = some u := ⟨_, List.getElem?_eq_getElem (by omega)⟩
    have hu0 : ns.getD 0 0 = u := by rw [List.getD_eq_getElem?_getD, hu]; rfl
    walk_at "y"
    refine call_need_hand ?_
    walk_at "y"
    refine eb_ixUT (.dat _) (d := .int u) (at_ns (j := 0) hu) ?_
    walk_at "y"
    refine ⟨hands, u, .cons (.dat _) (.cons (.dat _) .nil), fun e' he => bad e' (by simp only [stepL, hrow, hu0, he]), fun hh => ?_⟩
    walk_at "y"
    have next : ∀ (J : List Let), True := fun _ => trivial
    refine sx_cut (fun δ ω => ∃ f1, δ = [some (.dat (.int hands)), some (.arg (dRows rows)), some (.ptr 0), some (.dat (.int (pre.length : Nat))), some (.dat (dRow (.mk w ns)))] ∧ ω = [lLets f1] ∧ (if w = wSend then stepL hands pre.length f (.mk w ns) = .ok f1 else f1 = f)) ?_ ?_
    · walk_at "y"
      refine eb_ixUT (.dat _) (d := .str w) at_cons ?_
      walk_at "y"
      refine eb_eqS (sh_word hw) sh_send ?_
      refine ⟨_, rfl, fun hs => ?_, fun hs => ?_⟩
      · have hs : w = wSend := of_decide_eq_true hs
        subst hs
        have hns : ns.length = 2 := by
          have : partsOf wSend = 3 := by decide +kernel
          omega
        obtain ⟨v, hv⟩ : ∃ v, ns[1]? = some v := ⟨_, List.getElem?_eq_getElem (by omega)⟩
        have hv0 : ns.getD 1 0 = v := by rw [List.getD_eq_getElem?_getD, hv]; rfl
        walk_at "y"
        refine call_need_hand ?_
        walk_at "y"
        refine eb_ixUT (.dat _) (d := .int v) (at_ns (j := 1) hv) ?_
        walk_at "y"
        refine ⟨hands, v, .cons (.dat _) (.cons (.dat _) .nil), fun e' he => bad e' (by simp only [stepL, hrow, hu0, hh, hv0, he, if_true]), fun hh2 => ?_⟩
        walk_at "y"
        refine ⟨0, _, rfl, rfl, ?_⟩
        walk_at "y"
        refine eb_ixUT (.dat _) (d := .int u) (at_ns (j := 0) hu) ?_
        walk_at "y"
        refine eb_ixUT (.dat _) (d := .int v) (at_ns (j := 1) hv) ?_
        walk_at "y"
        refine ⟨[.int u, .int v, .int (pre.length : Nat), .none], rfl, szOk (show 4 ≤ 16777216 by decide), ?_⟩
        walk_at "y"
        refine ⟨_, _, rfl, rfl, szLt (by rw [List.length_map]; omega), ?_⟩
        refine ⟨f ++ [⟨u, v, pre.length, none⟩], rfl, ?_, ?_⟩
        · show [Ob.lst _] = [Ob.lst ((f ++ [(⟨u, v, pre.length, none⟩ : Let)]).map fun l => .dat (dLet l))]
          rw [List.map_append]; rfl
        · rw [if_pos rfl]
          simp only [stepL, hrow, hu0, hh, hv0, hh2, if_true]
      · have hs : ¬ w = wSend := of_decide_eq_false hs
        walk_at "y"
        exact ⟨f, rfl, rfl, by rw [if_neg hs]⟩
    · rintro δ ω ⟨f1, rfl, rfl, h5⟩
      walk_at "y"
      refine eb_ixUT (.dat _) (d := .str w) at_cons ?_
      walk_at "y"
      refine eb_eqS (sh_word hw) sh_got ?_
      refine ⟨_, rfl, fun hs => ?_, fun hs => ?_⟩
      · have hs : w = wGot := of_decide_eq_true hs
        subst hs
        rw [if_neg ne_gs] at h5
        subst h5
        have hns : ns.length = 2 := by
          have : partsOf wGot = 3 := by decide +kernel
          omega
        obtain ⟨v, hv⟩ : ∃ v, ns[1]? = some v := ⟨_, List.getElem?_eq_getElem (by omega)⟩
        have hv0 : ns.getD 1 0 = v := by rw [List.getD_eq_getElem?_getD, hv]; rfl
        walk_at "y"
        refine call_need_letter ?_
        walk_at "y"
        refine eb_ixUT (.dat _) (d := .int u) (at_ns (j := 0) hu) ?_
        walk_at "y"
        refine eb_ixUT (.dat _) (d := .int v) (at_ns (j := 1) hv) ?_
        walk_at "y"
        refine ⟨f1, u, v, .cons (rd_lets rfl) (.cons (.dat _) (.cons (.dat _) .nil)), fun e' he => bad e' (by simp only [stepL, hrow, hu0, hh, hv0, he, if_neg ne_gs, if_true]), fun hl => ?_⟩
        have hv1 : 0 ≤ v ∧ v < (f1.length : Int) := by
          refine Classical.byContradiction fun z => ?_
          have z2 : v < 0 ∨ (f1.length : Int) ≤ v := by omega
          simp [needLetter, z2] at hl
        obtain ⟨l, hx⟩ : ∃ l, f1[v.toNat]? = some l := ⟨_, List.getElem?_eq_getElem (by omega)⟩
        walk_at "y"
        refine eg_slT ?_
        walk_at "y"
        refine eb_ixUT (.dat _) (d := .int v) (at_ns (j := 1) hv) ?_
        refine eb_ixUL (.ptr rfl) (at_let hv1.1 hx) ?_
        walk_at "y"
        refine ⟨3, rfl, [.int l.s, .int l.t, .int (l.p : Nat), dOpt l.g], .dat _, ?_, ?_⟩
        · show ¬ (HT.sIx 4 0 none = 0 ∧ HT.sIx 4 4 (some 3) = 4)
          decide
        walk_at "y"
        refine ⟨[.int (pre.length : Nat)], rfl, szOk (show 1 ≤ 16777216 by decide), ?_⟩
        refine eb_catT (.dat [.int l.s, .int l.t, .int (l.p : Nat)]) (.dat _) (by simp) (by simp) (szOk (show 4 ≤ 16777216 by decide)) ?_
        walk_at "y"
        refine eb_ixUT (.dat _) (d := .int v) (at_ns (j := 1) hv) ?_
        refine ⟨0, v, v.toNat, _, rfl, rfl, rfl, ?_, ?_⟩
        · unfold ixN
          rw [List.length_map, if_pos hv1.1, if_pos hv1.2]
        · refine ⟨_, _, f1.modify v.toNat fun l => { l with g := some pre.length }, rfl, ?_, ?_⟩
          · show [Ob.lst ((f1.map fun l => .dat (dLet l)).set v.toNat (.dat (dLet { l with g := some pre.length })))] = _
            rw [modify_set hx, ← List.map_set (f := fun l => A.dat (dLet l))]
          · refine good _ ?_
            simp only [stepL, hrow, hu0, hh, hv0, hl, if_neg ne_gs, if_true]
      · have hs : ¬ w = wGot := of_decide_eq_false hs
        walk_at "y"
        refine ⟨_, _, f1, rfl, rfl, ?_⟩
        by_cases hs2 : w = wSend
        · rw [if_pos hs2] at h5
          exact good f1 h5
        · rw [if_neg hs2] at h5
          subst h5
          exact good f1 (by simp only [stepL, hrow, hu0, hh, if_neg hs2, if_neg hs])
  · rintro δ ω ⟨a, b, f, rfl, rfl, hf⟩
    walk_at "y"
    rw [hf]
    exact fin_lets rfl
end Y

namespace Y
open PySem PySem.Spec L2
local macro_rules | `(tactic| walk_at "y1") => `(tactic| first
  | (fail_if_success (with_reducible show SX _ (tSeq (tIfS _ _ _) _) _ _ _)); (with_reducible refine sx_seq ?_)
  | with_reducible refine sx_asg ?_
  | with_reducible refine sx_if ?_
  | with_reducible refine sx_ret ?_
  | with_reducible refine sx_retN ?_
  | with_reducible refine sx_next ?_
  | with_reducible refine sx_app ?_
  | with_reducible refine sx_clear ?_
  | with_reducible refine sx_setL ?_
  | with_reducible refine sx_dput ?_
  | with_reducible refine sx_drop ?_
  | with_reducible refine eg_var (by with_unfolding_all rfl) ?_
  | with_reducible refine eg_int ?_
  | with_reducible refine eg_bl ?_
  | with_reducible refine eg_str ?_
  | with_reducible refine eg_non ?_
  | with_reducible refine eg_raw ?_
  | with_reducible refine eg_op ?_
  | with_reducible refine eg_cb ?_
  | with_reducible refine eg_tup ?_
  | with_reducible refine eg_isN ?_
  | with_reducible refine eg_notN ?_
  | with_reducible refine eg_and ?_
  | with_reducible refine eg_or ?_
  | with_reducible refine eg_not ?_
  | with_reducible refine eg_dnew ?_
  | with_reducible refine eg_dget ?_
  | with_reducible refine eg_dnotin ?_
  | with_reducible refine eg_un ?_
  | with_reducible refine eg_partsNot ?_
  | with_reducible refine eg_partsIx ?_
  | with_reducible refine et_test ?_
  | with_reducible refine et_B ?_
  | with_reducible refine et_not ?_
  | with_reducible refine et_and ?_
  | with_reducible refine et_or ?_
  | with_reducible refine et_yes ?_
  | with_reducible refine ea_nil ?_
  | with_reducible refine ea_cons ?_
  | with_reducible refine el_lst ?_
  | with_reducible refine el_slL ?_
  | with_reducible refine el_op ?_
  | with_reducible refine el_cb ?_
  | with_reducible refine el_lstRev ?_
  | with_reducible refine el_rng ?_
  | with_reducible refine eo_none ?_
  | with_reducible refine eo_some ?_
  | with_reducible refine sr_list ?_
  | with_reducible refine sr_rng ?_
  | with_reducible refine sr_enum ?_
  | with_reducible refine eb_add ?_
  | with_reducible refine eb_sub ?_
  | with_reducible refine eb_fdivL (by decide) (by decide) ?_
  | with_reducible refine eb_mulL (by decide) (by decide) ?_
  | with_reducible refine eb_mulR (by decide) (by decide) ?_
  | with_reducible refine eb_powL (by decide) (by decide) (by decide) ?_
  | with_reducible refine eb_mod (by decide) ?_
  | with_reducible refine eb_lt ?_
  | with_reducible refine eb_le ?_
  | with_reducible refine eb_gt ?_
  | with_reducible refine eb_ge ?_
  | with_reducible refine eb_eqI ?_
  | with_reducible refine eb_neI ?_
  | with_reducible refine eb_eqB ?_)
local macro_rules | `(tactic| walk_at "y1") => `(tactic| first
  | with_reducible refine call_cell ?_
  | with_reducible refine Exists.intro _ (Exists.intro _ (Exists.intro _ (And.intro (Eq.refl [A.raw (V.ref _), A.dat (PyData.int _)]) (And.intro (by assumption) (And.intro (by first | decide | omega) ?_))))))
local macro_rules | `(tactic| walk_at "y") => `(tactic| (repeat' (walk_at "y1")))
local macro_rules | `(tactic| walk_at "yi") => `(tactic| ((repeat' (walk_at "y1")); (with_reducible refine sx_seq ?_); (repeat' (walk_at "y1"))))


/-! ### _law_hands_by -/
def handsBy (c : Int) : Int := if c / 5 % 8 = 1 then 1 + c / 40 % 40 else 1 + c % 5
theorem handsBy_ok (c : Int) : 1 ≤ handsBy c ∧ handsBy c ≤ 40 := by unfold handsBy; split <;> omega
def R_l_hands_by (ds : List PyData) (r : Res Er) : Prop := ∃ c : Int, ds = [.int c] ∧ r = .ok (.int (handsBy c))
abbrev sp_l_hands_by (K : PySem.W.Frag) (C : Er → Addr) : Sp := Pr C R_l_hands_by
theorem len_l_hands_by {ds : List PyData} {r : Res Er} (h : R_l_hands_by ds r) : ds.length = 1 := by
  obtain ⟨f, rfl, _⟩ := h; rfl
theorem wk_l_hands_by (K : PySem.W.Frag) (C : Er → Addr) (H : Hp) (ds : List PyData) (r : Res Er) (h : R_l_hands_by ds r) : SX H (t_l_hands_by K) (entry ds 0) [] (HandR r) := by
  obtain ⟨c, rfl, rfl⟩ := h
  show SX H (t_l_hands_by K) [some (.dat (.int c))] [] _
  unfold t_l_hands_by
  walk_at "yi"
  refine ⟨_, rfl, fun h => ?_, fun h => ?_⟩
  · have h := of_decide_eq_true h
    walk_at "y"
    rw [show handsBy c = 1 + c / 40 % 40 from if_pos h]
    exact .dat _
  · have h := of_decide_eq_false h
    walk_at "y"
    rw [show handsBy c = 1 + c % 5 from if_neg h]
    exact .dat _

/-! ### _law_cells_by -/
def cellsBy (ns : List Int) (first : Int) : List Int :=
  if cellAt ns 1 % 4 = 1 then (List.range (cellAt ns 1 / 4 % 61 + 100 * (cellAt ns 1 / 244 % 8 / 7)).toNat).map fun k : Nat => (cellAt ns 1 / 4 + 104729 * (k : Int)) * 48271 % 2147483647
  else cutA ns (some first) (some (first + 960))
theorem cutA_len {α : Type} (xs : List α) (lo hi : Option Int) : (cutA xs lo hi).length ≤ xs.length := by
  unfold cutA
  rw [List.length_take, List.length_drop]
  omega
theorem cellsBy_len {ns : List Int} {first : Int} (h : ns.length ≤ 63) : (cellsBy ns first).length ≤ 160 := by
  unfold cellsBy
  split
  · rw [List.length_map, List.length_range]; omega
  · have := cutA_len ns (some first) (some (first + 960)); omega
def R_l_cells_by (ns : List Int) (ds : List PyData) (r : Res Er) : Prop := ∃ k : Int, ds = [.int k] ∧ ns.length ≤ 63 ∧ r = .ok (dI (cellsBy ns k))
abbrev sp_l_cells_by (K : PySem.W.Frag) (C : Er → Addr) : Sp := PrS K C R_l_cells_by
theorem len_l_cells_by {ns : List Int} {ds : List PyData} {r : Res Er} (h : R_l_cells_by ns ds r) : ds.length + 1 = 2 := by
  obtain ⟨k, rfl, _⟩ := h; rfl
theorem cutA_map {α β : Type} (f : α → β) (xs : List α) (lo hi : Option Int) : cutA (xs.map f) lo hi = (cutA xs lo hi).map f := by
  unfold cutA
  rw [List.length_map, List.map_take, List.map_drop]
theorem wk_l_cells_by (K : PySem.W.Frag) (C : Er → Addr) (H : Hp) (a : Addr) (ns : List Int) (ds : List PyData) (r : Res Er) (hS : SqL K H a (ns.map V.int)) (h : R_l_cells_by ns ds r) : SX H (t_l_cells_by K (sp_l_cell_at K C)) (some (.raw (.ref a)) :: entry ds 3) [] (HandR r) := by
  obtain ⟨k, rfl, hn, rfl⟩ := h
  show SX H (t_l_cells_by K (sp_l_cell_at K C)) [some (.raw (.ref a)), some (.dat (.int k)), none, none, none] [] _
  unfold t_l_cells_by
  walk_at "y"
  walk_at "yi"
  refine ⟨_, rfl, fun h => ?_, fun h => ?_⟩
  · have h := of_decide_eq_true h
    have h1 : 0 ≤ cellAt ns 1 / 4 % 61 + 100 * (cellAt ns 1 / 244 % 8 / 7) := by omega
    have h2 : cellAt ns 1 / 4 % 61 + 100 * (cellAt ns 1 / 244 % 8 / 7) ≤ 160 := by omega
    walk_at "y"
    refine el_dat (el_lcR (n := (cellAt ns 1 / 4 % 61 + 100 * (cellAt ns 1 / 244 % 8 / 7)).toNat) (by omega) (fun _ => true) (fun i => .int ((cellAt ns 1 / 4 + 104729 * (i : Int)) * 48271 % 2147483647)) ?_ ?_ ?_)
    · walk_at "y"
      rw [show (((cellAt ns 1 / 4 % 61 + 100 * (cellAt ns 1 / 244 % 8 / 7)).toNat : Nat) : Int) = cellAt ns 1 / 4 % 61 + 100 * (cellAt ns 1 / 244 % 8 / 7) by omega]
      exact ⟨rfl, rfl⟩
    · rintro i hi ω' ⟨acc, rfl⟩
      refine ⟨?_, fun _ => ?_⟩
      · walk_at "y"
        exact ⟨rfl, rfl⟩
      · walk_at "y"
        exact ⟨rfl, rfl⟩
    rw [filter_yes]
    refine ⟨_, rfl, ?_⟩
    rw [dI_rng, show cellsBy ns k = _ from if_pos h]
    exact .dat _
  · have h := of_decide_eq_false h
    walk_at "y"
    refine el_dat ?_
    walk_at "y"
    refine ⟨k, rfl, ?_⟩
    walk_at "y"
    refine ⟨_, rfl, _, .scr hS, ?_⟩
    refine ⟨(cutA ns (some k) (some (k + 960))).map .int, by rw [cutA_map, List.map_map]; rfl, ?_⟩
    rw [show cellsBy ns k = _ from if_neg h]
    exact .dat _

/-! ### _law_whole -/
def isInt : PyData → Bool
  | .int _ => true
  | _ => false
def R_l_whole (ds : List PyData) (r : Res Er) : Prop := ∃ d : PyData, ds = [d] ∧ (∀ kv, d ≠ .dict kv) ∧ r = .ok (.bool (isInt d))
abbrev sp_l_whole (K : PySem.W.Frag) (C : Er → Addr) : Sp := Pr C R_l_whole
theorem len_l_whole {ds : List PyData} {r : Res Er} (h : R_l_whole ds r) : ds.length = 1 := by
  obtain ⟨f, rfl, _⟩ := h; rfl
theorem rd_ent {ω : Om} (d : PyData) : Rd ω (ent d) d := by
  unfold ent
  split
  · exact .dat d
  · exact .arg d
theorem kb_none_int : kitB "NoneType" "int" = some false := by decide +kernel
theorem kb_str_int : kitB "str" "int" = some false := by decide +kernel
theorem kb_list_int : kitB "list" "int" = some false := by decide +kernel
theorem kb_tuple_int : kitB "tuple" "int" = some false := by decide +kernel
theorem wk_l_whole (K : PySem.W.Frag) (C : Er → Addr) (H : Hp) (ds : List PyData) (r : Res Er) (h : R_l_whole ds r) : SX H (t_l_whole K) (entry ds 0) [] (HandR r) := by
  obtain ⟨d, rfl, hd, rfl⟩ := h
  show SX H (t_l_whole K) [some (ent d)] [] _
  unfold t_l_whole
  walk_at "y"
  have other : ∀ P : A → Om → Prop, kitB (tyN d) "int" = some false → P (.dat (.bool false)) [] → EC H (rIsi K) [ent d, A.raw (V.ty "int")] [some (ent d)] [] P := fun P k p => ec_isi (rd_ent d) k p
  cases d with
  | none => exact other _ kb_none_int ⟨_, rfl, iteF (.dat _)⟩
  | str x => exact other _ kb_str_int ⟨_, rfl, iteF (.dat _)⟩
  | list x => exact other _ kb_list_int ⟨_, rfl, iteF (.dat _)⟩
  | tuple x => exact other _ kb_tuple_int ⟨_, rfl, iteF (.dat _)⟩
  | dict x => exact absurd rfl (hd x)
  | int i =>
    refine ec_isi (d := .int i) (rd_ent _) kb_int ?_
    refine ⟨_, rfl, iteT ?_⟩
    walk_at "y"
    refine ec_isi (d := .int i) (rd_ent _) kb_int_bool ?_
    exact ⟨_, rfl, .dat _⟩
  | bool i =>
    refine ec_isi (d := .bool i) (rd_ent _) kb_bool_int ?_
    refine ⟨_, rfl, iteT ?_⟩
    walk_at "y"
    refine ec_isi (d := .bool i) (rd_ent _) kb_bool ?_
    exact ⟨_, rfl, .dat _⟩
section
variable {K : PySem.W.Frag} {C : Er → Addr} {H0 : Hp} {δ : Sl} {ω : Om} {E : XK} {ts : TA} {P : A → Om → Prop}
theorem call_hands_by (h : EA H0 ts δ ω fun bs ω1 => ∃ c, bs = [.dat (.int c)] ∧ P (.dat (.int (handsBy c))) ω1) : EG H0 (tCall (sp_l_hands_by K C) [] E ts) δ ω P :=
  eg_call fun σ H vs as S Q q => h σ H vs as S Q fun bs ω' us H' ⟨c, e, hp⟩ hl S' => q bs ω' us H' ⟨_, _, by rw [e]; exact .cons (.dat _) .nil, ⟨c, rfl, rfl⟩, hp⟩ hl S'
theorem call_cells_by (h : EA H0 ts δ ω fun bs ω1 => ∃ a ns k, bs = [.raw (.ref a), .dat (.int k)] ∧ SqL K H0 a (ns.map V.int) ∧ ns.length ≤ 63 ∧ P (.dat (dI (cellsBy ns k))) ω1) : EG H0 (tCall (sp_l_cells_by K C) [] E ts) δ ω P :=
  eg_callS fun σ H vs as S Q q => h σ H vs as S Q fun bs ω' us H' ⟨a, ns, k, e, hS, hk, hp⟩ hl S' => q bs ω' us H' ⟨a, [.dat (.int k)], ns, [.int k], _, e, hS, .cons (.dat _) .nil, ⟨k, rfl, hk, rfl⟩, hp⟩ hl S'
theorem call_whole (h : EA H0 ts δ ω fun bs ω1 => ∃ d, RdA ω1 bs [d] ∧ (∀ kv, d ≠ .dict kv) ∧ P (.dat (.bool (isInt d))) ω1) : EG H0 (tCall (sp_l_whole K C) [] E ts) δ ω P :=
  eg_call fun σ H vs as S Q q => h σ H vs as S Q fun bs ω' us H' ⟨c, e, hd, hp⟩ hl S' => q bs ω' us H' ⟨_, _, e, ⟨c, rfl, hd, rfl⟩, hp⟩ hl S'
theorem call_letters (h : EA H0 ts δ ω fun bs ω1 => ∃ hands rows, RdA ω1 bs [.int hands, dRows rows] ∧ (∀ e, lettersM hands rows = .error e → ∀ H', Same H0 H' → E (.ref (C e)) none H') ∧ (∀ f, lettersM hands rows = .ok f → P (.dat (dLets f)) ω1)) : EG H0 (tCall (sp_letters K C) [] E ts) δ ω P :=
  eg_call fun σ H vs as S Q q => h σ H vs as S Q fun bs ω' us H' ⟨n, x, hr, h1, h2⟩ hl S' => q bs ω' us H' ⟨_, _, hr, ⟨n, x, rfl, rfl⟩, by
    cases e : lettersM n x with
    | ok f => exact h2 f e
    | error e' => exact h1 e' e⟩ hl S'
end
end Y

namespace Y
open PySem PySem.Spec L2
local macro_rules | `(tactic| walk_at "y1") => `(tactic| first
  | (fail_if_success (with_reducible show SX _ (tSeq (tIfS _ _ _) _) _ _ _)); (with_reducible refine sx_seq ?_)
  | with_reducible refine sx_asg ?_
  | with_reducible refine sx_if ?_
  | with_reducible refine sx_ret ?_
  | with_reducible refine sx_retN ?_
  | with_reducible refine sx_next ?_
  | with_reducible refine sx_app ?_
  | with_reducible refine sx_clear ?_
  | with_reducible refine sx_setL ?_
  | with_reducible refine sx_dput ?_
  | with_reducible refine sx_drop ?_
  | with_reducible refine eg_var (by with_unfolding_all rfl) ?_
  | with_reducible refine eg_int ?_
  | with_reducible refine eg_bl ?_
  | with_reducible refine eg_str ?_
  | with_reducible refine eg_non ?_
  | with_reducible refine eg_raw ?_
  | with_reducible refine eg_op ?_
  | with_reducible refine eg_cb ?_
  | with_reducible refine eg_tup ?_
  | with_reducible refine eg_isN ?_
  | with_reducible refine eg_notN ?_
  | with_reducible refine eg_and ?_
  | with_reducible refine eg_or ?_
  | with_reducible refine eg_not ?_
  | with_reducible refine eg_dnew ?_
  | with_reducible refine eg_dget ?_
  | with_reducible refine eg_dnotin ?_
  | with_reducible refine eg_un ?_
  | with_reducible refine eg_partsNot ?_
  | with_reducible refine eg_partsIx ?_
  | with_reducible refine et_test ?_
  | with_reducible refine et_B ?_
  | with_reducible refine et_not ?_
  | with_reducible refine et_and ?_
  | with_reducible refine et_or ?_
  | with_reducible refine et_yes ?_
  | with_reducible refine ea_nil ?_
  | with_reducible refine ea_cons ?_
  | with_reducible refine el_lst ?_
  | with_reducible refine el_slL ?_
  | with_reducible refine el_op ?_
  | with_reducible refine el_cb ?_
  | with_reducible refine el_lstRev ?_
  | with_reducible refine el_rng ?_
  | with_reducible refine eo_none ?_
  | with_reducible refine eo_some ?_
  | with_reducible refine sr_list ?_
  | with_reducible refine sr_rng ?_
  | with_reducible refine sr_enum ?_
  | with_reducible refine eb_add ?_
  | with_reducible refine eb_sub ?_
  | with_reducible refine eb_fdivL (by decide) (by decide) ?_
  | with_reducible refine eb_mulL (by decide) (by decide) ?_
  | with_reducible refine eb_mulR (by decide) (by decide) ?_
  | with_reducible refine eb_powL (by decide) (by decide) (by decide) ?_
  | with_reducible refine eb_mod (by decide) ?_
  | with_reducible refine eb_lt ?_
  | with_reducible refine eb_le ?_
  | with_reducible refine eb_gt ?_
  | with_reducible refine eb_ge ?_
  | with_reducible refine eb_eqI ?_
  | with_reducible refine eb_neI ?_
  | with_reducible refine eb_eqB ?_)
local macro_rules | `(tactic| walk_at "y1") => `(tactic| first
  | with_reducible refine call_cell ?_
  | with_reducible refine Exists.intro _ (Exists.intro _ (Exists.intro _ (And.intro (Eq.refl [A.raw (V.ref _), A.dat (PyData.int _)]) (And.intro (by assumption) (And.intro (by first | decide | omega) ?_))))))
local macro_rules | `(tactic| walk_at "y") => `(tactic| (repeat' (walk_at "y1")))
local macro_rules | `(tactic| walk_at "yi") => `(tactic| ((repeat' (walk_at "y1")); (with_reducible refine sx_seq ?_); (repeat' (walk_at "y1"))))


/-! ### _law_rows_by -/
structure RB where
  rows : List Row
  sent : List Int
  waits : List Int
def rbStep (hands : Int) (st : RB) (c : Int) : RB :=
  if 5 < c % 8 then { st with rows := st.rows ++ [.note (c / 8 % hands)] }
  else if 2 < c % 8 ∧ st.waits ≠ [] then
    let l := st.waits.getD (c / 8 % (st.waits.length : Int)).toNat 0
    { st with rows := st.rows ++ [.got (st.sent.getD l.toNat 0) l], waits := st.waits.filter fun x => decide (x ≠ l) }
  else { rows := st.rows ++ [.send (c / 8 % hands) (c / 8 / hands % hands)], sent := st.sent ++ [c / 8 / hands % hands], waits := st.waits ++ [(st.sent.length : Int)] }
def rbGo (hands : Int) (cells : List Int) : RB := cells.foldl (rbStep hands) ⟨[], [], []⟩
def rowsBy (cells : List Int) (hands : Int) : List Row := (rbGo hands cells).rows
theorem rbGo_snoc (hands : Int) (cells : List Int) (c : Int) : rbGo hands (cells ++ [c]) = rbStep hands (rbGo hands cells) c := by
  unfold rbGo; rw [List.foldl_append]; rfl
/-- what holds of what is built -/
structure RBok (st : RB) (n : Nat) : Prop where
  len : st.rows.length = n
  sl : st.sent.length ≤ n
  wl : st.waits.length ≤ n
  w : ∀ x ∈ st.waits, 0 ≤ x ∧ x < (st.sent.length : Int)
theorem rb_ok (hands : Int) : ∀ (cells : List Int), RBok (rbGo hands cells) cells.length := by
  intro cells
  have : ∀ n (l : List Int), l.length = n → RBok (rbGo hands l) n := by
    intro n
    induction n with
    | zero => intro l hl; cases l with
      | nil => exact ⟨rfl, Nat.le_refl _, Nat.le_refl _, fun x hx => by cases hx⟩
      | cons => simp at hl
    | succ n ih =>
      intro l hl
      have hne : l ≠ [] := fun e => by subst e; simp at hl
      obtain ⟨c, hc⟩ : ∃ c, l.getLast? = some c := ⟨_, List.getLast?_eq_some_getLast hne⟩
      have e : l = l.dropLast ++ [l.getLast hne] := (List.dropLast_concat_getLast hne).symm
      rw [e, rbGo_snoc]
      have ok := ih l.dropLast (by rw [List.length_dropLast]; omega)
      generalize rbGo hands l.dropLast = st at ok
      generalize l.getLast hne = c
      obtain ⟨h1, h2, h3, h4⟩ := ok
      unfold rbStep
      split
      · exact ⟨by simp [h1], by simp; omega, by simp; omega, h4⟩
      · split
        · refine ⟨by simp [h1], by simp; omega, ?_, fun x hx => h4 x (List.mem_filter.mp hx).1⟩
          have := List.length_filter_le (fun x => decide (x ≠ st.waits.getD (c / 8 % (st.waits.length : Int)).toNat 0)) st.waits
          simp only at this ⊢
          omega
        · refine ⟨by simp [h1], by simp; omega, by simp; omega, fun x hx => ?_⟩
          simp only at hx ⊢
          rw [List.length_append, List.length_singleton]
          rcases List.mem_append.mp hx with hx | hx
          · have := h4 x hx; omega
          · simp at hx; omega
  exact this _ cells rfl
abbrev lRows (rows : List Row) : Ob := .lst (rows.map fun r => .dat (dRow r))
abbrev lInts (ns : List Int) : Ob := .lst (ns.map fun n => .dat (.int n))
theorem lRows_snoc (rows : List Row) (r : Row) (d : PyData) (e : d = dRow r) : (some (Ob.lst (rows.map (fun r => A.dat (dRow r)) ++ [.dat d])) : Option Ob) = some (lRows (rows ++ [r])) := by
  rw [e]; show _ = some (Ob.lst (List.map _ _)); rw [List.map_append]; rfl
theorem lInts_snoc (ns : List Int) (n : Int) : (some (Ob.lst (ns.map (fun r => A.dat (.int r)) ++ [.dat (.int n)])) : Option Ob) = some (lInts (ns ++ [n])) := by
  show _ = some (Ob.lst (List.map _ _)); rw [List.map_append]; rfl
def R_l_rows_by (ds : List PyData) (r : Res Er) : Prop := ∃ (cells : List Int) (hands : Int), ds = [dI cells, .int hands] ∧ 1 ≤ hands ∧ hands ≤ 40 ∧ cells.length ≤ 100000 ∧ r = .ok (dRows (rowsBy cells hands))
abbrev sp_l_rows_by (K : PySem.W.Frag) (C : Er → Addr) : Sp := Pr C R_l_rows_by
theorem len_l_rows_by {ds : List PyData} {r : Res Er} (h : R_l_rows_by ds r) : ds.length = 2 := by
  obtain ⟨f, x, rfl, _⟩ := h; rfl
theorem fin_rows {ω : Om} {k : Nat} {f : List Row} (h : ω[k]? = some (lRows f)) : Fin ω (.ptr k) (dRows f) := by
  refine .ptr h ?_
  have := FinA.dats (ω := ω) (f.map dRow)
  rw [List.map_map] at this
  exact this
theorem wk_l_rows_by (K : PySem.W.Frag) (C : Er → Addr) (H : Hp) (ds : List PyData) (r : Res Er) (h : R_l_rows_by ds r) : SX H (t_l_rows_by K) (entry ds 8) [] (HandR r) := by
  obtain ⟨cells, hands, rfl, hh0, hh1, hz, rfl⟩ := h
  show SX H (t_l_rows_by K) [some (.arg (dI cells)), some (.dat (.int hands)), none, none, none, none, none, none, none, none] [] _
  unfold t_l_rows_by
  walk_at "y"
  refine el_own (el_lst ?_)
  walk_at "y"
  refine ⟨szOk (by decide), ?_⟩
  walk_at "y"
  refine el_own (el_lst ?_)
  walk_at "y"
  refine ⟨szOk (by decide), ?_⟩
  walk_at "y"
  refine el_own (el_lst ?_)
  walk_at "y"
  refine ⟨szOk (by decide), ?_⟩
  walk_at "y"
  refine sx_forP (xs := cells) (it := fun _ c => .dat (.int c)) (fun pre δ ω => ∃ k a b c d, δ = [some (.arg (dI cells)), some (.dat (.int hands)), some (.ptr 0), some (.ptr 1), some (.ptr k), a, b, c, d, none] ∧ 2 ≤ k ∧ ω[0]? = some (lRows (rbGo hands pre).rows) ∧ ω[1]? = some (lInts (rbGo hands pre).sent) ∧ ω[k]? = some (lInts (rbGo hands pre).waits)) ?_ ?_ ?_
  · walk_at "y"
    refine ⟨_, itm_aI cells, map_idx _ _, ⟨2, _, _, _, _, rfl, Nat.le_refl _, rfl, rfl, rfl⟩, ?_⟩
    rintro pre δ ω _
    exact itm_aI cells
  · rintro pre x post δ ω e ⟨k, a, b, c, d, rfl, hk, h0, h1, h2⟩
    refine ⟨_, gx_name, ?_⟩
    have hpl : pre.length < cells.length := by rw [e]; simp
    obtain ⟨g1, g2, g3, g4⟩ := rb_ok hands pre
    rw [rbGo_snoc]
    generalize rbGo hands pre = st at h0 h1 h2 g1 g2 g3 g4
    have k0 : k ≠ 0 := by omega
    have k1 : k ≠ 1 := by omega
    have l0 := (List.getElem?_eq_some_iff.mp h0).1
    have l1 := (List.getElem?_eq_some_iff.mp h1).1
    have l2 := (List.getElem?_eq_some_iff.mp h2).1
    walk_at "y"
    refine ⟨_, rfl, fun c1 => ?_, fun c1 => ?_⟩
    · have c1 := of_decide_eq_true c1
      walk_at "y"
      refine ⟨0, _, rfl, h0, ?_⟩
      walk_at "y"
      refine eb_mod (by omega) ?_
      walk_at "y"
      refine ⟨[.str wNote, .int (x / 8 % hands)], rfl, szOk (show 2 ≤ 16777216 by decide), ?_⟩
      walk_at "y"
      refine ⟨_, _, rfl, h0, szLt (by rw [List.length_map]; omega), k, _, _, _, _, rfl, hk, ?_, ?_, ?_⟩
      · rw [List.getElem?_set_self l0]
        unfold rbStep
        rw [if_pos c1]
        exact lRows_snoc _ _ _ rfl
      · rw [List.getElem?_set_ne (by decide), h1]
        unfold rbStep
        rw [if_pos c1]
      · rw [List.getElem?_set_ne (fun z => k0 z.symm), h2]
        unfold rbStep
        rw [if_pos c1]
    have c1 := of_decide_eq_false c1
    walk_at "y"
    -- is there one to get?
    have send : SX H (tSeq (tDrop (tBM K "list" rAppend (tVar 2) (tCons (tTup (tCons (tC (.str (PySem.Str.ofString "send"))) (tCons (tOp rModU (tVar 7) (tVar 1)) (tCons (tOp rModU (tOp rFdivU (tVar 7) (tVar 1)) (tVar 1)) tNil)))) tNil))) (tSeq (tDrop (tBM K "list" rAppend (tVar 4) (tCons (tCB (rLenU K) (tCons (tVar 3) tNil)) tNil))) (tDrop (tBM K "list" rAppend (tVar 3) (tCons (tOp rModU (tOp rFdivU (tVar 7) (tVar 1)) (tVar 1)) tNil)))))
        [some (.arg (dI cells)), some (.dat (.int hands)), some (.ptr 0), some (.ptr 1), some (.ptr k), some (.dat (.int x)), some (.dat (.int (x % 8))), some (.dat (.int (x / 8))), d, none] ω
        { nx := fun δ ω => ∃ k a b c d, δ = [some (.arg (dI cells)), some (.dat (.int hands)), some (.ptr 0), some (.ptr 1), some (.ptr k), a, b, c, d, none] ∧ 2 ≤ k ∧ ω[0]? = some (lRows (st.rows ++ [.send (x / 8 % hands) (x / 8 / hands % hands)])) ∧ ω[1]? = some (lInts (st.sent ++ [x / 8 / hands % hands])) ∧ ω[k]? = some (lInts (st.waits ++ [(st.sent.length : Int)])), rt := fun _ _ => False } := by
      walk_at "y"
      refine ⟨0, _, rfl, h0, ?_⟩
      walk_at "y"
      refine eb_mod (by omega) ?_
      walk_at "y"
      refine eb_fdivL (by omega) (by omega) ?_
      walk_at "y"
      refine eb_mod (by omega) ?_
      walk_at "y"
      refine ⟨[.str wSend, .int (x / 8 % hands), .int (x / 8 / hands % hands)], rfl, szOk (show 3 ≤ 16777216 by decide), ?_⟩
      walk_at "y"
      refine ⟨_, _, rfl, h0, szLt (by rw [List.length_map]; omega), ?_⟩
      walk_at "y"
      refine ⟨k, _, rfl, by rw [List.getElem?_set_ne (fun z => k0 z.symm)]; exact h2, ?_⟩
      walk_at "y"
      refine ec_len (.ptr (by rw [List.getElem?_set_ne (by decide)]; exact h1)) ?_
      walk_at "y"
      refine ⟨_, _, rfl, by rw [List.getElem?_set_ne (fun z => k0 z.symm)]; exact h2, szLt (by rw [List.length_map]; omega), ?_⟩
      walk_at "y"
      refine ⟨1, _, rfl, by rw [List.getElem?_set_ne k1, List.getElem?_set_ne (by decide)]; exact h1, ?_⟩
      walk_at "y"
      refine eb_fdivL (by omega) (by omega) ?_
      walk_at "y"
      refine eb_mod (by omega) ?_
      walk_at "y"
      refine ⟨_, _, rfl, by rw [List.getElem?_set_ne k1, List.getElem?_set_ne (by decide)]; exact h1, szLt (by rw [List.length_map]; omega), ?_⟩
      refine ⟨k, _, _, _, _, rfl, hk, ?_, ?_, ?_⟩
      · rw [List.getElem?_set_ne (by decide), List.getElem?_set_ne k0, List.getElem?_set_self l0]
        exact lRows_snoc _ _ _ rfl
      · rw [List.getElem?_set_self (by simpa using l1)]
        exact lInts_snoc _ _
      · rw [List.getElem?_set_ne (fun z => k1 z.symm), List.getElem?_set_self (by simpa using l2)]
        rw [List.length_map]
        exact lInts_snoc _ _
    have send' : ∀ (P : Post), P.nx = (fun δ ω => ∃ k a b c d, δ = [some (.arg (dI cells)), some (.dat (.int hands)), some (.ptr 0), some (.ptr 1), some (.ptr k), a, b, c, d, none] ∧ 2 ≤ k ∧ ω[0]? = some (lRows (rbStep hands st x).rows) ∧ ω[1]? = some (lInts (rbStep hands st x).sent) ∧ ω[k]? = some (lInts (rbStep hands st x).waits)) → ¬ (2 < x % 8 ∧ st.waits ≠ []) → SX H (tSeq (tDrop (tBM K "list" rAppend (tVar 2) (tCons (tTup (tCons (tC (.str (PySem.Str.ofString "send"))) (tCons (tOp rModU (tVar 7) (tVar 1)) (tCons (tOp rModU (tOp rFdivU (tVar 7) (tVar 1)) (tVar 1)) tNil)))) tNil))) (tSeq (tDrop (tBM K "list" rAppend (tVar 4) (tCons (tCB (rLenU K) (tCons (tVar 3) tNil)) tNil))) (tDrop (tBM K "list" rAppend (tVar 3) (tCons (tOp rModU (tOp rFdivU (tVar 7) (tVar 1)) (tVar 1)) tNil)))))
        [some (.arg (dI cells)), some (.dat (.int hands)), some (.ptr 0), some (.ptr 1), some (.ptr k), some (.dat (.int x)), some (.dat (.int (x % 8))), some (.dat (.int (x / 8))), d, none] ω P := fun P hP hno σ H' vs as S D cv => send σ H' vs as S D ⟨fun δ ω σ' H'' h S' => cv.nx δ ω σ' H'' (by
          rw [hP]
          unfold rbStep
          rw [if_neg c1, if_neg hno]
          exact h) S', fun _ _ _ _ _ _ z _ => z.elim, fun _ _ _ _ z _ => z.elim, fun _ _ _ _ z _ => z.elim⟩
    refine ⟨_, rfl, ?_⟩
    split
    · rename_i c2
      have c2 := of_decide_eq_true c2
      walk_at "y"
      refine el_dat (el_lst ?_)
      walk_at "y"
      refine ⟨szOk (by decide), [], rfl, ?_⟩
      refine eb_neD (d := dI st.waits) (e := dI []) (rd_dI h2) (.dat _) (shaped_ints _) (shaped_ints _) ?_
      rw [eqv_dI]
      refine ⟨_, rfl, fun c3 => ?_, fun c3 => ?_⟩
      · have c3 : st.waits ≠ [] := by simpa using c3
        have hwl : 0 < st.waits.length := List.length_pos_iff.mpr c3
        have q1 : 0 ≤ x / 8 % (st.waits.length : Int) := Int.emod_nonneg _ (by omega)
        have q2 : x / 8 % (st.waits.length : Int) < st.waits.length := Int.emod_lt_of_pos _ (by omega)
        obtain ⟨l, hl⟩ : ∃ l, st.waits[(x / 8 % (st.waits.length : Int)).toNat]? = some l := ⟨_, List.getElem?_eq_getElem (by omega)⟩
        have hlD : st.waits.getD (x / 8 % (st.waits.length : Int)).toNat 0 = l := by rw [List.getD_eq_getElem?_getD, hl]; rfl
        have hl2 := g4 l (List.mem_of_getElem? hl)
        obtain ⟨t, ht⟩ : ∃ t, st.sent[l.toNat]? = some t := ⟨_, List.getElem?_eq_getElem (by omega)⟩
        have htD : st.sent.getD l.toNat 0 = t := by rw [List.getD_eq_getElem?_getD, ht]; rfl
        have estep : rbStep hands st x = { st with rows := st.rows ++ [.got t l], waits := st.waits.filter fun y => decide (y ≠ l) } := by
          unfold rbStep
          rw [if_neg c1, if_pos ⟨c2, c3⟩]
          simp only [hlD, htD]
        walk_at "y"
        refine ec_len (.ptr h2) ?_
        rw [List.length_map]
        refine eb_mod (by omega) ?_
        refine eb_ixUL (.ptr h2) (c := .dat (.int l)) (at_nat q1 (by rw [List.getElem?_map, hl]; rfl)) ?_
        walk_at "y"
        refine el_own (el_lcL (K := K) st.waits (fun n => .dat (.int n)) (by omega) (fun y => decide (y ≠ l)) (fun y => .int y) ?_ ?_ ?_)
        · walk_at "y"
          exact ⟨rfl, .ptr h2, fun acc => .ptr (by rw [List.getElem?_append_left l2]; exact h2)⟩
        · rintro y hy ω' ⟨acc, rfl⟩
          refine ⟨?_, fun _ => ?_⟩
          · walk_at "y"
            refine ⟨_, rfl, ?_, rfl⟩
            simp
          · walk_at "y"
            exact ⟨rfl, rfl⟩
        walk_at "y"
        have a0 : (ω ++ [Ob.lst (((st.waits.filter fun y => decide (y ≠ l)).map PyData.int).map A.dat)])[0]? = some (lRows st.rows) := by rw [List.getElem?_append_left l0]; exact h0
        have a1 : (ω ++ [Ob.lst (((st.waits.filter fun y => decide (y ≠ l)).map PyData.int).map A.dat)])[1]? = some (lInts st.sent) := by rw [List.getElem?_append_left l1]; exact h1
        refine ⟨0, _, rfl, a0, ?_⟩
        walk_at "y"
        refine eb_ixUL (.ptr a1) (c := .dat (.int t)) (at_nat hl2.1 (by rw [List.getElem?_map, ht]; rfl)) ?_
        walk_at "y"
        refine ⟨[.str wGot, .int t, .int l], rfl, szOk (show 3 ≤ 16777216 by decide), ?_⟩
        walk_at "y"
        refine ⟨_, _, rfl, a0, szLt (by rw [List.length_map]; omega), ω.length, _, _, _, _, rfl, by omega, ?_, ?_, ?_⟩
        · rw [List.getElem?_set_self (by simp), estep]
          exact lRows_snoc _ _ _ rfl
        · rw [List.getElem?_set_ne (by decide), a1, estep]
        · rw [List.getElem?_set_ne (by omega), estep]
          simp [List.map_map]
      · have c3 : st.waits = [] := by simpa using c3
        exact send' _ rfl (fun z => z.2 c3)
    · rename_i c2
      have c2 : ¬ 2 < x % 8 := by simpa using c2
      exact ⟨fun z => (nomatch z), fun _ => send' _ rfl (fun z => c2 z.1)⟩
  · rintro δ ω ⟨k, a, b, c, d, rfl, hk, h0, _, _⟩
    walk_at "y"
    exact fin_rows h0
end Y

/-! Mr2: good histories: plain Lean. -/
namespace Y
open PySem PySem.Spec L2

theorem isW_send : isWord wSend = true := by decide +kernel
theorem isW_got : isWord wGot = true := by decide +kernel
theorem isW_note : isWord wNote = true := by decide +kernel
theorem po_send : partsOf wSend = 3 := by decide +kernel
theorem po_got : partsOf wGot = 3 := by decide +kernel
theorem po_note : partsOf wNote = 2 := by decide +kernel
theorem needRow_send (h t : Int) : needRow (.send h t) = none := by simp [needRow, isW_send, po_send]
theorem needRow_got (h t : Int) : needRow (.got h t) = none := by simp [needRow, isW_got, po_got]
theorem needRow_note (h : Int) : needRow (.note h) = none := by simp [needRow, isW_note, po_note]
theorem needHand_ok {hands h : Int} : needHand hands h = none ↔ 0 ≤ h ∧ h < hands := by
  unfold needHand
  constructor
  · intro e
    split at e
    · cases e
    · omega
  · intro e
    rw [if_neg (by omega)]
theorem needLetter_ok {f : List Let} {h l : Int} : needLetter f h l = none ↔ 0 ≤ l ∧ ∃ y, f[l.toNat]? = some y ∧ y.t = h ∧ y.g = none := by
  unfold needLetter
  constructor
  · intro e
    split at e
    · cases e
    · rename_i h1
      refine ⟨by omega, ?_⟩
      split at e
      · cases e
      · rename_i y hy
        split at e
        · rename_i ht
          split at e
          · rename_i hg
            exact ⟨y, hy, ht, hg⟩
          · cases e
        · cases e
  · rintro ⟨h0, y, hy, ht, hg⟩
    have := (List.getElem?_eq_some_iff.mp hy).1
    rw [if_neg (by omega), hy]
    simp only [ht, hg, if_true]
theorem stepL_send {hands h t : Int} {k : Nat} {f : List Let} (h1 : 0 ≤ h ∧ h < hands) (h2 : 0 ≤ t ∧ t < hands) : stepL hands k f (.send h t) = .ok (f ++ [⟨h, t, k, none⟩]) := by
  have a := needHand_ok.mpr h1
  have b := needHand_ok.mpr h2
  unfold stepL
  rw [needRow_send]
  simp only [List.getD_cons_zero, List.getD_cons_succ, a, b, if_true]
theorem stepL_got {hands h l : Int} {k : Nat} {f : List Let} (h1 : 0 ≤ h ∧ h < hands) (h2 : 0 ≤ l) {y : Let} (hy : f[l.toNat]? = some y) (ht : y.t = h) (hg : y.g = none) : stepL hands k f (.got h l) = .ok (f.set l.toNat { y with g := some k }) := by
  have a := needHand_ok.mpr h1
  have b := needLetter_ok.mpr ⟨h2, y, hy, ht, hg⟩
  unfold stepL
  rw [needRow_got]
  simp only [List.getD_cons_zero, List.getD_cons_succ, a, b, if_true]
  rw [if_neg ne_gs, modify_set hy]
theorem stepL_note {hands h : Int} {k : Nat} {f : List Let} (h1 : 0 ≤ h ∧ h < hands) : stepL hands k f (.note h) = .ok f := by
  have a := needHand_ok.mpr h1
  unfold stepL
  rw [needRow_note]
  simp only [List.getD_cons_zero, a]
  rw [if_neg ne_ns, if_neg ne_ng]
/-- the other way: what a row that goes well is -/
inductive StepOk (hands : Int) (k : Nat) (f : List Let) : Row → List Let → Prop
  | send {h t : Int} (h1 : 0 ≤ h ∧ h < hands) (h2 : 0 ≤ t ∧ t < hands) : StepOk hands k f (.send h t) (f ++ [⟨h, t, k, none⟩])
  | got {h : Int} {l : Nat} {y : Let} (h1 : 0 ≤ h ∧ h < hands) (hy : f[l]? = some y) (ht : y.t = h) (hg : y.g = none) : StepOk hands k f (.got h (l : Int)) (f.set l { y with g := some k })
  | note {h : Int} (h1 : 0 ≤ h ∧ h < hands) : StepOk hands k f (.note h) f
theorem stepOk_of {hands : Int} {k : Nat} {f f' : List Let} {r : Row} (h : stepL hands k f r = .ok f') : StepOk hands k f r f' := by
  have hrow : needRow r = none := by
    unfold stepL at h
    cases e : needRow r with
    | none => rfl
    | some e' => rw [e] at h; cases h
  obtain ⟨w, ns, rfl, hw, hp⟩ := row_word hrow
  have hw3 : w = wSend ∨ w = wGot ∨ w = wNote := by simpa [isWord, or_assoc] using hw
  have two : ∀ {a : List Int}, (a.length : Int) + 1 = 3 → ∃ x y, a = [x, y] := by
    intro a ha
    match a, ha with
    | [x, y], _ => exact ⟨x, y, rfl⟩
    | [], ha => simp at ha
    | [x], ha => simp at ha
    | x :: y :: z :: a, ha => simp only [List.length_cons] at ha; omega
  rcases hw3 with rfl | rfl | rfl
  · rw [po_send] at hp
    obtain ⟨x, y, rfl⟩ := two hp
    cases e1 : needHand hands x with
    | some e => simp [stepL, hrow, e1] at h
    | none =>
      cases e2 : needHand hands y with
      | some e => simp [stepL, hrow, e1, e2] at h
      | none =>
        have a := needHand_ok.mp e1
        have b := needHand_ok.mp e2
        have h3 := stepL_send (k := k) (f := f) a b
        rw [show stepL hands k f (.mk wSend [x, y]) = _ from h3] at h
        cases h
        exact .send a b
  · rw [po_got] at hp
    obtain ⟨x, y, rfl⟩ := two hp
    cases e1 : needHand hands x with
    | some e => simp [stepL, hrow, e1] at h
    | none =>
      cases e2 : needLetter f x y with
      | some e => simp [stepL, hrow, e1, e2, ne_gs] at h
      | none =>
        have a := needHand_ok.mp e1
        obtain ⟨b, z, hz, ht, hg⟩ := needLetter_ok.mp e2
        have h3 := stepL_got (k := k) (f := f) a b hz ht hg
        rw [show stepL hands k f (.mk wGot [x, y]) = _ from h3] at h
        cases h
        have := StepOk.got (k := k) (l := y.toNat) a hz ht hg
        rw [show ((y.toNat : Nat) : Int) = y by omega] at this
        exact this
  · rw [po_note] at hp
    obtain ⟨x, rfl⟩ : ∃ x, ns = [x] := by
      match ns, hp with
      | [x], _ => exact ⟨x, rfl⟩
      | [], ha => simp at ha
      | x :: y :: a, ha => simp only [List.length_cons] at ha; omega
    cases e1 : needHand hands x with
    | some e => simp [stepL, hrow, e1] at h
    | none =>
      have a := needHand_ok.mp e1
      have h3 := stepL_note (k := k) (f := f) a
      rw [show stepL hands k f (.mk wNote [x]) = _ from h3] at h
      cases h
      exact .note a
theorem goL_split {hands : Int} {a b : List Row} {f0 f : List Let} {k : Nat} (h : goL hands k f0 (a ++ b) = .ok f) : ∃ f1, goL hands k f0 a = .ok f1 ∧ goL hands (k + a.length) f1 b = .ok f := by
  rw [goL_append] at h
  cases e : goL hands k f0 a with
  | error e' => rw [e] at h; cases h
  | ok f1 => rw [e] at h; exact ⟨f1, rfl, h⟩
/-- the letters up to a place, and the row there -/
theorem goL_at {hands : Int} {rows : List Row} {f : List Let} (h : goL hands 0 [] rows = .ok f) {k : Nat} {r : Row} (hk : rows[k]? = some r) : ∃ f1 f2, goL hands 0 [] (rows.take k) = .ok f1 ∧ StepOk hands k f1 r f2 ∧ goL hands 0 [] (rows.take (k + 1)) = .ok f2 := by
  obtain ⟨hl, hr⟩ := List.getElem?_eq_some_iff.mp hk
  have e : rows = rows.take (k + 1) ++ rows.drop (k + 1) := (List.take_append_drop _ _).symm
  rw [e] at h
  obtain ⟨f2, h2, _⟩ := goL_split h
  have e2 : rows.take (k + 1) = rows.take k ++ [r] := by rw [List.take_add_one, hk]; rfl
  have h2' := h2
  rw [e2] at h2'
  obtain ⟨f1, h1, h3⟩ := goL_split h2'
  refine ⟨f1, f2, h1, ?_, h2⟩
  rw [List.length_take, Nat.zero_add, Nat.min_eq_left (by omega)] at h3
  simp only [goL] at h3
  cases es : stepL hands k f1 r with
  | error e' => rw [es] at h3; cases h3
  | ok f' => rw [es] at h3; cases h3; exact stepOk_of es
theorem range_mid {n : Nat} {pre post : List Nat} {x : Nat} (e : List.range n = pre ++ x :: post) : x = pre.length ∧ pre.length < n := by
  have h := mid_get e
  obtain ⟨h1, h2⟩ := List.getElem?_eq_some_iff.mp h
  rw [List.length_range] at h1
  rw [List.getElem_range] at h2
  exact ⟨h2.symm, h1⟩
theorem range_done {n : Nat} : (List.range n).length = n := List.length_range

/-! ### the built history is good -/
theorem snoc_ind {P : List Int → Prop} (h0 : P []) (hs : ∀ l c, P l → P (l ++ [c])) : ∀ l, P l := by
  have : ∀ n (l : List Int), l.length = n → P l := by
    intro n
    induction n with
    | zero => intro l hl; cases l with
      | nil => exact h0
      | cons => simp at hl
    | succ n ih =>
      intro l hl
      have hne : l ≠ [] := fun e => by subst e; simp at hl
      rw [(List.dropLast_concat_getLast hne).symm]
      exact hs _ _ (ih l.dropLast (by rw [List.length_dropLast]; omega))
  exact fun l => this _ l rfl
structure RBgood (hands : Int) (st : RB) (f : List Let) : Prop where
  go : goL hands 0 [] st.rows = .ok f
  sent : f.map Let.t = st.sent
  wait : ∀ x ∈ st.waits, ∃ y, f[x.toNat]? = some y ∧ y.g = none
  rng : ∀ y ∈ f, 0 ≤ y.t ∧ y.t < hands
theorem rb_good {hands : Int} (hh : 1 ≤ hands) : ∀ cells : List Int, ∃ f, RBgood hands (rbGo hands cells) f := by
  refine snoc_ind ⟨[], rfl, rfl, fun x hx => (by cases hx), fun y hy => (by cases hy)⟩ fun l c ⟨f, hf⟩ => ?_
  have ok := rb_ok hands l
  rw [rbGo_snoc]
  generalize rbGo hands l = st at hf ok
  obtain ⟨hgo, hsent, hwait, hrng⟩ := hf
  have hm : ∀ z : Int, 0 ≤ z % hands ∧ z % hands < hands := fun z => ⟨Int.emod_nonneg _ (by omega), Int.emod_lt_of_pos _ (by omega)⟩
  have hlen : f.length = st.sent.length := by rw [← hsent, List.length_map]
  unfold rbStep
  split
  · refine ⟨f, ?_, hsent, hwait, hrng⟩
    simp only
    rw [goL_snoc _ _ _ _ _ _ hgo]
    exact stepL_note (hm _)
  split
  · rename_i h1
    have hwl : 0 < st.waits.length := List.length_pos_iff.mpr h1.2
    have q1 : 0 ≤ c / 8 % (st.waits.length : Int) := Int.emod_nonneg _ (by omega)
    have q2 : c / 8 % (st.waits.length : Int) < st.waits.length := Int.emod_lt_of_pos _ (by omega)
    obtain ⟨v, hv⟩ : ∃ l, st.waits[(c / 8 % (st.waits.length : Int)).toNat]? = some l := ⟨_, List.getElem?_eq_getElem (by omega)⟩
    have hvD : st.waits.getD (c / 8 % (st.waits.length : Int)).toNat 0 = v := by rw [List.getD_eq_getElem?_getD, hv]; rfl
    have hvm := List.mem_of_getElem? hv
    obtain ⟨y, hy, hg⟩ := hwait v hvm
    have hv2 := ok.w v hvm
    have ht : st.sent.getD v.toNat 0 = y.t := by rw [← hsent, List.getD_eq_getElem?_getD, List.getElem?_map, hy]; rfl
    simp only [hvD, ht]
    refine ⟨f.set v.toNat { y with g := some (0 + st.rows.length) }, ?_, ?_, ?_, ?_⟩
    · rw [goL_snoc _ _ _ _ _ _ hgo]
      exact stepL_got (hrng y (List.mem_of_getElem? hy)) hv2.1 hy rfl hg
    · rw [List.map_set, hsent]
      apply List.ext_getElem?
      intro j
      rw [List.getElem?_set]
      split
      · rename_i e
        subst e
        rw [← hsent, List.getElem?_map, hy, List.length_map, if_pos (List.getElem?_eq_some_iff.mp hy).1]
        rfl
      · rfl
    · intro x hx
      simp only at hx
      obtain ⟨hx1, hx2⟩ := List.mem_filter.mp hx
      have hx2 := of_decide_eq_true hx2
      obtain ⟨z, hz, hzg⟩ := hwait x hx1
      have := ok.w x hx1
      exact ⟨z, by rw [List.getElem?_set_ne (by omega)]; exact hz, hzg⟩
    · intro z hz
      rcases List.mem_or_eq_of_mem_set hz with h | h
      · exact hrng z h
      · rw [h]; exact hrng y (List.mem_of_getElem? hy)
  · refine ⟨f ++ [⟨c / 8 % hands, c / 8 / hands % hands, 0 + st.rows.length, none⟩], ?_, ?_, ?_, ?_⟩
    · simp only
      rw [goL_snoc _ _ _ _ _ _ hgo]
      exact stepL_send (hm _) (hm _)
    · rw [List.map_append, hsent]; rfl
    · intro x hx
      simp only at hx
      rcases List.mem_append.mp hx with hx | hx
      · obtain ⟨z, hz, hzg⟩ := hwait x hx
        exact ⟨z, by rw [List.getElem?_append_left (List.getElem?_eq_some_iff.mp hz).1]; exact hz, hzg⟩
      · have hx : x = (st.sent.length : Int) := by simpa using hx
        subst hx
        refine ⟨⟨c / 8 % hands, c / 8 / hands % hands, 0 + st.rows.length, none⟩, ?_, rfl⟩
        rw [Int.toNat_natCast, ← hlen, List.getElem?_append_right (Nat.le_refl _), Nat.sub_self]
        rfl
    · intro z hz
      rcases List.mem_append.mp hz with h | h
      · exact hrng z h
      · rw [List.mem_singleton.mp h]; exact hm _
theorem good_rows {hands : Int} {cells : List Int} (h1 : 1 ≤ hands) (h2 : hands ≤ 40) (hc : cells.length ≤ 1000) : ∃ f, lettersM hands (rowsBy cells hands) = .ok f := by
  obtain ⟨f, hf⟩ := rb_good h1 cells
  have := (rb_ok hands cells).len
  refine ⟨f, ?_⟩
  unfold lettersM
  rw [if_neg (by omega), if_neg (by unfold rowsBy; omega)]
  exact hf.go
theorem lettersM_ok {hands : Int} {rows : List Row} {f : List Let} (h : lettersM hands rows = .ok f) : 1 ≤ hands ∧ hands ≤ 40 ∧ rows.length ≤ 1000 ∧ goL hands 0 [] rows = .ok f := by
  unfold lettersM at h
  split at h
  · cases h
  · split at h
    · cases h
    · exact ⟨by omega, by omega, by omega, h⟩
theorem goL_need {hands : Int} {rows : List Row} {f : List Let} (h : goL hands 0 [] rows = .ok f) : ∀ r ∈ rows, needRow r = none := by
  intro r hr
  obtain ⟨k, hk⟩ := List.getElem?_of_mem hr
  obtain ⟨f1, f2, _, hst, _⟩ := goL_at h hk
  cases hst with
  | send => exact needRow_send _ _
  | got => exact needRow_got _ _
  | note => exact needRow_note _
theorem lay_row {r : Row} (h : needRow r = none) : PyData.canLay0 (dRow r) = true ∧ PyData.depth (dRow r) ≤ 2 := by
  obtain ⟨w, ns, rfl, hw, _⟩ := row_word h
  have hs := sh_word hw
  have hs2 : (PyData.canLay0 (.str w) && decide (PyData.depth (.str w) ≤ 64)) = true := hs
  rw [Bool.and_eq_true] at hs2
  have hd := depth_ints ns
  constructor
  · simp only [dRow, PyData.canLay0, PyData.canLayAll0, Bool.and_eq_true]
    exact ⟨by simpa only [PyData.canLay0] using hs2.1, lay_ints ns⟩
  · simp only [dRow, PyData.depth, PyData.depthAll]
    omega
theorem lay_rows : ∀ {rows : List Row}, (∀ r ∈ rows, needRow r = none) → PyData.canLayAll0 (rows.map dRow) = true ∧ PyData.depthAll (rows.map dRow) ≤ 2
  | [], _ => ⟨by simp [PyData.canLayAll0], by simp [PyData.depthAll]⟩
  | r :: rows, h => by
    obtain ⟨a, b⟩ := lay_row (h r (by simp))
    obtain ⟨c, d⟩ := lay_rows (rows := rows) fun r hr => h r (by simp [hr])
    constructor
    · simp only [List.map_cons, PyData.canLayAll0, Bool.and_eq_true]; exact ⟨a, c⟩
    · simp only [List.map_cons, PyData.depthAll]; omega
theorem shaped_rows {rows : List Row} (h : ∀ r ∈ rows, needRow r = none) : SeqAt.shaped (dRows rows) = true := shaped_list (lay_rows h).1 (lay_rows h).2 (by decide)
theorem eqv_ints_refl (ns : List Int) : PyData.eqvAll (ns.map .int) (ns.map .int) = true := by rw [eqv_ints]; simp
theorem eqv_row_refl (r : Row) : PyData.eqv (dRow r) (dRow r) = true := by
  cases r with
  | emp => simp [dRow, PyData.eqv, PyData.eqvAll]
  | mk w ns => simp only [dRow, PyData.eqv, PyData.eqvAll, eqv_ints_refl, beq_self_eq_true, Bool.and_true]
theorem eqv_rows_refl (rows : List Row) : PyData.eqv (dRows rows) (dRows rows) = true := by
  simp only [PyData.eqv]
  induction rows with
  | nil => simp [PyData.eqvAll]
  | cons r rows ih => simp only [List.map_cons, PyData.eqvAll, eqv_row_refl, ih, Bool.and_true]
theorem rd_rows {ω : Om} {k : Nat} {rows : List Row} (h : ω[k]? = some (lRows rows)) : Rd ω (.ptr k) (dRows rows) := by
  refine .ptr h ?_
  have := RdA.dats (ω := ω) (rows.map dRow)
  rw [List.map_map] at this
  exact this
theorem itm_rowsD {K : PySem.W.Frag} {H0 : Hp} {ω : Om} (rows : List Row) : Itm K H0 ω (.dat (dRows rows)) (rows.map fun r => .dat (dRow r)) := by
  have := Itm.dat (K := K) (H0 := H0) (ω := ω) (rows.map dRow)
  rw [List.map_map] at this
  exact this
theorem itm_rows {K : PySem.W.Frag} {H0 : Hp} {ω : Om} (rows : List Row) : Itm K H0 ω (.arg (dRows rows)) (rows.map fun r => .dat (dRow r)) := by
  have := Itm.argT (K := K) (H0 := H0) (ω := ω) (rows.map dRow) (noLA_rows rows)
  rw [List.map_map] at this
  exact this
end Y

namespace Y
open PySem PySem.Spec L2
local macro_rules | `(tactic| walk_at "y1") => `(tactic| first
  | (fail_if_success (with_reducible show SX _ (tSeq (tIfS _ _ _) _) _ _ _)); (with_reducible refine sx_seq ?_)
  | with_reducible refine sx_asg ?_
  | with_reducible refine sx_if ?_
  | with_reducible refine sx_ret ?_
  | with_reducible refine sx_retN ?_
  | with_reducible refine sx_next ?_
  | with_reducible refine sx_app ?_
  | with_reducible refine sx_clear ?_
  | with_reducible refine sx_setL ?_
  | with_reducible refine sx_dput ?_
  | with_reducible refine sx_drop ?_
  | with_reducible refine eg_var (by with_unfolding_all rfl) ?_
  | with_reducible refine eg_int ?_
  | with_reducible refine eg_bl ?_
  | with_reducible refine eg_str ?_
  | with_reducible refine eg_non ?_
  | with_reducible refine eg_raw ?_
  | with_reducible refine eg_op ?_
  | with_reducible refine eg_cb ?_
  | with_reducible refine eg_tup ?_
  | with_reducible refine eg_isN ?_
  | with_reducible refine eg_notN ?_
  | with_reducible refine eg_and ?_
  | with_reducible refine eg_or ?_
  | with_reducible refine eg_not ?_
  | with_reducible refine eg_dnew ?_
  | with_reducible refine eg_dget ?_
  | with_reducible refine eg_dnotin ?_
  | with_reducible refine eg_un ?_
  | with_reducible refine eg_partsNot ?_
  | with_reducible refine eg_partsIx ?_
  | with_reducible refine et_test ?_
  | with_reducible refine et_B ?_
  | with_reducible refine et_not ?_
  | with_reducible refine et_and ?_
  | with_reducible refine et_or ?_
  | with_reducible refine et_yes ?_
  | with_reducible refine ea_nil ?_
  | with_reducible refine ea_cons ?_
  | with_reducible refine el_lst ?_
  | with_reducible refine el_slL ?_
  | with_reducible refine el_op ?_
  | with_reducible refine el_cb ?_
  | with_reducible refine el_lstRev ?_
  | with_reducible refine el_rng ?_
  | with_reducible refine eo_none ?_
  | with_reducible refine eo_some ?_
  | with_reducible refine sr_list ?_
  | with_reducible refine sr_rng ?_
  | with_reducible refine sr_enum ?_
  | with_reducible refine eb_add ?_
  | with_reducible refine eb_sub ?_
  | with_reducible refine eb_fdivL (by decide) (by decide) ?_
  | with_reducible refine eb_mulL (by decide) (by decide) ?_
  | with_reducible refine eb_mulR (by decide) (by decide) ?_
  | with_reducible refine eb_powL (by decide) (by decide) (by decide) ?_
  | with_reducible refine eb_mod (by decide) ?_
  | with_reducible refine eb_lt ?_
  | with_reducible refine eb_le ?_
  | with_reducible refine eb_gt ?_
  | with_reducible refine eb_ge ?_
  | with_reducible refine eb_eqI ?_
  | with_reducible refine eb_neI ?_
  | with_reducible refine eb_eqB ?_)
local macro_rules | `(tactic| walk_at "y1") => `(tactic| first
  | with_reducible refine call_cell ?_
  | with_reducible refine Exists.intro _ (Exists.intro _ (Exists.intro _ (And.intro (Eq.refl [A.raw (V.ref _), A.dat (PyData.int _)]) (And.intro (by assumption) (And.intro (by first | decide | omega) ?_))))))
local macro_rules | `(tactic| walk_at "y") => `(tactic| (repeat' (walk_at "y1")))
local macro_rules | `(tactic| walk_at "yi") => `(tactic| ((repeat' (walk_at "y1")); (with_reducible refine sx_seq ?_); (repeat' (walk_at "y1"))))


section
variable {K : PySem.W.Frag} {C : Er → Addr} {H0 : Hp} {δ : Sl} {ω : Om} {E : XK} {ts : TA} {P : A → Om → Prop}
theorem call_rows_by (h : EA H0 ts δ ω fun bs ω1 => ∃ cells hands, RdA ω1 bs [dI cells, .int hands] ∧ 1 ≤ hands ∧ hands ≤ 40 ∧ cells.length ≤ 100000 ∧ P (.dat (dRows (rowsBy cells hands))) ω1) : EG H0 (tCall (sp_l_rows_by K C) [] E ts) δ ω P :=
  eg_call fun σ H vs as S Q q => h σ H vs as S Q fun bs ω' us H' ⟨c, n, hr, h1, h2, h3, hp⟩ hl S' => q bs ω' us H' ⟨_, _, hr, ⟨c, n, rfl, h1, h2, h3, rfl⟩, hp⟩ hl S'
theorem EA.imp {P P' : List A → Om → Prop} (h : EA H0 ts δ ω P) (i : ∀ a ω', P a ω' → P' a ω') : EA H0 ts δ ω P' := fun σ H vs as S Q q => h σ H vs as S Q fun a ω' v H' hp S => q a ω' v H' (i a ω' hp) S
theorem call_letters_ok {hands : Int} {rows : List Row} {f : List Let} (hf : lettersM hands rows = .ok f) (h : EA H0 ts δ ω fun bs ω1 => RdA ω1 bs [.int hands, dRows rows] ∧ P (.dat (dLets f)) ω1) : EG H0 (tCall (sp_letters K C) [] E ts) δ ω P :=
  call_letters (EA.imp h fun bs ω1 ⟨a, b⟩ => ⟨hands, rows, a, fun e he => (by rw [hf] at he; cases he), fun f' hf' => (by rw [hf] at hf'; cases hf'; exact b)⟩)
end

/-! ### _law_letters_by -/
def dLetL (l : Let) : PyData := .list [.int l.s, .int l.t, .int (l.p : Nat), dOpt l.g]
abbrev oLet (l : Let) : Ob := .lst [.dat (.int l.s), .dat (.int l.t), .dat (.int (l.p : Nat)), .dat (dOpt l.g)]
def omL (f : List Let) : Om := .lst ((List.range f.length).map fun i => .ptr (i + 1)) :: f.map oLet
theorem omL_len (f : List Let) : (omL f).length = f.length + 1 := by simp [omL]
theorem omL_snoc (f : List Let) (l : Let) : (omL f ++ [oLet l]).set 0 (.lst ((List.range f.length).map (fun i => A.ptr (i + 1)) ++ [.ptr (omL f).length])) = omL (f ++ [l]) := by
  rw [omL_len]
  show _ :: (f.map oLet ++ [oLet l]) = _ :: _
  rw [List.map_append, List.length_append, List.length_singleton, List.range_succ, List.map_append]
  rfl
theorem omL_set (f : List Let) (i : Nat) (l : Let) : (omL f).set (i + 1) (oLet l) = omL (f.set i l) := by
  show _ :: (f.map oLet).set i (oLet l) = _ :: (f.set i l).map oLet
  rw [List.length_set, List.map_set]
theorem omL_get {f : List Let} {i : Nat} {l : Let} (h : f[i]? = some l) : (omL f)[i + 1]? = some (oLet l) := by
  show (f.map oLet)[i]? = _
  rw [List.getElem?_map, h]; rfl
theorem fin_omL (f : List Let) : Fin (omL f) (.ptr 0) (.list (f.map dLetL)) := by
  refine .ptr rfl ?_
  have go : ∀ (g : List Let) (k : Nat), (∀ i l, g[i]? = some l → (omL f)[k + i + 1]? = some (oLet l)) → FinA (omL f) ((List.range' k g.length).map fun i => A.ptr (i + 1)) (g.map dLetL) := by
    intro g
    induction g with
    | nil => intro k _; exact .nil
    | cons l g ih =>
      intro k h
      refine .cons (.ptr (h 0 l rfl) (.cons (.dat _) (.cons (.dat _) (.cons (.dat _) (.cons (.dat _) .nil))))) (ih (k + 1) fun i l' hl => ?_)
      have := h (i + 1) l' hl
      rw [show k + 1 + i + 1 = k + (i + 1) + 1 by omega]
      exact this
  have := go f 0 fun i l h => by rw [Nat.zero_add]; exact omL_get h
  rw [← List.range_eq_range'] at this
  exact this
def R_l_letters_by (ds : List PyData) (r : Res Er) : Prop := ∃ (hands : Int) (rows : List Row) (f : List Let), ds = [dRows rows] ∧ lettersM hands rows = .ok f ∧ r = .ok (.list (f.map dLetL))
abbrev sp_l_letters_by (K : PySem.W.Frag) (C : Er → Addr) : Sp := Pr C R_l_letters_by
theorem len_l_letters_by {ds : List PyData} {r : Res Er} (h : R_l_letters_by ds r) : ds.length = 1 := by
  obtain ⟨f, x, _, rfl, _⟩ := h; rfl
theorem at_row {rows : List Row} {k : Nat} {r : Row} (h : rows[k]? = some r) : atI (rows.map fun r => A.dat (dRow r)) (k : Int) = some (.dat (dRow r)) := at_nat (Int.natCast_nonneg _) (by rw [Int.toNat_natCast, List.getElem?_map, h]; rfl)
theorem shw_send : SeqAt.shaped (.str wSend) = true := by decide +kernel
theorem shw_got : SeqAt.shaped (.str wGot) = true := by decide +kernel
theorem shw_note : SeqAt.shaped (.str wNote) = true := by decide +kernel
theorem wk_l_letters_by (K : PySem.W.Frag) (C : Er → Addr) (H : Hp) (ds : List PyData) (r : Res Er) (h : R_l_letters_by ds r) : SX H (t_l_letters_by K) (entry ds 2) [] (HandR r) := by
  obtain ⟨hands, rows, f, rfl, hf, rfl⟩ := h
  obtain ⟨_, _, hz, hgo⟩ := lettersM_ok hf
  show SX H (t_l_letters_by K) [some (.arg (dRows rows)), none, none] [] _
  unfold t_l_letters_by
  walk_at "y"
  refine el_own (el_lst ?_)
  walk_at "y"
  refine ⟨szOk (by decide), ?_⟩
  walk_at "y"
  refine sx_forP (xs := List.range rows.length) (it := fun _ c => .dat (.int (c : Nat))) (fun pre δ ω => ∃ a f1, δ = [some (.arg (dRows rows)), some (.ptr 0), a] ∧ ω = omL f1 ∧ goL hands 0 [] (rows.take pre.length) = .ok f1) ?_ ?_ ?_
  · walk_at "y"
    refine ec_len (itm_rows rows) ?_
    walk_at "y"
    refine ⟨_, rfl, by rw [List.length_map]; omega, ?_⟩
    rw [List.length_map]
    exact ⟨map_idx _ _, ⟨none, [], rfl, rfl, rfl⟩, fun _ _ _ _ => trivial⟩
  · rintro pre x post δ ω e ⟨a, f1, rfl, rfl, hf1⟩
    obtain ⟨rfl, hpl⟩ := range_mid e
    obtain ⟨r, hr⟩ : ∃ r, rows[pre.length]? = some r := ⟨_, List.getElem?_eq_getElem hpl⟩
    obtain ⟨f1', f2, hf1', hst, hf2⟩ := goL_at hgo hr
    rw [hf1] at hf1'
    cases hf1'
    have hfl := goL_len hf1
    rw [List.length_take, List.length_nil] at hfl
    refine ⟨_, gx_name, ?_⟩
    rw [List.length_append, List.length_singleton]
    have row : ∀ {ω : Om}, Itm K H ω (.arg (dRows rows)) (rows.map fun r => .dat (dRow r)) := itm_rows rows
    have hat := at_row hr
    have ten : ∀ (w : Str) (ns : List Int), r = .mk w ns → dRow r = .tuple (.str w :: ns.map .int) := fun w ns e => by rw [e]; rfl
    cases hst with
    | @send h t h1 h2 =>
      walk_at "yi"
      refine eb_ixUL row hat ?_
      walk_at "y"
      refine eb_ixUT (.dat _) (d := .str wSend) at_cons ?_
      walk_at "y"
      refine eb_eqS shw_send shw_send ?_
      refine ⟨_, rfl, fun _ => ?_, fun z => absurd rfl (of_decide_eq_false z)⟩
      walk_at "y"
      refine ⟨0, _, rfl, rfl, ?_⟩
      walk_at "y"
      refine el_own (el_lst ?_)
      walk_at "y"
      refine eb_ixUL row hat ?_
      walk_at "y"
      refine eb_ixUT (.dat _) (d := .int h) (at_ns (ns := [h, t]) (j := 0) rfl) ?_
      walk_at "y"
      refine eb_ixUL row hat ?_
      walk_at "y"
      refine eb_ixUT (.dat _) (d := .int t) (at_ns (ns := [h, t]) (j := 1) rfl) ?_
      walk_at "y"
      refine ⟨szOk (by simp), ?_⟩
      walk_at "y"
      refine ⟨_, _, rfl, rfl, szLt (by rw [List.length_map, List.length_range]; omega), ?_⟩
      walk_at "y"
      refine eb_ixUL row hat ?_
      walk_at "y"
      refine eb_ixUT (.dat _) (d := .str wSend) at_cons ?_
      walk_at "y"
      refine eb_eqS shw_send shw_got ?_
      refine ⟨_, rfl, fun z => absurd (of_decide_eq_true z) ne_sg, fun _ => ?_⟩
      walk_at "y"
      refine ⟨_, _, rfl, omL_snoc f1 ⟨h, t, pre.length, none⟩, hf2⟩
    | @got h l y h1 hy ht hg =>
      have hl := (List.getElem?_eq_some_iff.mp hy).1
      walk_at "yi"
      refine eb_ixUL row hat ?_
      walk_at "y"
      refine eb_ixUT (.dat _) (d := .str wGot) at_cons ?_
      walk_at "y"
      refine eb_eqS shw_got shw_send ?_
      refine ⟨_, rfl, fun z => absurd (of_decide_eq_true z) ne_gs, fun _ => ?_⟩
      walk_at "y"
      refine eb_ixUL row hat ?_
      walk_at "y"
      refine eb_ixUT (.dat _) (d := .str wGot) at_cons ?_
      walk_at "y"
      refine eb_eqS shw_got shw_got ?_
      refine ⟨_, rfl, fun _ => ?_, fun z => absurd rfl (of_decide_eq_false z)⟩
      walk_at "y"
      refine eb_ixUL row hat ?_
      walk_at "y"
      refine eb_ixUT (.dat _) (d := .int (l : Int)) (at_ns (ns := [h, (l : Int)]) (j := 1) rfl) ?_
      refine eb_ixUL (.ptr rfl) (c := .ptr (l + 1)) (at_nat (Int.natCast_nonneg _) (by rw [Int.toNat_natCast, List.getElem?_map, List.getElem?_range hl]; rfl)) ?_
      walk_at "y"
      refine ⟨l + 1, 3, 3, _, rfl, rfl, omL_get hy, rfl, ?_⟩
      refine ⟨_, _, rfl, omL_set f1 l { y with g := some pre.length }, hf2⟩
    | @note h h1 =>
      walk_at "yi"
      refine eb_ixUL row hat ?_
      walk_at "y"
      refine eb_ixUT (.dat _) (d := .str wNote) at_cons ?_
      walk_at "y"
      refine eb_eqS shw_note shw_send ?_
      refine ⟨_, rfl, fun z => absurd (of_decide_eq_true z) ne_ns, fun _ => ?_⟩
      walk_at "y"
      refine eb_ixUL row hat ?_
      walk_at "y"
      refine eb_ixUT (.dat _) (d := .str wNote) at_cons ?_
      walk_at "y"
      refine eb_eqS shw_note shw_got ?_
      refine ⟨_, rfl, fun z => absurd (of_decide_eq_true z) ne_ng, fun _ => ?_⟩
      walk_at "y"
      exact ⟨_, _, rfl, rfl, hf2⟩
  · rintro δ ω ⟨a, f1, rfl, rfl, hf1⟩
    walk_at "y"
    rw [range_done, List.take_length, hgo] at hf1
    cases hf1
    exact fin_omL f
end Y

/-! Mt: ends, lines, strays: plain Lean. -/
namespace Y
open PySem PySem.Spec L2

/-- the ends of a hand's numbers but the first and the last -/
def notes (h : Int) : Nat → List Row → List Int
  | _, [] => []
  | k, r :: rows => if r = .note h then ((k : Int) + 1) :: notes h (k + 1) rows else notes h (k + 1) rows
theorem notes_append (h : Int) : ∀ (a b : List Row) (k : Nat), notes h k (a ++ b) = notes h k a ++ notes h (k + a.length) b
  | [], b, k => by simp [notes]
  | r :: a, b, k => by
    simp only [List.cons_append, notes, notes_append h a b (k + 1), List.length_cons]
    rw [show k + 1 + a.length = k + (a.length + 1) by omega]
    split <;> simp
theorem notes_snoc (h : Int) (a : List Row) (r : Row) (k : Nat) : notes h k (a ++ [r]) = notes h k a ++ if r = .note h then [((k + a.length : Nat) : Int) + 1] else [] := by
  rw [notes_append]
  simp only [notes]
theorem notes_len (h : Int) : ∀ (a : List Row) (k : Nat), (notes h k a).length ≤ a.length
  | [], k => Nat.le_refl _
  | r :: a, k => by
    have := notes_len h a (k + 1)
    simp only [notes]
    split <;> simp only [List.length_cons] <;> omega
def begun (rows : List Row) (h : Int) : List Int := 0 :: notes h 0 rows
def told1 (rows : List Row) (h : Int) : List Int := begun rows h ++ [(rows.length : Int)]
def begunAll (n : Nat) (rows : List Row) : List (List Int) := (List.range n).map fun h : Nat => begun rows h
def told (hands : Int) (rows : List Row) : List (List Int) := (List.range hands.toNat).map fun h : Nat => told1 rows h
abbrev dT (t : List (List Int)) : PyData := .list (t.map dI)
theorem told_len (hands : Int) (rows : List Row) : (told hands rows).length = hands.toNat := by simp [told]
theorem told_get {hands : Int} {rows : List Row} {i : Nat} (h : i < hands.toNat) : (told hands rows)[i]? = some (told1 rows i) := by
  unfold told
  rw [List.getElem?_map, List.getElem?_range h]
  rfl
theorem told1_len (rows : List Row) (h : Int) : 2 ≤ (told1 rows h).length ∧ (told1 rows h).length ≤ rows.length + 2 := by
  have := notes_len h rows 0
  unfold told1 begun
  rw [List.length_append, List.length_cons, List.length_singleton]
  omega
def endsM (hands : Int) (rows : List Row) : Except Er (List (List Int)) :=
  match lettersM hands rows with
  | .error e => .error e
  | .ok _ => .ok (told hands rows)

/-! ### lines -/
def lineOk (t : List (List Int)) (line : List Int) : Bool :=
  decide (line.length = t.length) && (List.range line.length).all fun i => decide (0 ≤ line.getD i 0 ∧ line.getD i 0 < ((t.getD i []).length : Int))
theorem lineOk_iff {t : List (List Int)} {line : List Int} : lineOk t line = true ↔ line.length = t.length ∧ ∀ (i : Nat) (n : Int) (own : List Int), line[i]? = some n → t[i]? = some own → 0 ≤ n ∧ n < (own.length : Int) := by
  unfold lineOk
  rw [Bool.and_eq_true, List.all_eq_true]
  constructor
  · rintro ⟨h1, h2⟩
    refine ⟨of_decide_eq_true h1, fun i n own hn ho => ?_⟩
    have := of_decide_eq_true (h2 i (List.mem_range.mpr (List.getElem?_eq_some_iff.mp hn).1))
    rw [List.getD_eq_getElem?_getD, List.getD_eq_getElem?_getD, hn, ho] at this
    exact this
  · rintro ⟨h1, h2⟩
    refine ⟨decide_eq_true h1, fun i hi => decide_eq_true ?_⟩
    have hi := List.mem_range.mp hi
    have := h2 i _ _ (List.getElem?_eq_getElem hi) (List.getElem?_eq_getElem (by omega))
    rw [List.getD_eq_getElem?_getD, List.getD_eq_getElem?_getD, List.getElem?_eq_getElem hi, List.getElem?_eq_getElem (show i < t.length by omega)]
    exact this
def endsOf (t : List (List Int)) (line : List Int) : List Int := line.mapIdx fun i n => (t.getD i []).getD n.toNat 0
theorem endsOf_len (t : List (List Int)) (line : List Int) : (endsOf t line).length = line.length := by simp [endsOf]
theorem endsOf_get {t : List (List Int)} {line : List Int} {i : Nat} {n : Int} {own : List Int} {e : Int} (h1 : line[i]? = some n) (h2 : t[i]? = some own) (h3 : own[n.toNat]? = some e) : (endsOf t line)[i]? = some e := by
  unfold endsOf
  rw [List.getElem?_mapIdx, h1]
  simp [List.getD_eq_getElem?_getD, h2, h3]
def keptM (hands : Int) (rows : List Row) (line : List Int) : Except Er (List Int) :=
  match endsM hands rows with
  | .error e => .error e
  | .ok t => if lineOk t line = true then .ok (endsOf t line) else .error .NoLine

/-! ### strays -/
def at0 (kept : List Int) (h : Int) : Int := kept.getD h.toNat 0
def stray (kept : List Int) (l : Let) : Bool := match l.g with
  | none => false
  | some g => decide ((g : Int) < at0 kept l.t) && decide (at0 kept l.s ≤ (l.p : Int))
def underWay (kept : List Int) (l : Let) : Bool := if at0 kept l.s ≤ (l.p : Int) then false else match l.g with
  | none => true
  | some g => decide (at0 kept l.t ≤ (g : Int))
/-- the numbers of the letters that are so, from k on -/
def idxs (q : Let → Bool) : Nat → List Let → List Int
  | _, [] => []
  | k, l :: f => if q l = true then (k : Int) :: idxs q (k + 1) f else idxs q (k + 1) f
theorem idxs_comp (q : Let → Bool) : ∀ (f : List Let) (k : Nat), (f.mapIdx fun i l => if q l = true then [PyData.int ((k + i : Nat) : Int)] else []).flatten = (idxs q k f).map .int
  | [], k => rfl
  | l :: f, k => by
    have ih := idxs_comp q f (k + 1)
    rw [List.mapIdx_cons, List.flatten_cons]
    have e : (fun (i : Nat) (l : Let) => if q l = true then [PyData.int ((k + (i + 1) : Nat) : Int)] else []) = fun (i : Nat) (l : Let) => if q l = true then [PyData.int ((k + 1 + i : Nat) : Int)] else [] := by
      funext i l
      rw [show k + (i + 1) = k + 1 + i by omega]
    rw [e, ih]
    simp only [idxs]
    split <;> simp
theorem compR_idxs (q : Let → Bool) (f : List Let) : compR f (fun _ => q) (fun i _ => .int (i : Nat)) = (idxs q 0 f).map .int := by
  rw [← idxs_comp q f 0]
  unfold compR
  simp only [Nat.zero_add]
theorem idxs_len (q : Let → Bool) : ∀ (f : List Let) (k : Nat), (idxs q k f).length ≤ f.length
  | [], k => Nat.le_refl _
  | l :: f, k => by
    have := idxs_len q f (k + 1)
    simp only [idxs]
    split <;> simp only [List.length_cons] <;> omega
theorem idxs_mem {q : Let → Bool} : ∀ {f : List Let} {k : Nat} {x : Int}, x ∈ idxs q k f ↔ ∃ (i : Nat) (l : Let), x = ((k + i : Nat) : Int) ∧ f[i]? = some l ∧ q l = true
  | [], k, x => by simp [idxs]
  | l :: f, k, x => by
    have ih := idxs_mem (q := q) (f := f) (k := k + 1) (x := x)
    have tail : (∃ (i : Nat) (l : Let), x = ((k + 1 + i : Nat) : Int) ∧ f[i]? = some l ∧ q l = true) ↔ ∃ (i : Nat) (l' : Let), 0 < i ∧ x = ((k + i : Nat) : Int) ∧ (l :: f)[i]? = some l' ∧ q l' = true := by
      constructor
      · rintro ⟨i, l', h1, h2, h3⟩
        exact ⟨i + 1, l', by omega, by rw [h1]; congr 1; omega, by simpa using h2, h3⟩
      · rintro ⟨i, l', h0, h1, h2, h3⟩
        obtain ⟨j, rfl⟩ : ∃ j, i = j + 1 := ⟨i - 1, by omega⟩
        exact ⟨j, l', by rw [h1]; congr 1; omega, by simpa using h2, h3⟩
    simp only [idxs]
    split
    · rename_i h
      rw [List.mem_cons, ih, tail]
      constructor
      · rintro (rfl | ⟨i, l', _, h1, h2, h3⟩)
        · exact ⟨0, l, by simp, rfl, h⟩
        · exact ⟨i, l', h1, h2, h3⟩
      · rintro ⟨i, l', h1, h2, h3⟩
        by_cases h0 : i = 0
        · subst h0; exact .inl (by rw [h1]; simp)
        · exact .inr ⟨i, l', by omega, h1, h2, h3⟩
    · rename_i h
      rw [ih, tail]
      constructor
      · rintro ⟨i, l', _, h1, h2, h3⟩
        exact ⟨i, l', h1, h2, h3⟩
      · rintro ⟨i, l', h1, h2, h3⟩
        by_cases h0 : i = 0
        · subst h0
          have : l = l' := by simpa using h2
          subst this
          exact absurd h3 h
        · exact ⟨i, l', by omega, h1, h2, h3⟩
def straysBy (f : List Let) (kept : List Int) : List Int := idxs (stray kept) 0 f
def waysBy (f : List Let) (kept : List Int) : List Int := idxs (underWay kept) 0 f
def straysM (hands : Int) (rows : List Row) (line : List Int) : Except Er (List Int) :=
  match keptM hands rows line with
  | .error e => .error e
  | .ok kept => match lettersM hands rows with
    | .error e => .error e
    | .ok f => .ok (straysBy f kept)
def waysM (hands : Int) (rows : List Row) (line : List Int) : Except Er (List Int) :=
  match keptM hands rows line with
  | .error e => .error e
  | .ok kept => match lettersM hands rows with
    | .error e => .error e
    | .ok f => .ok (waysBy f kept)
def soundM (hands : Int) (rows : List Row) (line : List Int) : Except Er Bool :=
  match straysM hands rows line with
  | .error e => .error e
  | .ok s => .ok (decide (s = []))
/-- what is told of the letters -/
def LetsOk (n : Nat) (f : List Let) : Prop := ∀ l ∈ f, (0 ≤ l.s ∧ l.s < n) ∧ (0 ≤ l.t ∧ l.t < n)
theorem goL_lets {hands : Int} : ∀ {rows : List Row} {k : Nat} {f f' : List Let}, goL hands k f rows = .ok f' → LetsOk hands.toNat f → LetsOk hands.toNat f'
  | [], k, f, f', h, hf => by cases h; exact hf
  | r :: rows, k, f, f', h, hf => by
    simp only [goL] at h
    split at h
    · cases h
    · rename_i f1 h1
      refine goL_lets h ?_
      have st := stepOk_of h1
      cases st with
      | send a b =>
        intro l hl
        rcases List.mem_append.mp hl with hl | hl
        · exact hf l hl
        · rw [List.mem_singleton.mp hl]
          exact ⟨⟨a.1, (by have := a.2; show _ < _; simp only; omega)⟩, b.1, (by have := b.2; simp only; omega)⟩
      | @got h' l' y a hy ht hg =>
        intro l hl
        rcases List.mem_or_eq_of_mem_set hl with hl | hl
        · exact hf l hl
        · rw [hl]
          exact hf y (List.mem_of_getElem? hy)
      | note a => exact hf
theorem lets_ok {hands : Int} {rows : List Row} {f : List Let} (h : lettersM hands rows = .ok f) : LetsOk hands.toNat f := goL_lets (lettersM_ok h).2.2.2 fun l hl => by cases hl
theorem at0_get {kept : List Int} {h : Int} (h0 : 0 ≤ h) (h1 : h < kept.length) : kept[h.toNat]? = some (at0 kept h) := by
  unfold at0
  rw [List.getD_eq_getElem?_getD, List.getElem?_eq_getElem (by omega)]
  rfl
end Y

namespace Y
open PySem PySem.Spec L2
local macro_rules | `(tactic| walk_at "y1") => `(tactic| first
  | (fail_if_success (with_reducible show SX _ (tSeq (tIfS _ _ _) _) _ _ _)); (with_reducible refine sx_seq ?_)
  | with_reducible refine sx_asg ?_
  | with_reducible refine sx_if ?_
  | with_reducible refine sx_ret ?_
  | with_reducible refine sx_retN ?_
  | with_reducible refine sx_next ?_
  | with_reducible refine sx_app ?_
  | with_reducible refine sx_clear ?_
  | with_reducible refine sx_setL ?_
  | with_reducible refine sx_dput ?_
  | with_reducible refine sx_drop ?_
  | with_reducible refine eg_var (by with_unfolding_all rfl) ?_
  | with_reducible refine eg_int ?_
  | with_reducible refine eg_bl ?_
  | with_reducible refine eg_str ?_
  | with_reducible refine eg_non ?_
  | with_reducible refine eg_raw ?_
  | with_reducible refine eg_op ?_
  | with_reducible refine eg_cb ?_
  | with_reducible refine eg_tup ?_
  | with_reducible refine eg_isN ?_
  | with_reducible refine eg_notN ?_
  | with_reducible refine eg_and ?_
  | with_reducible refine eg_or ?_
  | with_reducible refine eg_not ?_
  | with_reducible refine eg_dnew ?_
  | with_reducible refine eg_dget ?_
  | with_reducible refine eg_dnotin ?_
  | with_reducible refine eg_un ?_
  | with_reducible refine eg_partsNot ?_
  | with_reducible refine eg_partsIx ?_
  | with_reducible refine et_test ?_
  | with_reducible refine et_B ?_
  | with_reducible refine et_not ?_
  | with_reducible refine et_and ?_
  | with_reducible refine et_or ?_
  | with_reducible refine et_yes ?_
  | with_reducible refine ea_nil ?_
  | with_reducible refine ea_cons ?_
  | with_reducible refine el_lst ?_
  | with_reducible refine el_slL ?_
  | with_reducible refine el_op ?_
  | with_reducible refine el_cb ?_
  | with_reducible refine el_lstRev ?_
  | with_reducible refine el_rng ?_
  | with_reducible refine eo_none ?_
  | with_reducible refine eo_some ?_
  | with_reducible refine sr_list ?_
  | with_reducible refine sr_rng ?_
  | with_reducible refine sr_enum ?_
  | with_reducible refine eb_add ?_
  | with_reducible refine eb_sub ?_
  | with_reducible refine eb_fdivL (by decide) (by decide) ?_
  | with_reducible refine eb_mulL (by decide) (by decide) ?_
  | with_reducible refine eb_mulR (by decide) (by decide) ?_
  | with_reducible refine eb_powL (by decide) (by decide) (by decide) ?_
  | with_reducible refine eb_mod (by decide) ?_
  | with_reducible refine eb_lt ?_
  | with_reducible refine eb_le ?_
  | with_reducible refine eb_gt ?_
  | with_reducible refine eb_ge ?_
  | with_reducible refine eb_eqI ?_
  | with_reducible refine eb_neI ?_
  | with_reducible refine eb_eqB ?_)
local macro_rules | `(tactic| walk_at "y1") => `(tactic| first
  | with_reducible refine call_cell ?_
  | with_reducible refine Exists.intro _ (Exists.intro _ (Exists.intro _ (And.intro (Eq.refl [A.raw (V.ref _), A.dat (PyData.int _)]) (And.intro (by assumption) (And.intro (by first | decide | omega) ?_))))))
local macro_rules | `(tactic| walk_at "y") => `(tactic| (repeat' (walk_at "y1")))
local macro_rules | `(tactic| walk_at "yi") => `(tactic| ((repeat' (walk_at "y1")); (with_reducible refine sx_seq ?_); (repeat' (walk_at "y1"))))


abbrev oI (ns : List Int) : Ob := .lst (ns.map fun n => .dat (.int n))
/-- an owned list of owned lists of numbers -/
def omT (T : List (List Int)) : Om := .lst ((List.range T.length).map fun i => .ptr (i + 1)) :: T.map oI
theorem omT_len (T : List (List Int)) : (omT T).length = T.length + 1 := by simp [omT]
theorem omT_get {T : List (List Int)} {i : Nat} {l : List Int} (h : T[i]? = some l) : (omT T)[i + 1]? = some (oI l) := by
  show (T.map oI)[i]? = _
  rw [List.getElem?_map, h]; rfl
theorem omT_set (T : List (List Int)) (i : Nat) (l : List Int) : (omT T).set (i + 1) (oI l) = omT (T.set i l) := by
  show _ :: (T.map oI).set i (oI l) = _ :: (T.set i l).map oI
  rw [List.length_set, List.map_set]
theorem omT_snoc (T : List (List Int)) (l : List Int) : (omT T ++ [oI l]).set 0 (.lst ((List.range T.length).map (fun i => A.ptr (i + 1)) ++ [.ptr (omT T).length])) = omT (T ++ [l]) := by
  rw [omT_len]
  show _ :: (T.map oI ++ [oI l]) = _ :: _
  rw [List.map_append, List.length_append, List.length_singleton, List.range_succ, List.map_append]
  rfl
theorem oI_snoc (ns : List Int) (n : Int) : Ob.lst (ns.map (fun n => A.dat (.int n)) ++ [.dat (.int n)]) = oI (ns ++ [n]) := by
  show _ = Ob.lst (List.map _ _); rw [List.map_append]; rfl
section
variable {K : PySem.W.Frag} {C : Er → Addr} {H0 : Hp} {δ : Sl} {ω : Om} {E : XK} {ts : TA} {P : A → Om → Prop}
/-- [[0] for hand in range(n)] -/
theorem eg_lcZ {j : Nat} (h : EA H0 ts δ [] fun bs ω1 => ω1 = [] ∧ ∃ n : Nat, bs = [.dat (.int n)] ∧ n ≤ 1000000 ∧ P (.ptr 0) (omT (List.replicate n [0]))) : EG H0 (tLc (iRng1 ts) (gName j) tYes (tLst (tCons (tC (.int 0)) tNil)) [j]) δ [] P := by
  refine eg_lcG (gw_name (by simp)) (sr_rng (EA.imp h fun bs ω1 ⟨e0, n, e, hn, p⟩ => ⟨n, e, by omega, ?_⟩))
  subst e0
  refine ⟨fun i ω => ω = omT (List.replicate i [0]), rfl, fun _ _ _ => trivial, fun i c ω hc hω => ?_, fun ω hω => ?_⟩
  · subst hω
    refine ⟨_, gx_name, et_yes ⟨fun _ => ?_, fun z => by cases z⟩⟩
    refine el_own (el_lst ?_)
    have hi : i < n := by
      have := (List.getElem?_eq_some_iff.mp hc).1
      simpa using this
    walk_at "y"
    refine ⟨szOk (by simp), _, rfl, szLt (by simp; omega), ?_⟩
    show _ = omT (List.replicate (i + 1) [0])
    rw [List.replicate_succ']
    exact omT_snoc (List.replicate i [0]) [0]
  · rw [List.length_map, List.length_range] at hω
    subst hω
    exact p
end
theorem begun_note {n : Nat} {pre : List Row} {h : Int} (h0 : 0 ≤ h ∧ h < (n : Int)) : (begunAll n pre).set h.toNat (begun pre h ++ [(pre.length : Int) + 1]) = begunAll n (pre ++ [.note h]) := by
  unfold begunAll begun
  apply List.ext_getElem?
  intro i
  rw [List.getElem?_set, List.getElem?_map, List.getElem?_map, List.length_map, List.length_range]
  by_cases hi : h.toNat = i
  · subst hi
    rw [if_pos rfl, if_pos (by omega), List.getElem?_range (by omega)]
    simp only [Option.map_some, notes_snoc]
    rw [show ((h.toNat : Nat) : Int) = h by omega, if_pos rfl, Nat.zero_add]
    rfl
  · rw [if_neg hi]
    by_cases hn : i < n
    · rw [List.getElem?_range hn]
      simp only [Option.map_some, notes_snoc]
      rw [if_neg (by
        intro z
        have : h = (i : Int) := by simpa using z
        omega), List.append_nil]
    · rw [List.getElem?_eq_none (by simpa using hn)]
      rfl
theorem begun_other {n : Nat} {pre : List Row} {r : Row} (h : ∀ x, r ≠ .note x) : begunAll n pre = begunAll n (pre ++ [r]) := by
  unfold begunAll begun
  congr 1
  funext i
  rw [notes_snoc, if_neg (h _), List.append_nil]
theorem begun_get {n : Nat} {pre : List Row} {h : Int} (h0 : 0 ≤ h ∧ h < (n : Int)) : (begunAll n pre)[h.toNat]? = some (begun pre h) := by
  unfold begunAll
  rw [List.getElem?_map, List.getElem?_range (by omega)]
  simp only [Option.map_some]
  rw [show ((h.toNat : Nat) : Int) = h by omega]
theorem begunAll_len (n : Nat) (pre : List Row) : (begunAll n pre).length = n := by simp [begunAll]
theorem begunAll_nil (n : Nat) : begunAll n [] = List.replicate n [0] := by
  unfold begunAll begun
  apply List.ext_getElem?
  intro i
  rw [List.getElem?_map, List.getElem?_replicate]
  by_cases h : i < n
  · rw [List.getElem?_range h, if_pos h]; rfl
  · rw [List.getElem?_eq_none (by simpa using h), if_neg h]; rfl
/-! ### ends -/
def R_ends (ds : List PyData) (r : Res Er) : Prop := ∃ (hands : Int) (rows : List Row), ds = [.int hands, dRows rows] ∧ r = toRes dT (endsM hands rows)
abbrev sp_ends (K : PySem.W.Frag) (C : Er → Addr) : Sp := Pr C R_ends
theorem len_ends {ds : List PyData} {r : Res Er} (h : R_ends ds r) : ds.length = 2 := by
  obtain ⟨f, x, rfl, _⟩ := h; rfl
theorem wk_ends (K : PySem.W.Frag) (C : Er → Addr) (H : Hp) (E : XK) (ds : List PyData) (r : Res Er) (h : R_ends ds r) (hE : ∀ e, r = .er e → ∀ H', Same H H' → E (.ref (C e)) none H') :
    SX H (t_ends K E (sp_letters K C)) (entry ds 5) [] (HandR r) := by
  obtain ⟨hands, rows, rfl, rfl⟩ := h
  show SX H (t_ends K E (sp_letters K C)) [some (.dat (.int hands)), some (.arg (dRows rows)), none, none, none, none, none] [] _
  unfold t_ends
  walk_at "y"
  refine call_letters ?_
  walk_at "y"
  refine ⟨hands, rows, .cons (.dat _) (.cons (.arg _) .nil), fun e he => hE e (by unfold endsM; rw [he]; rfl), fun f hf => ?_⟩
  rw [show endsM hands rows = .ok (told hands rows) by unfold endsM; rw [hf]]
  obtain ⟨h1, h2, h3, hgo⟩ := lettersM_ok hf
  obtain ⟨n, rfl⟩ : ∃ n : Nat, hands = (n : Int) := ⟨hands.toNat, by omega⟩
  walk_at "y"
  refine eg_lcZ ?_
  walk_at "y"
  refine ⟨rfl, n, rfl, by omega, ?_⟩
  rw [← begunAll_nil]
  walk_at "y"
  refine sx_forP (xs := rows) (it := fun i x => .dat (.tuple [.int (i : Nat), dRow x])) (fun pre δ ω => ∃ a b, δ = [some (.dat (.int n)), some (.arg (dRows rows)), some (.ptr 0), a, b, none, none] ∧ ω = omT (begunAll n pre)) ?_ ?_ ?_
  · walk_at "y"
    refine ⟨_, rows.map dRow, rfl, .argT _ (noLA_rows rows), enA_map _ _, ⟨_, _, rfl, rfl⟩, ?_⟩
    rintro pre δ ω ⟨_, _, rfl, rfl⟩
    exact .argT _ (noLA_rows rows)
  · rintro pre x post δ ω e ⟨a, b, rfl, rfl⟩
    refine ⟨_, gx_tup2, ?_⟩
    have hx := mid_get e
    obtain ⟨f1, f2, _, hst, _⟩ := goL_at hgo hx
    have hpl : pre.length < rows.length := by rw [e]; simp
    cases hst with
    | @send h t a1 a2 =>
      walk_at "y"
      refine eb_ixUT (.dat _) (d := .str wSend) at_cons ?_
      walk_at "y"
      refine eb_eqS shw_send shw_note ?_
      refine ⟨_, rfl, fun z => absurd (of_decide_eq_true z) ne_sn, fun _ => ?_⟩
      walk_at "y"
      exact ⟨_, _, rfl, congrArg omT (begun_other (fun x => by simp [ne_sn]))⟩
    | @got h l y a1 hy ht hg =>
      walk_at "y"
      refine eb_ixUT (.dat _) (d := .str wGot) at_cons ?_
      walk_at "y"
      refine eb_eqS shw_got shw_note ?_
      refine ⟨_, rfl, fun z => absurd (of_decide_eq_true z) ne_gn, fun _ => ?_⟩
      walk_at "y"
      exact ⟨_, _, rfl, congrArg omT (begun_other (fun x => by simp [ne_gn]))⟩
    | @note h a1 =>
      walk_at "y"
      refine eb_ixUT (.dat _) (d := .str wNote) at_cons ?_
      walk_at "y"
      refine eb_eqS shw_note shw_note ?_
      refine ⟨_, rfl, fun _ => ?_, fun z => absurd rfl (of_decide_eq_false z)⟩
      walk_at "y"
      refine eb_ixUT (.dat _) (d := .int h) (at_ns (ns := [h]) (j := 0) rfl) ?_
      refine eb_ixUL (.ptr rfl) (c := .ptr (h.toNat + 1)) (at_nat a1.1 (by rw [List.getElem?_map, begunAll_len, List.getElem?_range (by omega)]; rfl)) ?_
      have hb := omT_get (begun_get (pre := pre) a1)
      refine ⟨_, _, rfl, hb, ?_⟩
      walk_at "y"
      refine ⟨_, _, rfl, hb, szLt ?_, ?_⟩
      · have := notes_len h pre 0
        rw [List.length_map]
        unfold begun
        rw [List.length_cons]
        omega
      refine ⟨_, _, rfl, ?_⟩
      rw [oI_snoc, omT_set, begun_note a1]
  · rintro δ ω ⟨a, b, rfl, rfl⟩
    walk_at "y"
    refine el_dat (el_lcL (List.range n) (fun i => .ptr (i + 1)) (by simp; omega) (fun _ => true) (fun i => dI (told1 rows (i : Nat))) ?_ ?_ ?_)
    · walk_at "y"
      refine ⟨rfl, ?_, fun acc => ?_⟩
      · have := Itm.ptr (K := K) (H0 := H) (ω := omT (begunAll n rows)) (k := 0) rfl
        rw [begunAll_len] at this
        exact this
      · have := Itm.ptr (K := K) (H0 := H) (ω := omT (begunAll n rows) ++ [.lst acc]) (k := 0) rfl
        rw [begunAll_len] at this
        exact this
    · rintro i hi ω' ⟨acc, rfl⟩
      have hi := List.mem_range.mp hi
      have hg := omT_get (begun_get (n := n) (pre := rows) (h := (i : Int)) ⟨by omega, by omega⟩)
      rw [Int.toNat_natCast] at hg
      refine ⟨?_, fun _ => ?_⟩
      · walk_at "y"
        exact ⟨rfl, rfl⟩
      · walk_at "y"
        refine el_dat (el_lst ?_)
        walk_at "y"
        refine ec_len (itm_rows rows) ?_
        walk_at "y"
        refine ⟨szOk (by simp), [.int (rows.length : Nat)], by rw [List.length_map]; rfl, ?_⟩
        refine eb_dat (ebl_cat (.ptr (by rw [List.getElem?_append_left (List.getElem?_eq_some_iff.mp hg).1]; exact hg)) (.dat _) rfl rfl (szOk ?_) ?_)
        · have := notes_len (i : Int) rows 0
          simp only [List.length_map, List.length_cons, List.length_nil, begun]
          omega
        · refine ⟨(told1 rows (i : Nat)).map .int, ?_, rfl, rfl⟩
          show _ = ((begun rows i ++ [(rows.length : Int)]).map PyData.int).map A.dat
          rw [List.map_append, List.map_append, List.map_map]
          rfl
    rw [filter_yes]
    refine ⟨_, rfl, ?_⟩
    show Fin _ _ (dT _)
    rw [show told (n : Int) rows = (List.range n).map fun h : Nat => told1 rows h from rfl, dT, List.map_map]
    exact .dat _
end Y

namespace Y
open PySem PySem.Spec L2
local macro_rules | `(tactic| walk_at "y1") => `(tactic| first
  | (fail_if_success (with_reducible show SX _ (tSeq (tIfS _ _ _) _) _ _ _)); (with_reducible refine sx_seq ?_)
  | with_reducible refine sx_asg ?_
  | with_reducible refine sx_if ?_
  | with_reducible refine sx_ret ?_
  | with_reducible refine sx_retN ?_
  | with_reducible refine sx_next ?_
  | with_reducible refine sx_app ?_
  | with_reducible refine sx_clear ?_
  | with_reducible refine sx_setL ?_
  | with_reducible refine sx_dput ?_
  | with_reducible refine sx_drop ?_
  | with_reducible refine eg_var (by with_unfolding_all rfl) ?_
  | with_reducible refine eg_int ?_
  | with_reducible refine eg_bl ?_
  | with_reducible refine eg_str ?_
  | with_reducible refine eg_non ?_
  | with_reducible refine eg_raw ?_
  | with_reducible refine eg_op ?_
  | with_reducible refine eg_cb ?_
  | with_reducible refine eg_tup ?_
  | with_reducible refine eg_isN ?_
  | with_reducible refine eg_notN ?_
  | with_reducible refine eg_and ?_
  | with_reducible refine eg_or ?_
  | with_reducible refine eg_not ?_
  | with_reducible refine eg_dnew ?_
  | with_reducible refine eg_dget ?_
  | with_reducible refine eg_dnotin ?_
  | with_reducible refine eg_un ?_
  | with_reducible refine eg_partsNot ?_
  | with_reducible refine eg_partsIx ?_
  | with_reducible refine et_test ?_
  | with_reducible refine et_B ?_
  | with_reducible refine et_not ?_
  | with_reducible refine et_and ?_
  | with_reducible refine et_or ?_
  | with_reducible refine et_yes ?_
  | with_reducible refine ea_nil ?_
  | with_reducible refine ea_cons ?_
  | with_reducible refine el_lst ?_
  | with_reducible refine el_slL ?_
  | with_reducible refine el_op ?_
  | with_reducible refine el_cb ?_
  | with_reducible refine el_lstRev ?_
  | with_reducible refine el_rng ?_
  | with_reducible refine eo_none ?_
  | with_reducible refine eo_some ?_
  | with_reducible refine sr_list ?_
  | with_reducible refine sr_rng ?_
  | with_reducible refine sr_enum ?_
  | with_reducible refine eb_add ?_
  | with_reducible refine eb_sub ?_
  | with_reducible refine eb_fdivL (by decide) (by decide) ?_
  | with_reducible refine eb_mulL (by decide) (by decide) ?_
  | with_reducible refine eb_mulR (by decide) (by decide) ?_
  | with_reducible refine eb_powL (by decide) (by decide) (by decide) ?_
  | with_reducible refine eb_mod (by decide) ?_
  | with_reducible refine eb_lt ?_
  | with_reducible refine eb_le ?_
  | with_reducible refine eb_gt ?_
  | with_reducible refine eb_ge ?_
  | with_reducible refine eb_eqI ?_
  | with_reducible refine eb_neI ?_
  | with_reducible refine eb_eqB ?_)
local macro_rules | `(tactic| walk_at "y1") => `(tactic| first
  | with_reducible refine call_cell ?_
  | with_reducible refine Exists.intro _ (Exists.intro _ (Exists.intro _ (And.intro (Eq.refl [A.raw (V.ref _), A.dat (PyData.int _)]) (And.intro (by assumption) (And.intro (by first | decide | omega) ?_))))))
local macro_rules | `(tactic| walk_at "y") => `(tactic| (repeat' (walk_at "y1")))
local macro_rules | `(tactic| walk_at "yi") => `(tactic| ((repeat' (walk_at "y1")); (with_reducible refine sx_seq ?_); (repeat' (walk_at "y1"))))


/-- a list of lists of numbers handed in -/
theorem itm_T {K : PySem.W.Frag} {H0 : Hp} {ω : Om} (t : List (List Int)) : Itm K H0 ω (.arg (dT t)) (t.map fun o => .arg (dI o)) := by
  have := Itm.arg (K := K) (H0 := H0) (ω := ω) (t.map dI)
  rw [List.map_map] at this
  exact this
theorem itm_TD {K : PySem.W.Frag} {H0 : Hp} {ω : Om} (t : List (List Int)) : Itm K H0 ω (.dat (dT t)) (t.map fun o => .dat (dI o)) := by
  have := Itm.dat (K := K) (H0 := H0) (ω := ω) (t.map dI)
  rw [List.map_map] at this
  exact this
theorem at_T {t : List (List Int)} {i : Nat} {o : List Int} {f : List Int → A} (h : t[i]? = some o) : atI (t.map f) (i : Int) = some (f o) := at_nat (Int.natCast_nonneg _) (by rw [Int.toNat_natCast, List.getElem?_map, h]; rfl)
theorem at_I {t : List Int} {i : Int} {o : Int} (h0 : 0 ≤ i) (h : t[i.toNat]? = some o) : atI (t.map fun n => A.dat (.int n)) i = some (.dat (.int o)) := at_nat h0 (by rw [List.getElem?_map, h]; rfl)
theorem ent_I (ns : List Int) : ent (dI ns) = .arg (dI ns) := ent_arg rfl
/-! ### need_line -/
def R_need_line (ds : List PyData) (r : Res Er) : Prop := ∃ (t : List (List Int)) (line : List Int), ds = [dT t, dI line] ∧ r = optRes (if lineOk t line = true then none else some .NoLine)
abbrev sp_need_line (K : PySem.W.Frag) (C : Er → Addr) : Sp := Pr C R_need_line
theorem len_need_line {ds : List PyData} {r : Res Er} (h : R_need_line ds r) : ds.length = 2 := by
  obtain ⟨f, x, rfl, _⟩ := h; rfl
theorem wk_need_line (K : PySem.W.Frag) (C : Er → Addr) (H : Hp) (E : XK) (ds : List PyData) (r : Res Er) (h : R_need_line ds r) (hE : ∀ e, r = .er e → ∀ H', Same H H' → E (.ref (C e)) none H') :
    SX H (t_need_line K E (C .NoLine)) (entry ds 2) [] (HandR r) := by
  obtain ⟨t, line, rfl, rfl⟩ := h
  show SX H (t_need_line K E (C .NoLine)) [some (.arg (dT t)), some (.arg (dI line)), none, none] [] _
  have bad : lineOk t line ≠ true → ∀ H', Same H H' → E (.ref (C .NoLine)) none H' := fun h => hE _ (by rw [if_neg h]; rfl)
  unfold t_need_line
  walk_at "yi"
  refine ec_len (itm_aI line) ?_
  walk_at "y"
  refine ec_len (itm_T t) ?_
  refine eb_neI ?_
  rw [List.length_map, List.length_map]
  refine ⟨_, rfl, fun h1 => ?_, fun h1 => ?_⟩
  · refine sx_exit (bad fun z => ?_)
    rw [(lineOk_iff.mp z).1] at h1
    simp at h1
  have h1 : line.length = t.length := by
    have : ((line.length : Nat) : Int) = (t.length : Nat) := by simpa using h1
    omega
  walk_at "y"
  refine sx_forP (xs := line) (it := fun i x => .dat (.tuple [.int (i : Nat), .int x])) (fun pre δ ω => ∃ a b, δ = [some (.arg (dT t)), some (.arg (dI line)), a, b] ∧ ω = [] ∧ ∀ (i : Nat) (n : Int) (own : List Int), pre[i]? = some n → t[i]? = some own → 0 ≤ n ∧ n < (own.length : Int)) ?_ ?_ ?_
  · walk_at "y"
    refine ⟨_, line.map .int, rfl, .argT _ (noLA_ints line), enA_map _ _, ⟨_, _, rfl, rfl, fun i n own h => by simp at h⟩, ?_⟩
    rintro pre δ ω ⟨_, _, rfl, rfl, _⟩
    exact .argT _ (noLA_ints line)
  · rintro pre x post δ ω e ⟨a, b, rfl, rfl, hp⟩
    refine ⟨_, gx_tup2, ?_⟩
    have hx := mid_get e
    have hpl : pre.length < t.length := by rw [← h1, e]; simp
    have ho : t[pre.length]? = some t[pre.length] := List.getElem?_eq_getElem hpl
    generalize t[pre.length] = own at ho
    walk_at "y"
    refine ⟨_, rfl, ?_⟩
    split
    · rename_i c1
      have c1 := of_decide_eq_true c1
      refine ⟨fun _ => sx_exit (bad fun z => ?_), fun z => by cases z⟩
      have := (lineOk_iff.mp z).2 _ _ _ hx ho
      omega
    · rename_i c1
      have c1 : ¬ x < 0 := fun z => c1 (decide_eq_true z)
      walk_at "y"
      refine eb_ixUL (itm_T t) (at_T ho) ?_
      walk_at "y"
      refine ec_len (itm_aI own) ?_
      walk_at "y"
      rw [List.length_map]
      refine ⟨_, rfl, fun c2 => ?_, fun c2 => ?_⟩
      · have c2 := of_decide_eq_true c2
        refine sx_exit (bad fun z => ?_)
        have := (lineOk_iff.mp z).2 _ _ _ hx ho
        omega
      · have c2 := of_decide_eq_false c2
        walk_at "y"
        refine ⟨_, _, rfl, rfl, fun i n own' hn ho' => ?_⟩
        by_cases hi : i < pre.length
        · rw [List.getElem?_append_left hi] at hn
          exact hp i n own' hn ho'
        · have hi2 : i = pre.length := by
            have := (List.getElem?_eq_some_iff.mp hn).1
            rw [List.length_append, List.length_singleton] at this
            omega
          subst hi2
          rw [List.getElem?_append_right (Nat.le_refl _), Nat.sub_self] at hn
          have hn : x = n := by simpa using hn
          subst hn
          rw [ho] at ho'
          cases ho'
          omega
  · rintro δ ω ⟨a, b, rfl, rfl, hp⟩
    rw [if_pos (lineOk_iff.mpr ⟨h1, hp⟩)]
    exact rfl
/-! ### ends_of -/
def R_ends_of (ds : List PyData) (r : Res Er) : Prop := ∃ (t : List (List Int)) (line : List Int), ds = [dT t, dI line] ∧ lineOk t line = true ∧ line.length ≤ 1000000 ∧ r = .ok (dI (endsOf t line))
abbrev sp_ends_of (K : PySem.W.Frag) (C : Er → Addr) : Sp := Pr C R_ends_of
theorem len_ends_of {ds : List PyData} {r : Res Er} (h : R_ends_of ds r) : ds.length = 2 := by
  obtain ⟨f, x, rfl, _⟩ := h; rfl
theorem compR_ends (t : List (List Int)) (line : List Int) : compR line (fun _ _ => true) (fun i n => .int ((t.getD i []).getD n.toNat 0)) = (endsOf t line).map .int := by
  rw [compR_all]
  unfold endsOf
  apply List.ext_getElem?
  intro i
  rw [List.getElem?_mapIdx, List.getElem?_map, List.getElem?_mapIdx]
  cases line[i]? <;> rfl
theorem wk_ends_of (K : PySem.W.Frag) (C : Er → Addr) (H : Hp) (ds : List PyData) (r : Res Er) (h : R_ends_of ds r) : SX H (t_ends_of K) (entry ds 2) [] (HandR r) := by
  obtain ⟨t, line, rfl, hok, hz, rfl⟩ := h
  obtain ⟨h1, h2⟩ := lineOk_iff.mp hok
  show SX H (t_ends_of K) [some (.arg (dT t)), some (.arg (dI line)), none, none] [] _
  unfold t_ends_of
  walk_at "y"
  refine el_dat (el_lcE line .int (by omega) (fun _ _ => true) (fun i n => .int ((t.getD i []).getD n.toNat 0)) ?_ ?_ ?_)
  · walk_at "y"
    refine ⟨rfl, _, rfl, .argT _ (noLA_ints line), fun acc => .argT _ (noLA_ints line)⟩
  · rintro i x hx ω' ⟨acc, rfl⟩
    have hi := (List.getElem?_eq_some_iff.mp hx).1
    have ho : t[i]? = some t[i] := List.getElem?_eq_getElem (by omega)
    generalize t[i] = own at ho
    have h3 := h2 _ _ _ hx ho
    refine ⟨?_, fun _ => ?_⟩
    · walk_at "y"
      exact ⟨rfl, rfl⟩
    · walk_at "y"
      refine eb_ixUL (itm_T t) (at_T ho) ?_
      walk_at "y"
      refine eb_ixUL (itm_aI own) (at_I (o := own.getD x.toNat 0) h3.1 (by rw [List.getD_eq_getElem?_getD, List.getElem?_eq_getElem (by omega)]; rfl)) ?_
      refine ⟨?_, rfl⟩
      rw [show t.getD i [] = own by rw [List.getD_eq_getElem?_getD, ho]; rfl]
  · rw [compR_ends]
    exact ⟨_, rfl, .dat _⟩
/-! ### is_stray, is_under_way -/
def R_is_stray (ds : List PyData) (r : Res Er) : Prop := ∃ (l : Let) (kept : List Int), ds = [dLet l, dI kept] ∧ LetsOk kept.length [l] ∧ r = .ok (.bool (stray kept l))
abbrev sp_is_stray (K : PySem.W.Frag) (C : Er → Addr) : Sp := Pr C R_is_stray
theorem len_is_stray {ds : List PyData} {r : Res Er} (h : R_is_stray ds r) : ds.length = 2 := by
  obtain ⟨f, x, rfl, _⟩ := h; rfl
def R_is_under_way (ds : List PyData) (r : Res Er) : Prop := ∃ (l : Let) (kept : List Int), ds = [dLet l, dI kept] ∧ LetsOk kept.length [l] ∧ r = .ok (.bool (underWay kept l))
abbrev sp_is_under_way (K : PySem.W.Frag) (C : Er → Addr) : Sp := Pr C R_is_under_way
theorem len_is_under_way {ds : List PyData} {r : Res Er} (h : R_is_under_way ds r) : ds.length = 2 := by
  obtain ⟨f, x, rfl, _⟩ := h; rfl
theorem entry_let (l : Let) (kept : List Int) : entry [dLet l, dI kept] 0 = [some (.dat (dLet l)), some (.arg (dI kept))] := by
  show [some (ent (dLet l)), some (ent (dI kept))] = _
  rw [ent_dat (noL_let l), ent_I]
theorem wk_is_stray (K : PySem.W.Frag) (C : Er → Addr) (H : Hp) (ds : List PyData) (r : Res Er) (h : R_is_stray ds r) : SX H (t_is_stray K) (entry ds 0) [] (HandR r) := by
  obtain ⟨l, kept, rfl, hl, rfl⟩ := h
  obtain ⟨⟨s0, s1⟩, t0, t1⟩ := hl l (by simp)
  rw [entry_let]
  unfold t_is_stray
  walk_at "yi"
  refine eb_ixUT (.dat _) (d := dOpt l.g) rfl ?_
  refine ⟨_, rfl, ?_⟩
  unfold stray
  cases hg : l.g with
  | none =>
    simp only
    refine ⟨true, rfl, fun _ => ?_, fun z => by cases z⟩
    walk_at "y"
    exact .dat _
  | some g =>
    simp only
    refine ⟨false, rfl, fun z => (by cases z), fun _ => ?_⟩
    walk_at "y"
    refine eb_ixUT (.dat _) (d := .int (g : Nat)) (by rw [hg]; rfl) ?_
    walk_at "y"
    refine eb_ixUT (.dat _) (d := .int l.t) rfl ?_
    walk_at "y"
    refine eb_ixUL (itm_aI kept) (at_I t0 (at0_get t0 t1)) ?_
    walk_at "y"
    refine ⟨_, rfl, ?_⟩
    by_cases c : (g : Int) < at0 kept l.t
    · rw [decide_eq_true c]
      refine iteT ?_
      walk_at "y"
      refine eb_ixUT (.dat _) (d := .int (l.p : Nat)) rfl ?_
      walk_at "y"
      refine eb_ixUT (.dat _) (d := .int l.s) rfl ?_
      walk_at "y"
      refine eb_ixUL (itm_aI kept) (at_I s0 (at0_get s0 s1)) ?_
      walk_at "y"
      exact .dat _
    · rw [decide_eq_false c]
      exact iteF (.dat _)
theorem wk_is_under_way (K : PySem.W.Frag) (C : Er → Addr) (H : Hp) (ds : List PyData) (r : Res Er) (h : R_is_under_way ds r) : SX H (t_is_under_way K) (entry ds 0) [] (HandR r) := by
  obtain ⟨l, kept, rfl, hl, rfl⟩ := h
  obtain ⟨⟨s0, s1⟩, t0, t1⟩ := hl l (by simp)
  rw [entry_let]
  unfold t_is_under_way
  walk_at "yi"
  refine eb_ixUT (.dat _) (d := .int (l.p : Nat)) rfl ?_
  walk_at "y"
  refine eb_ixUT (.dat _) (d := .int l.s) rfl ?_
  walk_at "y"
  refine eb_ixUL (itm_aI kept) (at_I s0 (at0_get s0 s1)) ?_
  walk_at "y"
  unfold underWay
  refine ⟨_, rfl, fun c => ?_, fun c => ?_⟩
  · have c := of_decide_eq_true c
    walk_at "y"
    rw [if_pos c]
    exact .dat _
  · have c := of_decide_eq_false c
    rw [if_neg c]
    walk_at "y"
    refine eb_ixUT (.dat _) (d := dOpt l.g) rfl ?_
    cases hg : l.g with
    | none =>
      refine ⟨_, rfl, true, rfl, ?_⟩
      exact iteT (.dat _)
    | some g =>
      refine ⟨_, rfl, false, rfl, ?_⟩
      refine iteF ?_
      walk_at "y"
      refine eb_ixUT (.dat _) (d := .int (g : Nat)) (by rw [hg]; rfl) ?_
      walk_at "y"
      refine eb_ixUT (.dat _) (d := .int l.t) rfl ?_
      walk_at "y"
      refine eb_ixUL (itm_aI kept) (at_I t0 (at0_get t0 t1)) ?_
      walk_at "y"
      exact .dat _
end Y

namespace Y
open PySem PySem.Spec L2
local macro_rules | `(tactic| walk_at "y1") => `(tactic| first
  | (fail_if_success (with_reducible show SX _ (tSeq (tIfS _ _ _) _) _ _ _)); (with_reducible refine sx_seq ?_)
  | with_reducible refine sx_asg ?_
  | with_reducible refine sx_if ?_
  | with_reducible refine sx_ret ?_
  | with_reducible refine sx_retN ?_
  | with_reducible refine sx_next ?_
  | with_reducible refine sx_app ?_
  | with_reducible refine sx_clear ?_
  | with_reducible refine sx_setL ?_
  | with_reducible refine sx_dput ?_
  | with_reducible refine sx_drop ?_
  | with_reducible refine eg_var (by with_unfolding_all rfl) ?_
  | with_reducible refine eg_int ?_
  | with_reducible refine eg_bl ?_
  | with_reducible refine eg_str ?_
  | with_reducible refine eg_non ?_
  | with_reducible refine eg_raw ?_
  | with_reducible refine eg_op ?_
  | with_reducible refine eg_cb ?_
  | with_reducible refine eg_tup ?_
  | with_reducible refine eg_isN ?_
  | with_reducible refine eg_notN ?_
  | with_reducible refine eg_and ?_
  | with_reducible refine eg_or ?_
  | with_reducible refine eg_not ?_
  | with_reducible refine eg_dnew ?_
  | with_reducible refine eg_dget ?_
  | with_reducible refine eg_dnotin ?_
  | with_reducible refine eg_un ?_
  | with_reducible refine eg_partsNot ?_
  | with_reducible refine eg_partsIx ?_
  | with_reducible refine et_test ?_
  | with_reducible refine et_B ?_
  | with_reducible refine et_not ?_
  | with_reducible refine et_and ?_
  | with_reducible refine et_or ?_
  | with_reducible refine et_yes ?_
  | with_reducible refine ea_nil ?_
  | with_reducible refine ea_cons ?_
  | with_reducible refine el_lst ?_
  | with_reducible refine el_slL ?_
  | with_reducible refine el_op ?_
  | with_reducible refine el_cb ?_
  | with_reducible refine el_lstRev ?_
  | with_reducible refine el_rng ?_
  | with_reducible refine eo_none ?_
  | with_reducible refine eo_some ?_
  | with_reducible refine sr_list ?_
  | with_reducible refine sr_rng ?_
  | with_reducible refine sr_enum ?_
  | with_reducible refine eb_add ?_
  | with_reducible refine eb_sub ?_
  | with_reducible refine eb_fdivL (by decide) (by decide) ?_
  | with_reducible refine eb_mulL (by decide) (by decide) ?_
  | with_reducible refine eb_mulR (by decide) (by decide) ?_
  | with_reducible refine eb_powL (by decide) (by decide) (by decide) ?_
  | with_reducible refine eb_mod (by decide) ?_
  | with_reducible refine eb_lt ?_
  | with_reducible refine eb_le ?_
  | with_reducible refine eb_gt ?_
  | with_reducible refine eb_ge ?_
  | with_reducible refine eb_eqI ?_
  | with_reducible refine eb_neI ?_
  | with_reducible refine eb_eqB ?_)
local macro_rules | `(tactic| walk_at "y1") => `(tactic| first
  | with_reducible refine call_cell ?_
  | with_reducible refine Exists.intro _ (Exists.intro _ (Exists.intro _ (And.intro (Eq.refl [A.raw (V.ref _), A.dat (PyData.int _)]) (And.intro (by assumption) (And.intro (by first | decide | omega) ?_))))))
local macro_rules | `(tactic| walk_at "y") => `(tactic| (repeat' (walk_at "y1")))
local macro_rules | `(tactic| walk_at "yi") => `(tactic| ((repeat' (walk_at "y1")); (with_reducible refine sx_seq ?_); (repeat' (walk_at "y1"))))


section
variable {K : PySem.W.Frag} {C : Er → Addr} {H0 : Hp} {δ : Sl} {ω : Om} {E : XK} {ts : TA} {P : A → Om → Prop}
theorem call_ends {hands : Int} {rows : List Row} (h : EA H0 ts δ ω fun bs ω1 => RdA ω1 bs [.int hands, dRows rows] ∧ (∀ e, endsM hands rows = .error e → ∀ H', Same H0 H' → E (.ref (C e)) none H') ∧ (∀ t, endsM hands rows = .ok t → P (.dat (dT t)) ω1)) : EG H0 (tCall (sp_ends K C) [] E ts) δ ω P :=
  eg_call fun σ H vs as S Q q => h σ H vs as S Q fun bs ω' us H' ⟨hr, h1, h2⟩ hl S' => q bs ω' us H' ⟨_, _, hr, ⟨hands, rows, rfl, rfl⟩, by
    cases e : endsM hands rows with
    | ok f => exact h2 f e
    | error e' => exact h1 e' e⟩ hl S'
theorem call_need_line {t : List (List Int)} {line : List Int} (h : EA H0 ts δ ω fun bs ω1 => RdA ω1 bs [dT t, dI line] ∧ (lineOk t line ≠ true → ∀ H', Same H0 H' → E (.ref (C .NoLine)) none H') ∧ (lineOk t line = true → P (.dat .none) ω1)) : EG H0 (tCall (sp_need_line K C) [] E ts) δ ω P :=
  eg_call fun σ H vs as S Q q => h σ H vs as S Q fun bs ω' us H' ⟨hr, h1, h2⟩ hl S' => q bs ω' us H' ⟨_, _, hr, ⟨t, line, rfl, rfl⟩, by
    by_cases e : lineOk t line = true
    · rw [if_pos e]; exact h2 e
    · rw [if_neg e]; exact h1 e⟩ hl S'
theorem call_ends_of {t : List (List Int)} {line : List Int} (hok : lineOk t line = true) (hz : line.length ≤ 1000000) (h : EA H0 ts δ ω fun bs ω1 => RdA ω1 bs [dT t, dI line] ∧ P (.dat (dI (endsOf t line))) ω1) : EG H0 (tCall (sp_ends_of K C) [] E ts) δ ω P :=
  eg_call fun σ H vs as S Q q => h σ H vs as S Q fun bs ω' us H' ⟨hr, hp⟩ hl S' => q bs ω' us H' ⟨_, _, hr, ⟨t, line, rfl, hok, hz, rfl⟩, hp⟩ hl S'
theorem call_is_stray {l : Let} {kept : List Int} (hl : LetsOk kept.length [l]) (h : EA H0 ts δ ω fun bs ω1 => RdA ω1 bs [dLet l, dI kept] ∧ P (.dat (.bool (stray kept l))) ω1) : EG H0 (tCall (sp_is_stray K C) [] E ts) δ ω P :=
  eg_call fun σ H vs as S Q q => h σ H vs as S Q fun bs ω' us H' ⟨hr, hp⟩ hl' S' => q bs ω' us H' ⟨_, _, hr, ⟨l, kept, rfl, hl, rfl⟩, hp⟩ hl' S'
theorem call_is_under_way {l : Let} {kept : List Int} (hl : LetsOk kept.length [l]) (h : EA H0 ts δ ω fun bs ω1 => RdA ω1 bs [dLet l, dI kept] ∧ P (.dat (.bool (underWay kept l))) ω1) : EG H0 (tCall (sp_is_under_way K C) [] E ts) δ ω P :=
  eg_call fun σ H vs as S Q q => h σ H vs as S Q fun bs ω' us H' ⟨hr, hp⟩ hl' S' => q bs ω' us H' ⟨_, _, hr, ⟨l, kept, rfl, hl, rfl⟩, hp⟩ hl' S'
end
theorem LetsOk.one {n : Nat} {f : List Let} {i : Nat} {l : Let} (h : LetsOk n f) (e : f[i]? = some l) : LetsOk n [l] := fun x hx => by
  rw [List.mem_singleton.mp hx]; exact h l (List.mem_of_getElem? e)
/-! ### strays_by -/
def R_strays_by (ds : List PyData) (r : Res Er) : Prop := ∃ (f : List Let) (kept : List Int), ds = [dLets f, dI kept] ∧ LetsOk kept.length f ∧ f.length ≤ 1000000 ∧ r = .ok (dI (straysBy f kept))
abbrev sp_strays_by (K : PySem.W.Frag) (C : Er → Addr) : Sp := Pr C R_strays_by
theorem len_strays_by {ds : List PyData} {r : Res Er} (h : R_strays_by ds r) : ds.length = 2 := by
  obtain ⟨f, x, rfl, _⟩ := h; rfl
theorem itm_lets {K : PySem.W.Frag} {H0 : Hp} {ω : Om} (f : List Let) : Itm K H0 ω (.arg (dLets f)) ((f.map dLet).map .dat) := .argT _ (noLA_lets f)
theorem wk_strays_by (K : PySem.W.Frag) (C : Er → Addr) (H : Hp) (ds : List PyData) (r : Res Er) (h : R_strays_by ds r) : SX H (t_strays_by K (sp_is_stray K C)) (entry ds 2) [] (HandR r) := by
  obtain ⟨f, kept, rfl, hl, hz, rfl⟩ := h
  show SX H (t_strays_by K (sp_is_stray K C)) [some (.arg (dLets f)), some (.arg (dI kept)), none, none] [] _
  unfold t_strays_by
  walk_at "y"
  refine el_dat (el_lcE f dLet (by omega) (fun _ l => stray kept l) (fun i _ => .int (i : Nat)) ?_ ?_ ?_)
  · walk_at "y"
    exact ⟨rfl, _, rfl, itm_lets f, fun _ => itm_lets f⟩
  · rintro i x hx ω' ⟨acc, rfl⟩
    refine ⟨?_, fun _ => ?_⟩
    · walk_at "y"
      refine call_is_stray (hl.one hx) ?_
      walk_at "y"
      exact ⟨.cons (.dat _) (.cons (.arg _) .nil), _, rfl, rfl, rfl⟩
    · walk_at "y"
      exact ⟨rfl, rfl⟩
  · rw [compR_idxs]
    exact ⟨_, rfl, .dat _⟩
section
variable {K : PySem.W.Frag} {C : Er → Addr} {H0 : Hp} {δ : Sl} {ω : Om} {E : XK} {ts : TA} {P : A → Om → Prop}
theorem call_strays_by {f : List Let} {kept : List Int} (hl : LetsOk kept.length f) (hz : f.length ≤ 1000000) (h : EA H0 ts δ ω fun bs ω1 => RdA ω1 bs [dLets f, dI kept] ∧ P (.dat (dI (straysBy f kept))) ω1) : EG H0 (tCall (sp_strays_by K C) [] E ts) δ ω P :=
  eg_call fun σ H vs as S Q q => h σ H vs as S Q fun bs ω' us H' ⟨hr, hp⟩ hl' S' => q bs ω' us H' ⟨_, _, hr, ⟨f, kept, rfl, hl, hz, rfl⟩, hp⟩ hl' S'
end
/-! ### kept_by -/
def R_kept_by (ds : List PyData) (r : Res Er) : Prop := ∃ (hands : Int) (rows : List Row) (line : List Int), ds = [.int hands, dRows rows, dI line] ∧ r = toRes dI (keptM hands rows line)
abbrev sp_kept_by (K : PySem.W.Frag) (C : Er → Addr) : Sp := Pr C R_kept_by
theorem len_kept_by {ds : List PyData} {r : Res Er} (h : R_kept_by ds r) : ds.length = 3 := by
  obtain ⟨f, x, y, rfl, _⟩ := h; rfl
theorem keptM_ok {hands : Int} {rows : List Row} {line kept : List Int} (h : keptM hands rows line = .ok kept) : (∃ f, lettersM hands rows = .ok f) ∧ lineOk (told hands rows) line = true ∧ kept = endsOf (told hands rows) line ∧ line.length = hands.toNat ∧ kept.length = hands.toNat := by
  unfold keptM endsM at h
  cases e : lettersM hands rows with
  | error e' => rw [e] at h; cases h
  | ok f =>
    rw [e] at h
    simp only at h
    split at h
    · rename_i c
      cases h
      have := (lineOk_iff.mp c).1
      rw [told_len] at this
      exact ⟨⟨f, rfl⟩, c, rfl, this, by rw [endsOf_len]; exact this⟩
    · cases h
theorem endsM_ok {hands : Int} {rows : List Row} {t : List (List Int)} (h : endsM hands rows = .ok t) : (∃ f, lettersM hands rows = .ok f) ∧ t = told hands rows := by
  unfold endsM at h
  cases e : lettersM hands rows with
  | error e' => rw [e] at h; cases h
  | ok f =>
    rw [e] at h
    cases h
    exact ⟨⟨f, rfl⟩, rfl⟩
theorem wk_kept_by (K : PySem.W.Frag) (C : Er → Addr) (H : Hp) (E : XK) (ds : List PyData) (r : Res Er) (h : R_kept_by ds r) (hE : ∀ e, r = .er e → ∀ H', Same H H' → E (.ref (C e)) none H') :
    SX H (t_kept_by K E (sp_ends K C) (sp_need_line K C) (sp_ends_of K C)) (entry ds 1) [] (HandR r) := by
  obtain ⟨hands, rows, line, rfl, rfl⟩ := h
  show SX H (t_kept_by K E (sp_ends K C) (sp_need_line K C) (sp_ends_of K C)) [some (.dat (.int hands)), some (.arg (dRows rows)), some (.arg (dI line)), none] [] _
  unfold t_kept_by
  walk_at "y"
  refine call_ends (hands := hands) (rows := rows) ?_
  walk_at "y"
  refine ⟨.cons (.dat _) (.cons (.arg _) .nil), fun e he => hE e (by unfold keptM; rw [he]; rfl), fun t ht => ?_⟩
  obtain ⟨⟨f, hf⟩, rfl⟩ := endsM_ok ht
  obtain ⟨h1, h2, _, _⟩ := lettersM_ok hf
  walk_at "y"
  refine call_need_line (t := told hands rows) (line := line) ?_
  walk_at "y"
  refine ⟨.cons (.dat _) (.cons (.arg _) .nil), fun hn => hE _ (by unfold keptM; rw [ht]; simp only; rw [if_neg hn]; rfl), fun hok => ?_⟩
  have hlen := (lineOk_iff.mp hok).1
  rw [told_len] at hlen
  walk_at "y"
  refine call_ends_of hok (by omega) ?_
  walk_at "y"
  refine ⟨.cons (.dat _) (.cons (.arg _) .nil), ?_⟩
  rw [show keptM hands rows line = .ok (endsOf (told hands rows) line) by unfold keptM; rw [ht]; simp only; rw [if_pos hok]]
  exact .dat _
section
variable {K : PySem.W.Frag} {C : Er → Addr} {H0 : Hp} {δ : Sl} {ω : Om} {E : XK} {ts : TA} {P : A → Om → Prop}
theorem call_kept_by {hands : Int} {rows : List Row} {line : List Int} (h : EA H0 ts δ ω fun bs ω1 => RdA ω1 bs [.int hands, dRows rows, dI line] ∧ (∀ e, keptM hands rows line = .error e → ∀ H', Same H0 H' → E (.ref (C e)) none H') ∧ (∀ k, keptM hands rows line = .ok k → P (.dat (dI k)) ω1)) : EG H0 (tCall (sp_kept_by K C) [] E ts) δ ω P :=
  eg_call fun σ H vs as S Q q => h σ H vs as S Q fun bs ω' us H' ⟨hr, h1, h2⟩ hl S' => q bs ω' us H' ⟨_, _, hr, ⟨hands, rows, line, rfl, rfl⟩, by
    cases e : keptM hands rows line with
    | ok f => exact h2 f e
    | error e' => exact h1 e' e⟩ hl S'
/-- letters, where they are told -/
theorem call_letters2 {hands : Int} {rows : List Row} (h : EA H0 ts δ ω fun bs ω1 => RdA ω1 bs [.int hands, dRows rows] ∧ (∀ e, lettersM hands rows = .error e → ∀ H', Same H0 H' → E (.ref (C e)) none H') ∧ (∀ f, lettersM hands rows = .ok f → P (.dat (dLets f)) ω1)) : EG H0 (tCall (sp_letters K C) [] E ts) δ ω P :=
  call_letters (EA.imp h fun bs ω1 hh => ⟨hands, rows, hh⟩)
end
/-! ### strays -/
def R_strays (ds : List PyData) (r : Res Er) : Prop := ∃ (hands : Int) (rows : List Row) (line : List Int), ds = [.int hands, dRows rows, dI line] ∧ r = toRes dI (straysM hands rows line)
abbrev sp_strays (K : PySem.W.Frag) (C : Er → Addr) : Sp := Pr C R_strays
theorem len_strays {ds : List PyData} {r : Res Er} (h : R_strays ds r) : ds.length = 3 := by
  obtain ⟨f, x, y, rfl, _⟩ := h; rfl
theorem letters_size {hands : Int} {rows : List Row} {f : List Let} (h : lettersM hands rows = .ok f) : f.length ≤ 1000 := by
  obtain ⟨_, _, h3, h4⟩ := lettersM_ok h
  have := goL_len h4
  rw [List.length_nil] at this
  omega
theorem straysM_eq {hands : Int} {rows : List Row} {line : List Int} {f : List Let} (h : lettersM hands rows = .ok f) : straysM hands rows line = match keptM hands rows line with
    | .error e => .error e
    | .ok k => .ok (straysBy f k) := by
  unfold straysM
  rw [h]
  all_goals (cases keptM hands rows line <;> rfl)
theorem straysM_bad {hands : Int} {rows : List Row} {line : List Int} {e : Er} (h : lettersM hands rows = .error e) : straysM hands rows line = .error e := by
  unfold straysM keptM endsM
  rw [h]
theorem wk_strays (K : PySem.W.Frag) (C : Er → Addr) (H : Hp) (E : XK) (ds : List PyData) (r : Res Er) (h : R_strays ds r) (hE : ∀ e, r = .er e → ∀ H', Same H H' → E (.ref (C e)) none H') :
    SX H (t_strays K E (sp_kept_by K C) (sp_letters K C) (sp_strays_by K C)) (entry ds 0) [] (HandR r) := by
  obtain ⟨hands, rows, line, rfl, rfl⟩ := h
  show SX H (t_strays K E (sp_kept_by K C) (sp_letters K C) (sp_strays_by K C)) [some (.dat (.int hands)), some (.arg (dRows rows)), some (.arg (dI line))] [] _
  unfold t_strays
  walk_at "y"
  cases hf : lettersM hands rows with
  | error e =>
    refine eg_call ?_
    walk_at "y"
    refine call_letters2 (hands := hands) (rows := rows) ?_
    walk_at "y"
    refine ⟨.cons (.dat _) (.cons (.arg _) .nil), fun e he => hE e (by rw [straysM_bad he]; rfl), fun f hf' => ?_⟩
    rw [hf] at hf'; cases hf'
  | ok f =>
    cases hk : keptM hands rows line with
    | error e =>
      refine eg_call ?_
      walk_at "y"
      refine call_letters_ok hf ?_
      walk_at "y"
      refine ⟨.cons (.dat _) (.cons (.arg _) .nil), ?_⟩
      walk_at "y"
      refine call_kept_by (hands := hands) (rows := rows) (line := line) ?_
      walk_at "y"
      refine ⟨.cons (.dat _) (.cons (.arg _) (.cons (.arg _) .nil)), fun e he => hE e (by rw [straysM_eq hf, he]; rfl), fun k hk' => ?_⟩
      rw [hk] at hk'; cases hk'
    | ok k =>
      have hkl := (keptM_ok hk).2.2.2.2
      refine call_strays_by (f := f) (kept := k) (by rw [hkl]; exact lets_ok hf) (by have := letters_size hf; omega) ?_
      walk_at "y"
      refine call_letters_ok hf ?_
      walk_at "y"
      refine ⟨.cons (.dat _) (.cons (.arg _) .nil), ?_⟩
      walk_at "y"
      refine call_kept_by (hands := hands) (rows := rows) (line := line) ?_
      walk_at "y"
      refine ⟨.cons (.dat _) (.cons (.arg _) (.cons (.arg _) .nil)), fun e he => (by rw [hk] at he; cases he), fun k' hk' => ?_⟩
      rw [hk] at hk'; cases hk'
      walk_at "y"
      refine ⟨.cons (.dat _) (.cons (.dat _) .nil), ?_⟩
      rw [straysM_eq hf, hk]
      exact .dat _
section
variable {K : PySem.W.Frag} {C : Er → Addr} {H0 : Hp} {δ : Sl} {ω : Om} {E : XK} {ts : TA} {P : A → Om → Prop}
theorem call_strays {hands : Int} {rows : List Row} {line : List Int} (h : EA H0 ts δ ω fun bs ω1 => RdA ω1 bs [.int hands, dRows rows, dI line] ∧ (∀ e, straysM hands rows line = .error e → ∀ H', Same H0 H' → E (.ref (C e)) none H') ∧ (∀ k, straysM hands rows line = .ok k → P (.dat (dI k)) ω1)) : EG H0 (tCall (sp_strays K C) [] E ts) δ ω P :=
  eg_call fun σ H vs as S Q q => h σ H vs as S Q fun bs ω' us H' ⟨hr, h1, h2⟩ hl S' => q bs ω' us H' ⟨_, _, hr, ⟨hands, rows, line, rfl, rfl⟩, by
    cases e : straysM hands rows line with
    | ok f => exact h2 f e
    | error e' => exact h1 e' e⟩ hl S'
end
/-! ### under_way -/
def R_under_way (ds : List PyData) (r : Res Er) : Prop := ∃ (hands : Int) (rows : List Row) (line : List Int), ds = [.int hands, dRows rows, dI line] ∧ r = toRes dI (waysM hands rows line)
abbrev sp_under_way (K : PySem.W.Frag) (C : Er → Addr) : Sp := Pr C R_under_way
theorem len_under_way {ds : List PyData} {r : Res Er} (h : R_under_way ds r) : ds.length = 3 := by
  obtain ⟨f, x, y, rfl, _⟩ := h; rfl
theorem wk_under_way (K : PySem.W.Frag) (C : Er → Addr) (H : Hp) (E : XK) (ds : List PyData) (r : Res Er) (h : R_under_way ds r) (hE : ∀ e, r = .er e → ∀ H', Same H H' → E (.ref (C e)) none H') :
    SX H (t_under_way K E (sp_kept_by K C) (sp_letters K C) (sp_is_under_way K C)) (entry ds 3) [] (HandR r) := by
  obtain ⟨hands, rows, line, rfl, rfl⟩ := h
  show SX H (t_under_way K E (sp_kept_by K C) (sp_letters K C) (sp_is_under_way K C)) [some (.dat (.int hands)), some (.arg (dRows rows)), some (.arg (dI line)), none, none, none] [] _
  unfold t_under_way
  walk_at "y"
  refine call_kept_by (hands := hands) (rows := rows) (line := line) ?_
  walk_at "y"
  refine ⟨.cons (.dat _) (.cons (.arg _) (.cons (.arg _) .nil)), fun e he => hE e (by unfold waysM; rw [he]; rfl), fun k hk => ?_⟩
  obtain ⟨⟨f, hf⟩, _, _, _, hkl⟩ := keptM_ok hk
  have hl : LetsOk k.length f := by rw [hkl]; exact lets_ok hf
  walk_at "y"
  refine el_dat (el_lcE f dLet (by have := letters_size hf; omega) (fun _ l => underWay k l) (fun i _ => .int (i : Nat)) ?_ ?_ ?_)
  · walk_at "y"
    refine call_letters_ok hf ?_
    walk_at "y"
    refine ⟨.cons (.dat _) (.cons (.arg _) .nil), ?_⟩
    walk_at "y"
    exact ⟨rfl, _, rfl, .dat _, fun _ => .dat _⟩
  · rintro i x hx ω' ⟨acc, rfl⟩
    refine ⟨?_, fun _ => ?_⟩
    · walk_at "y"
      refine call_is_under_way (hl.one hx) ?_
      walk_at "y"
      exact ⟨.cons (.dat _) (.cons (.dat _) .nil), _, rfl, rfl, rfl⟩
    · walk_at "y"
      exact ⟨rfl, rfl⟩
  · rw [compR_idxs]
    refine ⟨_, rfl, ?_⟩
    rw [show waysM hands rows line = .ok (waysBy f k) by unfold waysM; rw [hk, hf]]
    exact .dat _
section
variable {K : PySem.W.Frag} {C : Er → Addr} {H0 : Hp} {δ : Sl} {ω : Om} {E : XK} {ts : TA} {P : A → Om → Prop}
theorem call_under_way {hands : Int} {rows : List Row} {line : List Int} (h : EA H0 ts δ ω fun bs ω1 => RdA ω1 bs [.int hands, dRows rows, dI line] ∧ (∀ e, waysM hands rows line = .error e → ∀ H', Same H0 H' → E (.ref (C e)) none H') ∧ (∀ k, waysM hands rows line = .ok k → P (.dat (dI k)) ω1)) : EG H0 (tCall (sp_under_way K C) [] E ts) δ ω P :=
  eg_call fun σ H vs as S Q q => h σ H vs as S Q fun bs ω' us H' ⟨hr, h1, h2⟩ hl S' => q bs ω' us H' ⟨_, _, hr, ⟨hands, rows, line, rfl, rfl⟩, by
    cases e : waysM hands rows line with
    | ok f => exact h2 f e
    | error e' => exact h1 e' e⟩ hl S'
end
/-! ### is_sound -/
def R_is_sound (ds : List PyData) (r : Res Er) : Prop := ∃ (hands : Int) (rows : List Row) (line : List Int), ds = [.int hands, dRows rows, dI line] ∧ r = toRes PyData.bool (soundM hands rows line)
abbrev sp_is_sound (K : PySem.W.Frag) (C : Er → Addr) : Sp := Pr C R_is_sound
theorem len_is_sound {ds : List PyData} {r : Res Er} (h : R_is_sound ds r) : ds.length = 3 := by
  obtain ⟨f, x, y, rfl, _⟩ := h; rfl
theorem wk_is_sound (K : PySem.W.Frag) (C : Er → Addr) (H : Hp) (E : XK) (ds : List PyData) (r : Res Er) (h : R_is_sound ds r) (hE : ∀ e, r = .er e → ∀ H', Same H H' → E (.ref (C e)) none H') :
    SX H (t_is_sound K E (sp_strays K C)) (entry ds 0) [] (HandR r) := by
  obtain ⟨hands, rows, line, rfl, rfl⟩ := h
  show SX H (t_is_sound K E (sp_strays K C)) [some (.dat (.int hands)), some (.arg (dRows rows)), some (.arg (dI line))] [] _
  unfold t_is_sound
  walk_at "y"
  refine call_strays (hands := hands) (rows := rows) (line := line) ?_
  walk_at "y"
  refine ⟨.cons (.dat _) (.cons (.arg _) (.cons (.arg _) .nil)), fun e he => hE e (by unfold soundM; rw [he]; rfl), fun k hk => ?_⟩
  walk_at "y"
  refine el_dat (el_lst ?_)
  walk_at "y"
  refine ⟨szOk (by decide), [], rfl, ?_⟩
  refine eb_eqD (d := dI k) (e := dI []) (.dat _) (.dat _) (shaped_ints _) (shaped_ints _) ?_
  rw [eqv_dI, show soundM hands rows line = .ok (decide (k = [])) by unfold soundM; rw [hk]]
  exact .dat _
section
variable {K : PySem.W.Frag} {C : Er → Addr} {H0 : Hp} {δ : Sl} {ω : Om} {E : XK} {ts : TA} {P : A → Om → Prop}
theorem call_is_sound {hands : Int} {rows : List Row} {line : List Int} (h : EA H0 ts δ ω fun bs ω1 => RdA ω1 bs [.int hands, dRows rows, dI line] ∧ (∀ e, soundM hands rows line = .error e → ∀ H', Same H0 H' → E (.ref (C e)) none H') ∧ (∀ k, soundM hands rows line = .ok k → P (.dat (.bool k)) ω1)) : EG H0 (tCall (sp_is_sound K C) [] E ts) δ ω P :=
  eg_call fun σ H vs as S Q q => h σ H vs as S Q fun bs ω' us H' ⟨hr, h1, h2⟩ hl S' => q bs ω' us H' ⟨_, _, hr, ⟨hands, rows, line, rfl, rfl⟩, by
    cases e : soundM hands rows line with
    | ok f => exact h2 f e
    | error e' => exact h1 e' e⟩ hl S'
end
end Y

namespace Y
open PySem PySem.Spec L2
local macro_rules | `(tactic| walk_at "y1") => `(tactic| first
  | (fail_if_success (with_reducible show SX _ (tSeq (tIfS _ _ _) _) _ _ _)); (with_reducible refine sx_seq ?_)
  | with_reducible refine sx_asg ?_
  | with_reducible refine sx_if ?_
  | with_reducible refine sx_ret ?_
  | with_reducible refine sx_retN ?_
  | with_reducible refine sx_next ?_
  | with_reducible refine sx_app ?_
  | with_reducible refine sx_clear ?_
  | with_reducible refine sx_setL ?_
  | with_reducible refine sx_dput ?_
  | with_reducible refine sx_drop ?_
  | with_reducible refine eg_var (by with_unfolding_all rfl) ?_
  | with_reducible refine eg_int ?_
  | with_reducible refine eg_bl ?_
  | with_reducible refine eg_str ?_
  | with_reducible refine eg_non ?_
  | with_reducible refine eg_raw ?_
  | with_reducible refine eg_op ?_
  | with_reducible refine eg_cb ?_
  | with_reducible refine eg_tup ?_
  | with_reducible refine eg_isN ?_
  | with_reducible refine eg_notN ?_
  | with_reducible refine eg_and ?_
  | with_reducible refine eg_or ?_
  | with_reducible refine eg_not ?_
  | with_reducible refine eg_dnew ?_
  | with_reducible refine eg_dget ?_
  | with_reducible refine eg_dnotin ?_
  | with_reducible refine eg_un ?_
  | with_reducible refine eg_partsNot ?_
  | with_reducible refine eg_partsIx ?_
  | with_reducible refine et_test ?_
  | with_reducible refine et_B ?_
  | with_reducible refine et_not ?_
  | with_reducible refine et_and ?_
  | with_reducible refine et_or ?_
  | with_reducible refine et_yes ?_
  | with_reducible refine ea_nil ?_
  | with_reducible refine ea_cons ?_
  | with_reducible refine el_lst ?_
  | with_reducible refine el_slL ?_
  | with_reducible refine el_op ?_
  | with_reducible refine el_cb ?_
  | with_reducible refine el_lstRev ?_
  | with_reducible refine el_rng ?_
  | with_reducible refine eo_none ?_
  | with_reducible refine eo_some ?_
  | with_reducible refine sr_list ?_
  | with_reducible refine sr_rng ?_
  | with_reducible refine sr_enum ?_
  | with_reducible refine eb_add ?_
  | with_reducible refine eb_sub ?_
  | with_reducible refine eb_fdivL (by decide) (by decide) ?_
  | with_reducible refine eb_mulL (by decide) (by decide) ?_
  | with_reducible refine eb_mulR (by decide) (by decide) ?_
  | with_reducible refine eb_powL (by decide) (by decide) (by decide) ?_
  | with_reducible refine eb_mod (by decide) ?_
  | with_reducible refine eb_lt ?_
  | with_reducible refine eb_le ?_
  | with_reducible refine eb_gt ?_
  | with_reducible refine eb_ge ?_
  | with_reducible refine eb_eqI ?_
  | with_reducible refine eb_neI ?_
  | with_reducible refine eb_eqB ?_)
local macro_rules | `(tactic| walk_at "y1") => `(tactic| first
  | with_reducible refine call_cell ?_
  | with_reducible refine Exists.intro _ (Exists.intro _ (Exists.intro _ (And.intro (Eq.refl [A.raw (V.ref _), A.dat (PyData.int _)]) (And.intro (by assumption) (And.intro (by first | decide | omega) ?_))))))
local macro_rules | `(tactic| walk_at "y") => `(tactic| (repeat' (walk_at "y1")))
local macro_rules | `(tactic| walk_at "yi") => `(tactic| ((repeat' (walk_at "y1")); (with_reducible refine sx_seq ?_); (repeat' (walk_at "y1"))))


/-! ### _law_wholes -/
def R_l_wholes (ds : List PyData) (r : Res Er) : Prop := ∃ ns : List Int, ds = [dI ns, dI ns] ∧ ns.length ≤ 1000000 ∧ r = .ok (.bool true)
abbrev sp_l_wholes (K : PySem.W.Frag) (C : Er → Addr) : Sp := Pr C R_l_wholes
theorem len_l_wholes {ds : List PyData} {r : Res Er} (h : R_l_wholes ds r) : ds.length = 2 := by
  obtain ⟨f, rfl, _⟩ := h; rfl
theorem wk_l_wholes (K : PySem.W.Frag) (C : Er → Addr) (H : Hp) (ds : List PyData) (r : Res Er) (h : R_l_wholes ds r) : SX H (t_l_wholes K (sp_l_whole K C)) (entry ds 1) [] (HandR r) := by
  obtain ⟨ns, rfl, hz, rfl⟩ := h
  show SX H (t_l_wholes K (sp_l_whole K C)) [some (.arg (dI ns)), some (.arg (dI ns)), none] [] _
  unfold t_l_wholes
  walk_at "yi"
  refine ec_isi (d := dI ns) (.arg _) kb_list ?_
  refine ⟨_, rfl, ?_⟩
  simp only [Bool.not_true, Bool.false_eq_true, if_false]
  walk_at "y"
  refine ec_len (itm_aI ns) ?_
  walk_at "y"
  refine ec_len (itm_aI ns) ?_
  refine eb_neI ?_
  refine ⟨false, by simp, fun z => (by cases z), fun _ => ?_⟩
  walk_at "y"
  refine sx_forP (xs := List.range ns.length) (it := fun _ c => .dat (.int (c : Nat))) (fun pre δ ω => ∃ a, δ = [some (.arg (dI ns)), some (.arg (dI ns)), a]) ?_ ?_ ?_
  · walk_at "y"
    refine ec_len (itm_aI ns) ?_
    walk_at "y"
    refine ⟨_, rfl, by rw [List.length_map]; omega, ?_⟩
    rw [List.length_map]
    exact ⟨map_idx _ _, ⟨_, rfl⟩, fun _ _ _ _ => trivial⟩
  · rintro pre x post δ ω e ⟨a, rfl⟩
    obtain ⟨rfl, hpl⟩ := range_mid e
    obtain ⟨v, hv⟩ : ∃ v, ns[pre.length]? = some v := ⟨_, List.getElem?_eq_getElem hpl⟩
    have hv2 := at_I (t := ns) (i := (pre.length : Nat)) (Int.natCast_nonneg _) (by rw [Int.toNat_natCast]; exact hv)
    refine ⟨_, gx_name, ?_⟩
    walk_at "y"
    refine call_whole ?_
    walk_at "y"
    refine eb_ixUL (itm_aI ns) hv2 ?_
    walk_at "y"
    refine ⟨.int v, .cons (.dat _) .nil, fun kv => by simp, ?_⟩
    refine ⟨_, rfl, ?_⟩
    simp only [isInt, Bool.not_true, Bool.false_eq_true, if_false]
    walk_at "y"
    refine eb_ixUL (itm_aI ns) hv2 ?_
    walk_at "y"
    refine eb_ixUL (itm_aI ns) hv2 ?_
    refine eb_neI ?_
    refine ⟨_, rfl, fun z => absurd z (by simp), fun _ => ?_⟩
    walk_at "y"
    exact ⟨_, rfl⟩
  · rintro δ ω ⟨a, rfl⟩
    walk_at "y"
    exact .dat _
/-! ### _law_ends_by -/
def R_l_ends_by (ds : List PyData) (r : Res Er) : Prop := ∃ (hands : Int) (rows : List Row) (f : List Let), ds = [dRows rows, .int hands] ∧ lettersM hands rows = .ok f ∧ r = .ok (dT (told hands rows))
abbrev sp_l_ends_by (K : PySem.W.Frag) (C : Er → Addr) : Sp := Pr C R_l_ends_by
theorem len_l_ends_by {ds : List PyData} {r : Res Er} (h : R_l_ends_by ds r) : ds.length = 2 := by
  obtain ⟨f, x, y, rfl, _⟩ := h; rfl
theorem wk_l_ends_by (K : PySem.W.Frag) (C : Er → Addr) (H : Hp) (ds : List PyData) (r : Res Er) (h : R_l_ends_by ds r) : SX H (t_l_ends_by K) (entry ds 4) [] (HandR r) := by
  obtain ⟨hands, rows, f, rfl, hf, rfl⟩ := h
  show SX H (t_l_ends_by K) [some (.arg (dRows rows)), some (.dat (.int hands)), none, none, none, none] [] _
  unfold t_l_ends_by
  obtain ⟨h1, h2, h3, hgo⟩ := lettersM_ok hf
  obtain ⟨n, rfl⟩ : ∃ n : Nat, hands = (n : Int) := ⟨hands.toNat, by omega⟩
  walk_at "y"
  refine eg_lcZ ?_
  walk_at "y"
  refine ⟨rfl, n, rfl, by omega, ?_⟩
  rw [← begunAll_nil]
  walk_at "y"
  refine sx_forP (xs := List.range rows.length) (it := fun _ c => .dat (.int (c : Nat))) (fun pre δ ω => ∃ a, δ = [some (.arg (dRows rows)), some (.dat (.int n)), some (.ptr 0), a, none, none] ∧ ω = omT (begunAll n (rows.take pre.length))) ?_ ?_ ?_
  · walk_at "y"
    refine ec_len (itm_rows rows) ?_
    walk_at "y"
    refine ⟨_, rfl, by rw [List.length_map]; omega, ?_⟩
    rw [List.length_map]
    exact ⟨map_idx _ _, ⟨_, rfl, rfl⟩, fun _ _ _ _ => trivial⟩
  · rintro pre x post δ ω e ⟨a, rfl, rfl⟩
    obtain ⟨rfl, hpl⟩ := range_mid e
    obtain ⟨r, hr⟩ : ∃ r, rows[pre.length]? = some r := ⟨_, List.getElem?_eq_getElem hpl⟩
    obtain ⟨f1, f2, _, hst, _⟩ := goL_at hgo hr
    refine ⟨_, gx_name, ?_⟩
    rw [List.length_append, List.length_singleton, List.take_add_one, hr]
    have row : ∀ {ω : Om}, Itm K H ω (.arg (dRows rows)) (rows.map fun r => .dat (dRow r)) := itm_rows rows
    have hat := at_row hr
    have htl : (rows.take pre.length).length = pre.length := by rw [List.length_take]; omega
    cases hst with
    | @send h t a1 a2 =>
      walk_at "y"
      refine eb_ixUL row hat ?_
      walk_at "y"
      refine eb_ixUT (.dat _) (d := .str wSend) at_cons ?_
      walk_at "y"
      refine eb_eqS shw_send shw_note ?_
      refine ⟨_, rfl, fun z => absurd (of_decide_eq_true z) ne_sn, fun _ => ?_⟩
      walk_at "y"
      exact ⟨_, rfl, congrArg omT (begun_other (fun x => by simp [ne_sn]))⟩
    | @got h l y a1 hy ht hg =>
      walk_at "y"
      refine eb_ixUL row hat ?_
      walk_at "y"
      refine eb_ixUT (.dat _) (d := .str wGot) at_cons ?_
      walk_at "y"
      refine eb_eqS shw_got shw_note ?_
      refine ⟨_, rfl, fun z => absurd (of_decide_eq_true z) ne_gn, fun _ => ?_⟩
      walk_at "y"
      exact ⟨_, rfl, congrArg omT (begun_other (fun x => by simp [ne_gn]))⟩
    | @note h a1 =>
      walk_at "y"
      refine eb_ixUL row hat ?_
      walk_at "y"
      refine eb_ixUT (.dat _) (d := .str wNote) at_cons ?_
      walk_at "y"
      refine eb_eqS shw_note shw_note ?_
      refine ⟨_, rfl, fun _ => ?_, fun z => absurd rfl (of_decide_eq_false z)⟩
      walk_at "y"
      refine eb_ixUL row hat ?_
      walk_at "y"
      refine eb_ixUT (.dat _) (d := .int h) (at_ns (ns := [h]) (j := 0) rfl) ?_
      refine eb_ixUL (.ptr rfl) (c := .ptr (h.toNat + 1)) (at_nat a1.1 (by rw [List.getElem?_map, begunAll_len, List.getElem?_range (by omega)]; rfl)) ?_
      have hb := omT_get (begun_get (pre := rows.take pre.length) a1)
      refine ⟨_, _, rfl, hb, ?_⟩
      walk_at "y"
      refine ⟨_, _, rfl, hb, szLt ?_, ?_⟩
      · have := notes_len h (rows.take pre.length) 0
        rw [List.length_map]
        unfold begun
        rw [List.length_cons]
        omega
      refine ⟨_, rfl, ?_⟩
      have hbn := begun_note (pre := rows.take pre.length) a1
      rw [htl] at hbn
      show _ = omT (begunAll n (rows.take pre.length ++ [Row.note h]))
      rw [oI_snoc, omT_set, hbn]
  · rintro δ ω ⟨a, rfl, rfl⟩
    rw [range_done, List.take_length]
    walk_at "y"
    refine el_dat (el_lcL (List.range n) (fun i => .ptr (i + 1)) (by simp; omega) (fun _ => true) (fun i => dI (told1 rows (i : Nat))) ?_ ?_ ?_)
    · walk_at "y"
      refine ⟨rfl, ?_, fun acc => ?_⟩
      · have := Itm.ptr (K := K) (H0 := H) (ω := omT (begunAll n rows)) (k := 0) rfl
        rw [begunAll_len] at this
        exact this
      · have := Itm.ptr (K := K) (H0 := H) (ω := omT (begunAll n rows) ++ [.lst acc]) (k := 0) rfl
        rw [begunAll_len] at this
        exact this
    · rintro i hi ω' ⟨acc, rfl⟩
      have hi := List.mem_range.mp hi
      have hg := omT_get (begun_get (n := n) (pre := rows) (h := (i : Int)) ⟨by omega, by omega⟩)
      rw [Int.toNat_natCast] at hg
      refine ⟨?_, fun _ => ?_⟩
      · walk_at "y"
        exact ⟨rfl, rfl⟩
      · walk_at "y"
        refine el_dat (el_lst ?_)
        walk_at "y"
        refine ec_len (itm_rows rows) ?_
        walk_at "y"
        refine ⟨szOk (by simp), [.int (rows.length : Nat)], by rw [List.length_map]; rfl, ?_⟩
        refine eb_dat (ebl_cat (.ptr (by rw [List.getElem?_append_left (List.getElem?_eq_some_iff.mp hg).1]; exact hg)) (.dat _) rfl rfl (szOk ?_) ?_)
        · have := notes_len (i : Int) rows 0
          simp only [List.length_map, List.length_cons, List.length_nil, begun]
          omega
        · refine ⟨(told1 rows (i : Nat)).map .int, ?_, rfl, rfl⟩
          show _ = ((begun rows i ++ [(rows.length : Int)]).map PyData.int).map A.dat
          rw [List.map_append, List.map_append, List.map_map]
          rfl
    rw [filter_yes]
    refine ⟨_, rfl, ?_⟩
    show Fin _ _ (dT _)
    rw [show told (n : Int) rows = (List.range n).map fun h : Nat => told1 rows h from rfl, dT, List.map_map]
    exact .dat _
/-! ### _law_line_by -/
def lineBy (c : Int) (t : List (List Int)) : List Int := (List.range t.length).map fun i : Nat => (c + 7919 * (i : Int)) * 48271 % 2147483647 % ((t.getD i []).length : Int)
theorem lineBy_len (c : Int) (t : List (List Int)) : (lineBy c t).length = t.length := by simp [lineBy]
theorem lineBy_ok {c : Int} {t : List (List Int)} (h : ∀ o ∈ t, o ≠ []) : lineOk t (lineBy c t) = true := by
  rw [lineOk_iff]
  refine ⟨lineBy_len c t, fun i n own hn ho => ?_⟩
  have hi := (List.getElem?_eq_some_iff.mp ho).1
  unfold lineBy at hn
  rw [List.getElem?_map, List.getElem?_range hi] at hn
  have hn : (c + 7919 * (i : Int)) * 48271 % 2147483647 % ((t.getD i []).length : Int) = n := by simpa using hn
  rw [show t.getD i [] = own by rw [List.getD_eq_getElem?_getD, ho]; rfl] at hn
  have := List.length_pos_iff.mpr (h own (List.mem_of_getElem? ho))
  rw [← hn]
  exact ⟨Int.emod_nonneg _ (by omega), Int.emod_lt_of_pos _ (by omega)⟩
def R_l_line_by (ds : List PyData) (r : Res Er) : Prop := ∃ (c : Int) (t : List (List Int)), ds = [.int c, dT t] ∧ (∀ o ∈ t, o ≠ []) ∧ t.length ≤ 1000000 ∧ r = .ok (dI (lineBy c t))
abbrev sp_l_line_by (K : PySem.W.Frag) (C : Er → Addr) : Sp := Pr C R_l_line_by
theorem len_l_line_by {ds : List PyData} {r : Res Er} (h : R_l_line_by ds r) : ds.length = 2 := by
  obtain ⟨f, x, rfl, _⟩ := h; rfl
theorem wk_l_line_by (K : PySem.W.Frag) (C : Er → Addr) (H : Hp) (ds : List PyData) (r : Res Er) (h : R_l_line_by ds r) : SX H (t_l_line_by K) (entry ds 1) [] (HandR r) := by
  obtain ⟨c, t, rfl, hne, hz, rfl⟩ := h
  show SX H (t_l_line_by K) [some (.dat (.int c)), some (.arg (dT t)), none] [] _
  unfold t_l_line_by
  walk_at "y"
  refine el_dat (el_lcR (n := t.length) (by omega) (fun _ => true) (fun i => .int ((c + 7919 * (i : Int)) * 48271 % 2147483647 % ((t.getD i []).length : Int))) ?_ ?_ ?_)
  · walk_at "y"
    refine ec_len (itm_T t) ?_
    rw [List.length_map]
    walk_at "y"
    exact ⟨rfl, rfl⟩
  · rintro i hi ω' ⟨acc, rfl⟩
    have ho : t[i]? = some t[i] := List.getElem?_eq_getElem (by omega)
    generalize t[i] = own at ho
    refine ⟨?_, fun _ => ?_⟩
    · walk_at "y"
      exact ⟨rfl, rfl⟩
    · walk_at "y"
      refine eb_ixUL (itm_T t) (at_T ho) ?_
      walk_at "y"
      refine ec_len (itm_aI own) ?_
      rw [List.length_map]
      have := List.length_pos_iff.mpr (hne own (List.mem_of_getElem? ho))
      refine eb_mod (by omega) ?_
      refine ⟨?_, rfl⟩
      rw [show t.getD i [] = own by rw [List.getD_eq_getElem?_getD, ho]; rfl]
  rw [filter_yes]
  refine ⟨_, rfl, ?_⟩
  rw [dI_rng]
  exact .dat _
theorem told_ne (hands : Int) (rows : List Row) : ∀ o ∈ told hands rows, o ≠ [] := by
  intro o ho
  unfold told at ho
  obtain ⟨h, _, rfl⟩ := List.mem_map.mp ho
  intro e
  have := (told1_len rows h).1
  rw [e] at this
  simp at this
section
variable {K : PySem.W.Frag} {C : Er → Addr} {H0 : Hp} {δ : Sl} {ω : Om} {E : XK} {ts : TA} {P : A → Om → Prop}
theorem call_wholes {ns : List Int} (hz : ns.length ≤ 1000000) (h : EA H0 ts δ ω fun bs ω1 => RdA ω1 bs [dI ns, dI ns] ∧ P (.dat (.bool true)) ω1) : EG H0 (tCall (sp_l_wholes K C) [] E ts) δ ω P :=
  eg_call fun σ H vs as S Q q => h σ H vs as S Q fun bs ω' us H' ⟨hr, hp⟩ hl' S' => q bs ω' us H' ⟨_, _, hr, ⟨ns, rfl, hz, rfl⟩, hp⟩ hl' S'
theorem call_ends_by {hands : Int} {rows : List Row} {f : List Let} (hf : lettersM hands rows = .ok f) (h : EA H0 ts δ ω fun bs ω1 => RdA ω1 bs [dRows rows, .int hands] ∧ P (.dat (dT (told hands rows))) ω1) : EG H0 (tCall (sp_l_ends_by K C) [] E ts) δ ω P :=
  eg_call fun σ H vs as S Q q => h σ H vs as S Q fun bs ω' us H' ⟨hr, hp⟩ hl S' => q bs ω' us H' ⟨_, _, hr, ⟨hands, rows, f, rfl, hf, rfl⟩, hp⟩ hl S'
theorem call_line_by {hands : Int} {rows : List Row} {c : Int} (hh : hands ≤ 40) (h : EA H0 ts δ ω fun bs ω1 => RdA ω1 bs [.int c, dT (told hands rows)] ∧ P (.dat (dI (lineBy c (told hands rows)))) ω1) : EG H0 (tCall (sp_l_line_by K C) [] E ts) δ ω P :=
  eg_call fun σ H vs as S Q q => h σ H vs as S Q fun bs ω' us H' ⟨hr, hp⟩ hl S' => q bs ω' us H' ⟨_, _, hr, ⟨c, told hands rows, rfl, told_ne _ _, by rw [told_len]; omega, rfl⟩, hp⟩ hl S'
end
end Y

/-! Mf: falling: plain Lean. -/
namespace Y
open PySem PySem.Spec L2

def naGo (place : Int) : Nat → Int → List Int → Int
  | _, f, [] => f
  | k, f, o :: os => naGo place (k + 1) (if o ≤ place then (k : Int) else f) os
def numAhead (own : List Int) (place : Int) : Int := naGo place 0 0 own
theorem naGo_snoc (place : Int) : ∀ (os : List Int) (o : Int) (k : Nat) (f : Int), naGo place k f (os ++ [o]) = if o ≤ place then ((k + os.length : Nat) : Int) else naGo place k f os
  | [], o, k, f => by simp [naGo]
  | p :: os, o, k, f => by
    simp only [List.cons_append, naGo, naGo_snoc place os, List.length_cons]
    rw [show k + 1 + os.length = k + (os.length + 1) by omega]
theorem na_spec (place : Int) : ∀ (os : List Int) (k : Nat) (f : Int), (naGo place k f os = f ∧ ∀ (j : Nat) (o : Int), os[j]? = some o → place < o) ∨ ∃ (i : Nat) (o : Int), naGo place k f os = ((k + i : Nat) : Int) ∧ os[i]? = some o ∧ o ≤ place ∧ ∀ (j : Nat) (o' : Int), i < j → os[j]? = some o' → place < o'
  | [], k, f => .inl ⟨rfl, fun j o h => by simp at h⟩
  | p :: os, k, f => by
    rcases na_spec place os (k + 1) (if p ≤ place then (k : Int) else f) with ⟨h1, h2⟩ | ⟨i, o, h1, h2, h3, h4⟩
    · by_cases hp : p ≤ place
      · refine .inr ⟨0, p, ?_, rfl, hp, fun j o' hj ho => ?_⟩
        · simp only [naGo]
          rw [h1, if_pos hp]; rfl
        · obtain ⟨j', rfl⟩ : ∃ j', j = j' + 1 := ⟨j - 1, by omega⟩
          exact h2 j' o' (by simpa using ho)
      · refine .inl ⟨?_, fun j o ho => ?_⟩
        · simp only [naGo]
          rw [h1, if_neg hp]
        · cases j with
          | zero =>
            have : p = o := by simpa using ho
            omega
          | succ j => exact h2 j o (by simpa using ho)
    · refine .inr ⟨i + 1, o, ?_, by simpa using h2, h3, fun j o' hj ho => ?_⟩
      · simp only [naGo]
        rw [h1]
        congr 1
        omega
      · obtain ⟨j', rfl⟩ : ∃ j', j = j' + 1 := ⟨j - 1, by omega⟩
        exact h4 j' o' (by omega) (by simpa using ho)
/-- a hand's ends rise -/
def Rise (own : List Int) : Prop := ∀ (i j : Nat) (a b : Int), i ≤ j → own[i]? = some a → own[j]? = some b → a ≤ b
theorem notes_in {h : Int} : ∀ {rows : List Row} {k : Nat} {x : Int}, x ∈ notes h k rows → (k : Int) + 1 ≤ x ∧ x ≤ ((k + rows.length : Nat) : Int)
  | [], k, x, hx => by simp [notes] at hx
  | r :: rows, k, x, hx => by
    simp only [notes] at hx
    have tail : x ∈ notes h (k + 1) rows → (k : Int) + 1 ≤ x ∧ x ≤ ((k + (r :: rows).length : Nat) : Int) := fun hx => by
      have := notes_in hx
      simp only [List.length_cons]
      omega
    split at hx
    · rcases List.mem_cons.mp hx with e | hx
      · simp only [List.length_cons]; omega
      · exact tail hx
    · exact tail hx
theorem notes_rise {h : Int} : ∀ (rows : List Row) (k : Nat), (notes h k rows).Pairwise (· ≤ ·)
  | [], k => .nil
  | r :: rows, k => by
    have ih := notes_rise (h := h) rows (k + 1)
    simp only [notes]
    split
    · refine .cons (fun x hx => ?_) ih
      have := notes_in hx
      omega
    · exact ih
theorem told1_pw (rows : List Row) (h : Int) : (told1 rows h).Pairwise (· ≤ ·) := by
  unfold told1 begun
  rw [List.pairwise_append]
  refine ⟨.cons (fun x hx => ?_) (notes_rise rows 0), List.pairwise_singleton _ _, fun a ha b hb => ?_⟩
  · have := notes_in hx; omega
  · rw [List.mem_singleton.mp hb]
    rcases List.mem_cons.mp ha with rfl | ha
    · omega
    · have := notes_in ha; omega
theorem told1_rise (rows : List Row) (h : Int) : Rise (told1 rows h) := by
  intro i j a b hij ha hb
  by_cases e : i = j
  · subst e
    rw [ha] at hb
    cases hb
    exact Int.le_refl _
  · obtain ⟨hi, rfl⟩ := List.getElem?_eq_some_iff.mp ha
    obtain ⟨hj, rfl⟩ := List.getElem?_eq_some_iff.mp hb
    exact List.pairwise_iff_getElem.mp (told1_pw rows h) i j hi hj (by omega)
theorem told1_first (rows : List Row) (h : Int) : (told1 rows h)[0]? = some 0 := rfl
theorem told1_last (rows : List Row) (h : Int) : (told1 rows h)[(told1 rows h).length - 1]? = some (rows.length : Int) := by
  unfold told1
  rw [List.length_append, List.length_singleton, Nat.add_sub_cancel, List.getElem?_append_right (Nat.le_refl _), Nat.sub_self]
  rfl
/-- what is told of the ends -/
structure ToldOk (t : List (List Int)) : Prop where
  rise : ∀ own ∈ t, Rise own
  first : ∀ own ∈ t, own[0]? = some 0
theorem told_ok (hands : Int) (rows : List Row) : ToldOk (told hands rows) := by
  constructor
  · intro own ho
    obtain ⟨h, _, rfl⟩ := List.mem_map.mp ho
    exact told1_rise _ _
  · intro own ho
    obtain ⟨h, _, rfl⟩ := List.mem_map.mp ho
    exact told1_first _ _
/-! ### falling -/
def sumN (line : List Int) : Nat := (line.map Int.toNat).sum
theorem sumN_set : ∀ (line : List Int) (i : Nat) (o n : Int), line[i]? = some o → sumN (line.set i n) + o.toNat = sumN line + n.toNat
  | [], i, o, n, h => by simp at h
  | x :: line, 0, o, n, h => by
    have : x = o := by simpa using h
    subst this
    simp [sumN]
    omega
  | x :: line, i + 1, o, n, h => by
    have := sumN_set line i o n (by simpa using h)
    simp only [sumN, List.set_cons_succ, List.map_cons, List.sum_cons] at this ⊢
    omega
abbrev Stp := Int × Int × Int
def letAt (f : List Let) (w : Int) : Let := f.getD w.toNat ⟨0, 0, 0, none⟩
def gAt (l : Let) : Int := match l.g with
  | none => 0
  | some g => (g : Int)
def stepAt (f : List Let) (t : List (List Int)) (w : Int) : Stp := (w, (letAt f w).t, numAhead (t.getD (letAt f w).t.toNat []) (gAt (letAt f w)))
def goDown (line : List Int) (s : Stp) : List Int := line.set s.2.1.toNat s.2.2
def fallGo (f : List Let) (t : List (List Int)) : Nat → List Int → List Stp × List Int
  | 0, line => ([], line)
  | m + 1, line => match straysBy f (endsOf t line) with
    | [] => ([], line)
    | w :: _ => (stepAt f t w :: (fallGo f t m (goDown line (stepAt f t w))).1, (fallGo f t m (goDown line (stepAt f t w))).2)
def fallM (f : List Let) (t : List (List Int)) (line : List Int) : List Stp × List Int := fallGo f t (sumN line) line
/-- a step: what it takes, and that it goes down -/
structure StepT (f : List Let) (t : List (List Int)) (line : List Int) (w : Int) (l : Let) (g : Nat) (own : List Int) (n : Nat) (m : Int) : Prop where
  w0 : 0 ≤ w
  at_ : f[w.toNat]? = some l
  got : l.g = some g
  hand : t[l.t.toNat]? = some own
  num : line[l.t.toNat]? = some m
  ahead : numAhead own (g : Int) = (n : Int)
  stp : stepAt f t w = (w, l.t, (n : Int))
  kept : (g : Int) < at0 (endsOf t line) l.t
  sendLost : at0 (endsOf t line) l.s ≤ (l.p : Int)
  below : (n : Int) < m
  le : ∀ o, own[n]? = some o → o ≤ (g : Int)
  gt : ∀ (j : Nat) (o : Int), n < j → own[j]? = some o → (g : Int) < o
theorem kept_at2 {t : List (List Int)} {line : List Int} (h : lineOk t line = true) {x : Int} (h0 : 0 ≤ x) (h1 : x < (t.length : Int)) : ∃ n own, line[x.toNat]? = some n ∧ t[x.toNat]? = some own ∧ 0 ≤ n ∧ own[n.toNat]? = some (at0 (endsOf t line) x) := by
  obtain ⟨hl, hk⟩ := lineOk_iff.mp h
  have e1 : line[x.toNat]? = some line[x.toNat] := List.getElem?_eq_getElem (by omega)
  have e2 : t[x.toNat]? = some t[x.toNat] := List.getElem?_eq_getElem (by omega)
  obtain ⟨b0, b1⟩ := hk _ _ _ e1 e2
  generalize line[x.toNat] = n at e1 b0 b1
  generalize t[x.toNat] = own at e2 b1
  have e3 : own[n.toNat]? = some own[n.toNat] := List.getElem?_eq_getElem (by omega)
  refine ⟨n, own, e1, e2, b0, ?_⟩
  rw [e3, show at0 (endsOf t line) x = own[n.toNat] by
    unfold at0
    rw [List.getD_eq_getElem?_getD, endsOf_get e1 e2 e3]
    rfl]
theorem step_t {f : List Let} {t : List (List Int)} {line : List Int} (T : ToldOk t) (L : LetsOk t.length f) (ok : lineOk t line = true) {w : Int} (hw : w ∈ straysBy f (endsOf t line)) : ∃ l g own n m, StepT f t line w l g own n m := by
  obtain ⟨i, l, e, hl, hq⟩ := idxs_mem.mp hw
  rw [Nat.zero_add] at e
  subst e
  have hlo := L l (List.mem_of_getElem? hl)
  obtain ⟨m, own, e1, e2, e3, e4⟩ := kept_at2 ok hlo.2.1 hlo.2.2
  unfold stray at hq
  cases hg : l.g with
  | none => rw [hg] at hq; cases hq
  | some g =>
    rw [hg] at hq
    simp only [Bool.and_eq_true] at hq
    have q1 := of_decide_eq_true hq.1
    have q2 := of_decide_eq_true hq.2
    have hla : letAt f (i : Int) = l := by
      unfold letAt
      rw [Int.toNat_natCast, List.getD_eq_getElem?_getD, hl]; rfl
    have hown : t.getD l.t.toNat [] = own := by rw [List.getD_eq_getElem?_getD, e2]; rfl
    have hm := List.mem_of_getElem? e2
    have hga : gAt l = (g : Int) := by unfold gAt; rw [hg]
    rcases na_spec (g : Int) own 0 0 with ⟨_, h2⟩ | ⟨n, o, h1, h2, h3, h4⟩
    · have := h2 0 0 (T.first own hm)
      omega
    · rw [Nat.zero_add] at h1
      refine ⟨l, g, own, n, m, ⟨by omega, by rw [Int.toNat_natCast]; exact hl, hg, e2, e1, h1, ?_, q1, q2, ?_, fun o' ho' => ?_, h4⟩⟩
      · unfold stepAt
        rw [hla, hown, hga]
        exact congrArg _ (congrArg _ h1)
      · refine Int.not_le.mp fun z => ?_
        have := T.rise own hm m.toNat n _ _ (by omega) e4 h2
        omega
      · rw [h2] at ho'
        cases ho'
        exact h3
theorem StepT.down {f : List Let} {t : List (List Int)} {line : List Int} {w : Int} {l : Let} {g : Nat} {own : List Int} {n : Nat} {m : Int} (h : StepT f t line w l g own n m) : goDown line (stepAt f t w) = line.set l.t.toNat (n : Int) := by
  rw [h.stp]; rfl
theorem StepT.less {f : List Let} {t : List (List Int)} {line : List Int} {w : Int} {l : Let} {g : Nat} {own : List Int} {n : Nat} {m : Int} (h : StepT f t line w l g own n m) : sumN (goDown line (stepAt f t w)) < sumN line := by
  rw [h.down]
  have := sumN_set line _ _ (n : Int) h.num
  have := h.below
  omega
theorem StepT.ok {f : List Let} {t : List (List Int)} {line : List Int} {w : Int} {l : Let} {g : Nat} {own : List Int} {n : Nat} {m : Int} (h : StepT f t line w l g own n m) (ok : lineOk t line = true) : lineOk t (goDown line (stepAt f t w)) = true := by
  rw [h.down]
  obtain ⟨h1, h2⟩ := lineOk_iff.mp ok
  refine lineOk_iff.mpr ⟨by rw [List.length_set]; exact h1, fun i x own' hx ho => ?_⟩
  rw [List.getElem?_set] at hx
  split at hx
  · rename_i e
    subst e
    split at hx
    · cases hx
      have a := h2 _ _ _ h.num ho
      have b := h.below
      omega
    · cases hx
  · exact h2 i x own' hx ho
section
variable {f : List Let} {t : List (List Int)} (T : ToldOk t) (L : LetsOk t.length f)
include T L
/-- more turns than there are numbers do nothing -/
theorem fallGo_fuel : ∀ (m m' : Nat) (line : List Int), lineOk t line = true → sumN line ≤ m → sumN line ≤ m' → fallGo f t m line = fallGo f t m' line := by
  intro m
  induction m with
  | zero =>
    intro m' line ok h1 h2
    cases m' with
    | zero => rfl
    | succ m' =>
      simp only [fallGo]
      split
      · rfl
      · rename_i w ws e
        obtain ⟨l, g, own, n, m, st⟩ := step_t T L ok (w := w) (by rw [e]; exact List.mem_cons_self)
        have := st.less
        omega
  | succ m ih =>
    intro m' line ok h1 h2
    cases hs : straysBy f (endsOf t line) with
    | nil =>
      cases m' with
      | zero => simp [fallGo, hs]
      | succ m' => simp [fallGo, hs]
    | cons w ws =>
      obtain ⟨l, g, own, n, k, st⟩ := step_t T L ok (w := w) (by rw [hs]; exact List.mem_cons_self)
      have hl := st.less
      cases m' with
      | zero => omega
      | succ m' =>
        simp only [fallGo, hs]
        rw [ih m' _ (st.ok ok) (by omega) (by omega)]
theorem fallM_done {line : List Int} (h : straysBy f (endsOf t line) = []) : fallM f t line = ([], line) := by
  unfold fallM
  cases sumN line with
  | zero => rfl
  | succ m => simp [fallGo, h]
theorem fallM_step {line : List Int} (ok : lineOk t line = true) {w : Int} {ws : List Int} (h : straysBy f (endsOf t line) = w :: ws) : fallM f t line = (stepAt f t w :: (fallM f t (goDown line (stepAt f t w))).1, (fallM f t (goDown line (stepAt f t w))).2) := by
  obtain ⟨l, g, own, n, k, st⟩ := step_t T L ok (w := w) (by rw [h]; exact List.mem_cons_self)
  have hl := st.less
  unfold fallM
  obtain ⟨m, hm⟩ : ∃ m, sumN line = m + 1 := ⟨sumN line - 1, by omega⟩
  rw [hm]
  simp only [fallGo, h]
  rw [fallGo_fuel T L m (sumN (goDown line (stepAt f t w))) _ (st.ok ok) (by omega) (Nat.le_refl _)]
theorem fall_ind {Q : List Int → Prop} (h0 : ∀ line, lineOk t line = true → straysBy f (endsOf t line) = [] → Q line) (h1 : ∀ line w ws, lineOk t line = true → straysBy f (endsOf t line) = w :: ws → Q (goDown line (stepAt f t w)) → Q line) : ∀ line, lineOk t line = true → Q line := by
  have : ∀ (n : Nat) (line : List Int), sumN line ≤ n → lineOk t line = true → Q line := by
    intro n
    induction n with
    | zero =>
      intro line hn ok
      cases hs : straysBy f (endsOf t line) with
      | nil => exact h0 line ok hs
      | cons w ws =>
        obtain ⟨l, g, own, n, k, st⟩ := step_t T L ok (w := w) (by rw [hs]; exact List.mem_cons_self)
        have := st.less
        omega
    | succ n ih =>
      intro line hn ok
      cases hs : straysBy f (endsOf t line) with
      | nil => exact h0 line ok hs
      | cons w ws =>
        obtain ⟨l, g, own, n, k, st⟩ := step_t T L ok (w := w) (by rw [hs]; exact List.mem_cons_self)
        have := st.less
        exact h1 line w ws ok hs (ih _ (by omega) (st.ok ok))
  exact fun line ok => this _ line (Nat.le_refl _) ok
/-- the line that is reached: a line, sound, no later -/
theorem fall_ok {line : List Int} (ok : lineOk t line = true) : lineOk t (fallM f t line).2 = true ∧ straysBy f (endsOf t (fallM f t line).2) = [] ∧ noLater (fallM f t line).2 line = true := by
  refine fall_ind T L (Q := fun line => lineOk t (fallM f t line).2 = true ∧ straysBy f (endsOf t (fallM f t line).2) = [] ∧ noLater (fallM f t line).2 line = true) (fun line ok hs => ?_) (fun line w ws ok hs ih => ?_) line ok
  · rw [fallM_done T L hs]
    exact ⟨ok, hs, (noLater_iff rfl).mpr fun i x y hx hy => by rw [hx] at hy; cases hy; omega⟩
  · rw [fallM_step T L ok hs]
    obtain ⟨l, g, own, n, k, st⟩ := step_t T L ok (w := w) (by rw [hs]; exact List.mem_cons_self)
    obtain ⟨a, b, c⟩ := ih
    have l1 := (lineOk_iff.mp a).1
    have l2 := (lineOk_iff.mp ok).1
    have l3 := (lineOk_iff.mp (st.ok ok)).1
    refine ⟨a, b, (noLater_iff (by rw [l1, l2])).mpr fun i x y hx hy => ?_⟩
    rw [noLater_iff (by rw [l1, l3])] at c
    rw [st.down] at c
    by_cases e : l.t.toNat = i
    · subst e
      have hk := st.num
      rw [hy] at hk
      cases hk
      have := c _ x (n : Int) (by rw [← st.down]; exact hx) (by rw [List.getElem?_set_self (List.getElem?_eq_some_iff.mp hy).1])
      have := st.below
      omega
    · exact c i x y (by rw [← st.down]; exact hx) (by rw [List.getElem?_set_ne e]; exact hy)
/-- no sound line that is no later than the line is later than the one reached -/
theorem fall_most {line : List Int} (ok : lineOk t line = true) : ∀ (other : List Int), lineOk t other = true → straysBy f (endsOf t other) = [] → noLater other line = true → noLater other (fallM f t line).2 = true := by
  refine fall_ind T L (Q := fun line => ∀ (other : List Int), lineOk t other = true → straysBy f (endsOf t other) = [] → noLater other line = true → noLater other (fallM f t line).2 = true) (fun line ok hs => ?_) (fun line w ws ok hs ih => ?_) line ok
  · rw [fallM_done T L hs]
    exact fun other _ _ h => h
  · intro other ok2 hs2 hn
    rw [fallM_step T L ok hs]
    obtain ⟨l, g, own, n, k, st⟩ := step_t T L ok (w := w) (by rw [hs]; exact List.mem_cons_self)
    refine ih other ok2 hs2 ?_
    have l1 := (lineOk_iff.mp ok2).1
    have l2 := (lineOk_iff.mp ok).1
    rw [st.down]
    rw [noLater_iff (by rw [l1, l2])] at hn
    refine (noLater_iff (by rw [List.length_set, l1, l2])).mpr fun i x y hx hy => ?_
    rw [List.getElem?_set] at hy
    split at hy
    · rename_i e
      subst e
      split at hy
      · cases hy
        -- the other one does not keep the got
        refine Int.not_lt.mp fun z => ?_
        have hlo := L l (List.mem_of_getElem? st.at_)
        obtain ⟨x', own', q1, q2, q3, q4⟩ := kept_at2 ok2 hlo.2.1 hlo.2.2
        rw [hx] at q1; cases q1
        rw [st.hand] at q2; cases q2
        have hgot := st.gt x.toNat _ (by omega) q4
        obtain ⟨xs, owns, u1, u2, u3, u4⟩ := kept_at2 ok2 hlo.1.1 hlo.1.2
        obtain ⟨ys, owns', v1, v2, v3, v4⟩ := kept_at2 ok hlo.1.1 hlo.1.2
        rw [u2] at v2; cases v2
        have hle := hn _ _ _ u1 v1
        have hr := T.rise owns (List.mem_of_getElem? u2) xs.toNat ys.toNat _ _ (by omega) u4 v4
        have hsl := st.sendLost
        have : (((w.toNat : Nat) : Int)) ∈ straysBy f (endsOf t other) := idxs_mem.mpr ⟨w.toNat, l, by simp, st.at_, by
          unfold stray
          rw [st.got]
          simp only [Bool.and_eq_true]
          exact ⟨decide_eq_true hgot, decide_eq_true (by omega)⟩⟩
        rw [hs2] at this
        cases this
      · cases hy
    · exact hn i x y hx hy
end
end Y

namespace Y
open PySem PySem.Spec L2
local macro_rules | `(tactic| walk_at "y1") => `(tactic| first
  | (fail_if_success (with_reducible show SX _ (tSeq (tIfS _ _ _) _) _ _ _)); (with_reducible refine sx_seq ?_)
  | with_reducible refine sx_asg ?_
  | with_reducible refine sx_if ?_
  | with_reducible refine sx_ret ?_
  | with_reducible refine sx_retN ?_
  | with_reducible refine sx_next ?_
  | with_reducible refine sx_app ?_
  | with_reducible refine sx_clear ?_
  | with_reducible refine sx_setL ?_
  | with_reducible refine sx_dput ?_
  | with_reducible refine sx_drop ?_
  | with_reducible refine eg_var (by with_unfolding_all rfl) ?_
  | with_reducible refine eg_int ?_
  | with_reducible refine eg_bl ?_
  | with_reducible refine eg_str ?_
  | with_reducible refine eg_non ?_
  | with_reducible refine eg_raw ?_
  | with_reducible refine eg_op ?_
  | with_reducible refine eg_cb ?_
  | with_reducible refine eg_tup ?_
  | with_reducible refine eg_isN ?_
  | with_reducible refine eg_notN ?_
  | with_reducible refine eg_and ?_
  | with_reducible refine eg_or ?_
  | with_reducible refine eg_not ?_
  | with_reducible refine eg_dnew ?_
  | with_reducible refine eg_dget ?_
  | with_reducible refine eg_dnotin ?_
  | with_reducible refine eg_un ?_
  | with_reducible refine eg_partsNot ?_
  | with_reducible refine eg_partsIx ?_
  | with_reducible refine et_test ?_
  | with_reducible refine et_B ?_
  | with_reducible refine et_not ?_
  | with_reducible refine et_and ?_
  | with_reducible refine et_or ?_
  | with_reducible refine et_yes ?_
  | with_reducible refine ea_nil ?_
  | with_reducible refine ea_cons ?_
  | with_reducible refine el_lst ?_
  | with_reducible refine el_slL ?_
  | with_reducible refine el_op ?_
  | with_reducible refine el_cb ?_
  | with_reducible refine el_lstRev ?_
  | with_reducible refine el_rng ?_
  | with_reducible refine eo_none ?_
  | with_reducible refine eo_some ?_
  | with_reducible refine sr_list ?_
  | with_reducible refine sr_rng ?_
  | with_reducible refine sr_enum ?_
  | with_reducible refine eb_add ?_
  | with_reducible refine eb_sub ?_
  | with_reducible refine eb_fdivL (by decide) (by decide) ?_
  | with_reducible refine eb_mulL (by decide) (by decide) ?_
  | with_reducible refine eb_mulR (by decide) (by decide) ?_
  | with_reducible refine eb_powL (by decide) (by decide) (by decide) ?_
  | with_reducible refine eb_mod (by decide) ?_
  | with_reducible refine eb_lt ?_
  | with_reducible refine eb_le ?_
  | with_reducible refine eb_gt ?_
  | with_reducible refine eb_ge ?_
  | with_reducible refine eb_eqI ?_
  | with_reducible refine eb_neI ?_
  | with_reducible refine eb_eqB ?_)
local macro_rules | `(tactic| walk_at "y1") => `(tactic| first
  | with_reducible refine call_cell ?_
  | with_reducible refine Exists.intro _ (Exists.intro _ (Exists.intro _ (And.intro (Eq.refl [A.raw (V.ref _), A.dat (PyData.int _)]) (And.intro (by assumption) (And.intro (by first | decide | omega) ?_))))))
local macro_rules | `(tactic| walk_at "y") => `(tactic| (repeat' (walk_at "y1")))
local macro_rules | `(tactic| walk_at "yi") => `(tactic| ((repeat' (walk_at "y1")); (with_reducible refine sx_seq ?_); (repeat' (walk_at "y1"))))


/-! ### number_ahead -/
def R_number_ahead (ds : List PyData) (r : Res Er) : Prop := ∃ (own : List Int) (place : Int), ds = [dI own, .int place] ∧ r = .ok (.int (numAhead own place))
abbrev sp_number_ahead (K : PySem.W.Frag) (C : Er → Addr) : Sp := Pr C R_number_ahead
theorem len_number_ahead {ds : List PyData} {r : Res Er} (h : R_number_ahead ds r) : ds.length = 2 := by
  obtain ⟨f, x, rfl, _⟩ := h; rfl
theorem wk_number_ahead (K : PySem.W.Frag) (C : Er → Addr) (H : Hp) (ds : List PyData) (r : Res Er) (h : R_number_ahead ds r) : SX H (t_number_ahead K) (entry ds 3) [] (HandR r) := by
  obtain ⟨own, place, rfl, rfl⟩ := h
  show SX H (t_number_ahead K) [some (.arg (dI own)), some (.dat (.int place)), none, none, none] [] _
  unfold t_number_ahead
  walk_at "y"
  refine sx_forP (xs := own) (it := fun i x => .dat (.tuple [.int (i : Nat), .int x])) (fun pre δ ω => ∃ a b, δ = [some (.arg (dI own)), some (.dat (.int place)), some (.dat (.int (naGo place 0 0 pre))), a, b]) ?_ ?_ ?_
  · walk_at "y"
    refine ⟨_, own.map .int, rfl, .argT _ (noLA_ints own), enA_map _ _, ⟨_, _, rfl⟩, ?_⟩
    rintro pre δ ω ⟨_, _, rfl⟩
    exact .argT _ (noLA_ints own)
  · rintro pre x post δ ω e ⟨a, b, rfl⟩
    refine ⟨_, gx_tup2, ?_⟩
    rw [naGo_snoc, Nat.zero_add]
    walk_at "y"
    refine ⟨_, rfl, fun c => ?_, fun c => ?_⟩
    · have c := of_decide_eq_true c
      rw [if_pos c]
      walk_at "y"
      exact ⟨_, _, rfl⟩
    · have c := of_decide_eq_false c
      rw [if_neg c]
      walk_at "y"
      exact ⟨_, _, rfl⟩
  · rintro δ ω ⟨a, b, rfl⟩
    walk_at "y"
    exact .dat _
section
variable {K : PySem.W.Frag} {C : Er → Addr} {H0 : Hp} {δ : Sl} {ω : Om} {E : XK} {ts : TA} {P : A → Om → Prop}
theorem call_number_ahead {own : List Int} {place : Int} (h : EA H0 ts δ ω fun bs ω1 => RdA ω1 bs [dI own, .int place] ∧ P (.dat (.int (numAhead own place))) ω1) : EG H0 (tCall (sp_number_ahead K C) [] E ts) δ ω P :=
  eg_call fun σ H vs as S Q q => h σ H vs as S Q fun bs ω' us H' ⟨hr, hp⟩ hl' S' => q bs ω' us H' ⟨_, _, hr, ⟨own, place, rfl, rfl⟩, hp⟩ hl' S'
end
/-! ### fall -/
def dStp (s : Stp) : PyData := .tuple [.int s.1, .int s.2.1, .int s.2.2]
abbrev dStps (c : List Stp) : PyData := .list (c.map dStp)
abbrev lStps (c : List Stp) : Ob := .lst (c.map fun s => .dat (dStp s))
theorem sumN_le : ∀ {line : List Int} {b : Nat}, (∀ x ∈ line, x ≤ (b : Int)) → sumN line ≤ line.length * b
  | [], b, _ => by simp [sumN]
  | x :: line, b, h => by
    have h1 := h x List.mem_cons_self
    have h2 := sumN_le (line := line) (b := b) fun y hy => h y (List.mem_cons_of_mem _ hy)
    simp only [sumN, List.map_cons, List.sum_cons, List.length_cons] at h2 ⊢
    rw [Nat.add_mul, Nat.one_mul]
    omega
theorem sumN_told {hands : Int} {rows : List Row} {line : List Int} (h2 : hands ≤ 40) (h3 : rows.length ≤ 1000) (ok : lineOk (told hands rows) line = true) : sumN line ≤ 50000 := by
  obtain ⟨a, b⟩ := lineOk_iff.mp ok
  rw [told_len] at a
  have := sumN_le (line := line) (b := 1010) fun x hx => by
    obtain ⟨i, hi⟩ := List.getElem?_of_mem hx
    have hil := (List.getElem?_eq_some_iff.mp hi).1
    have := b i x _ hi (told_get (by omega))
    have := (told1_len rows (i : Nat)).2
    omega
  have : line.length * 1010 ≤ 40 * 1010 := Nat.mul_le_mul_right _ (by omega)
  omega
def R_fall (ds : List PyData) (r : Res Er) : Prop := ∃ (hands : Int) (rows : List Row) (f : List Let) (line : List Int), ds = [dLets f, dT (told hands rows), dI line] ∧ lettersM hands rows = .ok f ∧ lineOk (told hands rows) line = true ∧ r = .ok (.tuple [dStps (fallM f (told hands rows) line).1, dI (fallM f (told hands rows) line).2])
abbrev sp_fall (K : PySem.W.Frag) (C : Er → Addr) : Sp := Pr C R_fall
theorem len_fall {ds : List PyData} {r : Res Er} (h : R_fall ds r) : ds.length = 3 := by
  obtain ⟨_, _, _, _, rfl, _⟩ := h; rfl
theorem lStps_snoc (c : List Stp) (s : Stp) (d : PyData) (e : d = dStp s) : Ob.lst (c.map (fun s => A.dat (dStp s)) ++ [.dat d]) = lStps (c ++ [s]) := by
  rw [e]; show _ = Ob.lst (List.map _ _); rw [List.map_append]; rfl
theorem fin_stps {ω : Om} {k : Nat} {f : List Stp} (h : ω[k]? = some (lStps f)) : Fin ω (.ptr k) (dStps f) := by
  refine .ptr h ?_
  have := FinA.dats (ω := ω) (f.map dStp)
  rw [List.map_map] at this
  exact this
theorem fin_I {ω : Om} {k : Nat} {f : List Int} (h : ω[k]? = some (oI f)) : Fin ω (.ptr k) (dI f) := by
  refine .ptr h ?_
  have := FinA.dats (ω := ω) (f.map .int)
  rw [List.map_map] at this
  exact this
theorem wk_fall (K : PySem.W.Frag) (C : Er → Addr) (H : Hp) (ds : List PyData) (r : Res Er) (h : R_fall ds r) : SX0 H (t_fall K (sp_ends_of K C) (sp_strays_by K C) (sp_number_ahead K C)) (entry ds 4) [] (HandR r) := by
  obtain ⟨hands, rows, f, line, rfl, hf, hok, rfl⟩ := h
  show SX0 H (t_fall K (sp_ends_of K C) (sp_strays_by K C) (sp_number_ahead K C)) [some (.arg (dLets f)), some (.arg (dT (told hands rows))), some (.arg (dI line)), none, none, none, none] [] _
  obtain ⟨h1, h2, h3, hgo⟩ := lettersM_ok hf
  have T := told_ok hands rows
  have L : LetsOk (told hands rows).length f := by rw [told_len]; exact lets_ok hf
  have hfl := letters_size hf
  have hsum := sumN_told h2 h3 hok
  have htl := told_len hands rows
  generalize told hands rows = t at hok T L htl
  unfold t_fall
  refine sx0_seq ?_
  walk_at "y"
  refine ec_own (ecl_list (itm_aI line) ?_)
  refine sx0_seq ?_
  walk_at "y"
  refine el_own (el_lst ?_)
  walk_at "y"
  refine ⟨szOk (by decide), ?_⟩
  have ask : ∀ {δ : Sl} {ω : Om} {P : A → Om → Prop} {a b : Option A} (cur : List Int) (a3 a4 a5 a6 : Option A), lineOk t cur = true → δ = [some (.arg (dLets f)), some (.arg (dT t)), some (.ptr 0), a3, a4, a5, a6] → ω[0]? = some (oI cur) → P (.dat (dI (straysBy f (endsOf t cur)))) ω → EG H (tCall (sp_strays_by K C) [] E0 (tCons (tVar 0) (tCons (tCall (sp_ends_of K C) [] E0 (tCons (tVar 1) (tCons (tVar 2) tNil))) tNil))) δ ω P := by
    rintro δ ω P _ _ cur a3 a4 a5 a6 ok rfl h0 hp
    have hcl := (lineOk_iff.mp ok).1
    refine call_strays_by (f := f) (kept := endsOf t cur) (by rw [endsOf_len, hcl]; exact L) (by omega) ?_
    walk_at "y"
    refine call_ends_of ok (by omega) ?_
    walk_at "y"
    refine ⟨.cons (.arg _) (.cons (rd_dI h0) .nil), ?_⟩
    walk_at "y"
    exact ⟨.cons (.arg _) (.cons (.dat _) .nil), hp⟩
  refine sx0_seq ?_
  refine sx_asg ?_
  refine ask (a := none) (b := none) line _ _ _ _ hok rfl rfl ?_
  refine sx0_seq ?_
  refine sx_while (fun m δ ω => ∃ cur acc a5 a6, m = sumN cur ∧ δ = [some (.arg (dLets f)), some (.arg (dT t)), some (.ptr 0), some (.ptr 1), some (.dat (dI (straysBy f (endsOf t cur)))), a5, a6] ∧ ω = [oI cur, lStps acc] ∧ lineOk t cur = true ∧ acc.length + sumN cur ≤ 50000 ∧ fallM f t line = (acc ++ (fallM f t cur).1, (fallM f t cur).2)) (sumN line) ⟨line, [], none, none, rfl, rfl, rfl, hok, by simpa using hsum, rfl⟩ ?_
  rintro m δ ω ⟨cur, acc, a5, a6, rfl, rfl, rfl, ok, hsz, hfall⟩
  walk_at "y"
  refine el_dat (el_lst ?_)
  walk_at "y"
  refine ⟨szOk (by decide), [], rfl, ?_⟩
  refine eb_neD (d := dI (straysBy f (endsOf t cur))) (e := dI []) (.dat _) (.dat _) (shaped_ints _) (shaped_ints _) ?_
  rw [eqv_dI]
  refine ⟨_, rfl, fun c => ?_, fun c => ?_⟩
  · cases hs : straysBy f (endsOf t cur) with
    | nil => rw [hs] at c; cases c
    | cons w ws =>
      obtain ⟨l, g, own, n, k, st⟩ := step_t T L ok (w := w) (by rw [hs]; exact List.mem_cons_self)
      have hlo := L l (List.mem_of_getElem? st.at_)
      have hcl := (lineOk_iff.mp ok).1
      have hlet : ∀ {ω : Om}, Itm K H ω (.arg (dLets f)) ((f.map dLet).map .dat) := fun {ω} => itm_lets f
      have hlat : atI ((f.map dLet).map A.dat) w = some (.dat (dLet l)) := at_nat st.w0 (by rw [List.getElem?_map, List.getElem?_map, st.at_]; rfl)
      have hless := st.less
      walk_at "y"
      refine eb_ixUL (itm_dI (w :: ws)) (c := .dat (.int w)) (at_nat (Int.le_refl 0) rfl) ?_
      walk_at "y"
      refine eb_ixUL hlet hlat ?_
      walk_at "y"
      refine eb_ixUT (.dat _) (d := .int l.t) rfl ?_
      walk_at "y"
      refine call_number_ahead (own := own) (place := (g : Int)) ?_
      walk_at "y"
      refine eb_ixUL (itm_T t) (c := .arg (dI own)) (at_nat hlo.2.1 (by rw [List.getElem?_map, st.hand]; rfl)) ?_
      walk_at "y"
      refine eb_ixUL hlet hlat ?_
      walk_at "y"
      refine eb_ixUT (.dat _) (d := .int (g : Int)) (by rw [st.got]; rfl) ?_
      walk_at "y"
      refine ⟨.cons (.arg _) (.cons (.dat _) .nil), ?_⟩
      rw [st.ahead]
      walk_at "y"
      refine ⟨0, l.t, l.t.toNat, _, rfl, rfl, rfl, ?_, ?_⟩
      · unfold ixN
        rw [List.length_map, if_pos hlo.2.1, if_pos (by have := hlo.2.2; omega)]
      have hset : (cur.map fun n => A.dat (.int n)).set l.t.toNat (.dat (.int (n : Int))) = (cur.set l.t.toNat (n : Int)).map fun n => A.dat (.int n) := by rw [List.map_set]
      have hnew : (cur.set l.t.toNat (n : Int))[l.t.toNat]? = some (n : Int) := List.getElem?_set_self (by have := hlo.2.2; omega)
      rw [hset]
      walk_at "y"
      refine ⟨1, _, rfl, rfl, ?_⟩
      walk_at "y"
      refine eb_ixUL (.ptr rfl) (at_I hlo.2.1 hnew) ?_
      walk_at "y"
      refine ⟨[.int w, .int l.t, .int (n : Int)], rfl, szOk (show 3 ≤ 16777216 by decide), ?_⟩
      walk_at "y"
      refine ⟨_, _, rfl, rfl, szLt (by rw [List.length_map]; omega), ?_⟩
      have ok' := st.ok ok
      rw [st.down] at ok' hless
      refine sx_asg ?_
      refine ask (a := none) (b := none) (cur.set l.t.toNat (n : Int)) _ _ _ _ ok' rfl rfl ?_
      refine ⟨_, hless, _, acc ++ [stepAt f t w], _, _, rfl, rfl, ?_, ok', ?_, ?_⟩
      · exact congrArg (fun o => [oI (cur.set l.t.toNat (n : Int)), o]) (lStps_snoc acc (stepAt f t w) _ (by rw [st.stp]; rfl))
      · rw [List.length_append, List.length_singleton]
        omega
      · rw [hfall, fallM_step T L ok hs, st.down]
        simp
  · cases hs : straysBy f (endsOf t cur) with
    | cons w ws => rw [hs] at c; simp at c
    | nil =>
      rw [fallM_done T L hs, List.append_nil] at hfall
      rw [hfall]
      refine sx0_retT ?_
      walk_at "y"
      exact ⟨_, .cons (fin_stps rfl) (.cons (fin_I rfl) .nil), szOk (show 2 ≤ 16777216 by decide), .dat _⟩
section
variable {K : PySem.W.Frag} {C : Er → Addr} {H0 : Hp} {δ : Sl} {ω : Om} {E : XK} {ts : TA} {P : A → Om → Prop}
theorem call_fall {hands : Int} {rows : List Row} {f : List Let} {line : List Int} (hf : lettersM hands rows = .ok f) (hok : lineOk (told hands rows) line = true) (h : EA H0 ts δ ω fun bs ω1 => RdA ω1 bs [dLets f, dT (told hands rows), dI line] ∧ P (.dat (.tuple [dStps (fallM f (told hands rows) line).1, dI (fallM f (told hands rows) line).2])) ω1) : EG H0 (tCall (sp_fall K C) [] E ts) δ ω P :=
  eg_call fun σ H vs as S Q q => h σ H vs as S Q fun bs ω' us H' ⟨hr, hp⟩ hl' S' => q bs ω' us H' ⟨_, _, hr, ⟨hands, rows, f, line, rfl, hf, hok, rfl⟩, hp⟩ hl' S'
end
end Y

/-! Mg: top line, steps, last line, line with: plain Lean. -/
namespace Y
open PySem PySem.Spec L2

def nowM (t : List (List Int)) : List Int := t.map fun own => (own.length : Int) - 1
theorem nowM_len (t : List (List Int)) : (nowM t).length = t.length := by simp [nowM]
def inI (x : Int) (ns : List Int) : Int := if decide (x ∈ ns) = true then 1 else 0
theorem inI_le (x : Int) (ns : List Int) : 0 ≤ inI x ns ∧ inI x ns ≤ 1 := by unfold inI; split <;> omega
def topLine (hands : Int) (rows : List Row) (fallen : List Int) : List Int := (List.range hands.toNat).map fun h : Nat => ((told1 rows h).length : Int) - 1 - inI h fallen
theorem topLine_len (hands : Int) (rows : List Row) (fallen : List Int) : (topLine hands rows fallen).length = hands.toNat := by simp [topLine]
theorem topLine_get {hands : Int} {rows : List Row} {fallen : List Int} {i : Nat} (h : i < hands.toNat) : (topLine hands rows fallen)[i]? = some (((told1 rows i).length : Int) - 1 - inI i fallen) := by
  unfold topLine
  rw [List.getElem?_map, List.getElem?_range h]
  rfl
theorem topLine_ok (hands : Int) (rows : List Row) (fallen : List Int) : lineOk (told hands rows) (topLine hands rows fallen) = true := by
  refine lineOk_iff.mpr ⟨by rw [topLine_len, told_len], fun i n own hn ho => ?_⟩
  have hi := (List.getElem?_eq_some_iff.mp ho).1
  rw [told_len] at hi
  rw [told_get hi] at ho
  rw [topLine_get hi] at hn
  cases ho
  cases hn
  have := (told1_len rows (i : Nat)).1
  have := inI_le (i : Nat) fallen
  omega
def handsOk (hands : Int) (fallen : List Int) : Bool := fallen.all fun h => decide (needHand hands h = none)
def topM (hands : Int) (rows : List Row) (fallen : List Int) : Except Er (List Int) :=
  match lettersM hands rows with
  | .error e => .error e
  | .ok _ => if handsOk hands fallen = true then .ok (topLine hands rows fallen) else .error .NoHand
def stepsM (hands : Int) (rows : List Row) (fallen : List Int) : Except Er (List Stp) :=
  match lettersM hands rows with
  | .error e => .error e
  | .ok f => if handsOk hands fallen = true then .ok (fallM f (told hands rows) (topLine hands rows fallen)).1 else .error .NoHand
def lastM (hands : Int) (rows : List Row) (fallen : List Int) : Except Er (List Int) :=
  match lettersM hands rows with
  | .error e => .error e
  | .ok f => if handsOk hands fallen = true then .ok (fallM f (told hands rows) (topLine hands rows fallen)).2 else .error .NoHand
def everyone (hands : Int) : List Int := (List.range hands.toNat).map fun i : Nat => (i : Int)
theorem everyone_ok (hands : Int) : handsOk hands (everyone hands) = true := by
  unfold handsOk
  rw [List.all_eq_true]
  intro x hx
  obtain ⟨i, hi, rfl⟩ := List.mem_map.mp hx
  have := List.mem_range.mp hi
  exact decide_eq_true (needHand_ok.mpr ⟨by omega, by omega⟩)
def needlessM (hands : Int) (rows : List Row) : Except Er (List Int) := lastM hands rows (everyone hands)
def startLine (hands : Int) (rows : List Row) (hand number : Int) : List Int := (nowM (told hands rows)).set hand.toNat number
def lineWithM (hands : Int) (rows : List Row) (hand number : Int) : Except Er (Option (List Int)) :=
  match lettersM hands rows with
  | .error e => .error e
  | .ok f => if needHand hands hand = none then
      (if number < 0 ∨ ((told1 rows hand).length : Int) ≤ number then .error .NoLine else
        .ok (if at0 (fallM f (told hands rows) (startLine hands rows hand number)).2 hand < number then none else some (fallM f (told hands rows) (startLine hands rows hand number)).2))
    else .error .NoHand
def dOptL : Option (List Int) → PyData
  | none => .none
  | some l => dI l
theorem now_get {hands : Int} {rows : List Row} {i : Nat} (h : i < hands.toNat) : (nowM (told hands rows))[i]? = some (((told1 rows i).length : Int) - 1) := by
  unfold nowM
  rw [List.getElem?_map, told_get h]
  rfl
theorem start_ok {hands : Int} {rows : List Row} {hand number : Int} (h0 : 0 ≤ hand ∧ hand < hands) (h1 : 0 ≤ number ∧ number < ((told1 rows hand).length : Int)) : lineOk (told hands rows) (startLine hands rows hand number) = true := by
  refine lineOk_iff.mpr ⟨by unfold startLine; rw [List.length_set, nowM_len], fun i n own hn ho => ?_⟩
  have hi := (List.getElem?_eq_some_iff.mp ho).1
  rw [told_len] at hi
  rw [told_get hi] at ho
  cases ho
  unfold startLine at hn
  rw [List.getElem?_set, nowM_len, told_len] at hn
  split at hn
  · rename_i e
    subst e
    rw [if_pos hi] at hn
    cases hn
    rw [show ((hand.toNat : Nat) : Int) = hand by omega]
    exact h1
  · rw [now_get hi] at hn
    cases hn
    have := (told1_len rows (i : Nat)).1
    omega
end Y

namespace Y
open PySem PySem.Spec L2
local macro_rules | `(tactic| walk_at "y1") => `(tactic| first
  | (fail_if_success (with_reducible show SX _ (tSeq (tIfS _ _ _) _) _ _ _)); (with_reducible refine sx_seq ?_)
  | with_reducible refine sx_asg ?_
  | with_reducible refine sx_if ?_
  | with_reducible refine sx_ret ?_
  | with_reducible refine sx_retN ?_
  | with_reducible refine sx_next ?_
  | with_reducible refine sx_app ?_
  | with_reducible refine sx_clear ?_
  | with_reducible refine sx_setL ?_
  | with_reducible refine sx_dput ?_
  | with_reducible refine sx_drop ?_
  | with_reducible refine eg_var (by with_unfolding_all rfl) ?_
  | with_reducible refine eg_int ?_
  | with_reducible refine eg_bl ?_
  | with_reducible refine eg_str ?_
  | with_reducible refine eg_non ?_
  | with_reducible refine eg_raw ?_
  | with_reducible refine eg_op ?_
  | with_reducible refine eg_cb ?_
  | with_reducible refine eg_tup ?_
  | with_reducible refine eg_isN ?_
  | with_reducible refine eg_notN ?_
  | with_reducible refine eg_and ?_
  | with_reducible refine eg_or ?_
  | with_reducible refine eg_not ?_
  | with_reducible refine eg_dnew ?_
  | with_reducible refine eg_dget ?_
  | with_reducible refine eg_dnotin ?_
  | with_reducible refine eg_un ?_
  | with_reducible refine eg_partsNot ?_
  | with_reducible refine eg_partsIx ?_
  | with_reducible refine et_test ?_
  | with_reducible refine et_B ?_
  | with_reducible refine et_not ?_
  | with_reducible refine et_and ?_
  | with_reducible refine et_or ?_
  | with_reducible refine et_yes ?_
  | with_reducible refine ea_nil ?_
  | with_reducible refine ea_cons ?_
  | with_reducible refine el_lst ?_
  | with_reducible refine el_slL ?_
  | with_reducible refine el_op ?_
  | with_reducible refine el_cb ?_
  | with_reducible refine el_lstRev ?_
  | with_reducible refine el_rng ?_
  | with_reducible refine eo_none ?_
  | with_reducible refine eo_some ?_
  | with_reducible refine sr_list ?_
  | with_reducible refine sr_rng ?_
  | with_reducible refine sr_enum ?_
  | with_reducible refine eb_add ?_
  | with_reducible refine eb_sub ?_
  | with_reducible refine eb_fdivL (by decide) (by decide) ?_
  | with_reducible refine eb_mulL (by decide) (by decide) ?_
  | with_reducible refine eb_mulR (by decide) (by decide) ?_
  | with_reducible refine eb_powL (by decide) (by decide) (by decide) ?_
  | with_reducible refine eb_mod (by decide) ?_
  | with_reducible refine eb_lt ?_
  | with_reducible refine eb_le ?_
  | with_reducible refine eb_gt ?_
  | with_reducible refine eb_ge ?_
  | with_reducible refine eb_eqI ?_
  | with_reducible refine eb_neI ?_
  | with_reducible refine eb_eqB ?_)
local macro_rules | `(tactic| walk_at "y1") => `(tactic| first
  | with_reducible refine call_cell ?_
  | with_reducible refine Exists.intro _ (Exists.intro _ (Exists.intro _ (And.intro (Eq.refl [A.raw (V.ref _), A.dat (PyData.int _)]) (And.intro (by assumption) (And.intro (by first | decide | omega) ?_))))))
local macro_rules | `(tactic| walk_at "y") => `(tactic| (repeat' (walk_at "y1")))
local macro_rules | `(tactic| walk_at "yi") => `(tactic| ((repeat' (walk_at "y1")); (with_reducible refine sx_seq ?_); (repeat' (walk_at "y1"))))


/-! ### now -/
def R_now (ds : List PyData) (r : Res Er) : Prop := ∃ (t : List (List Int)), ds = [dT t] ∧ t.length ≤ 1000000 ∧ r = .ok (dI (nowM t))
abbrev sp_now (K : PySem.W.Frag) (C : Er → Addr) : Sp := Pr C R_now
theorem len_now {ds : List PyData} {r : Res Er} (h : R_now ds r) : ds.length = 1 := by
  obtain ⟨f, rfl, _⟩ := h; rfl
theorem wk_now (K : PySem.W.Frag) (C : Er → Addr) (H : Hp) (ds : List PyData) (r : Res Er) (h : R_now ds r) : SX H (t_now K) (entry ds 1) [] (HandR r) := by
  obtain ⟨t, rfl, hz, rfl⟩ := h
  show SX H (t_now K) [some (.arg (dT t)), none] [] _
  unfold t_now
  walk_at "y"
  refine el_dat (el_lcL t (fun o => .arg (dI o)) (by omega) (fun _ => true) (fun o => .int ((o.length : Int) - 1)) ?_ ?_ ?_)
  · walk_at "y"
    exact ⟨rfl, itm_T t, fun _ => itm_T t⟩
  · rintro o ho ω' ⟨acc, rfl⟩
    refine ⟨?_, fun _ => ?_⟩
    · walk_at "y"
      exact ⟨rfl, rfl⟩
    · walk_at "y"
      refine ec_len (itm_aI o) ?_
      walk_at "y"
      rw [List.length_map]
      exact ⟨rfl, rfl⟩
  rw [filter_yes]
  refine ⟨_, rfl, ?_⟩
  rw [show t.map (fun o => PyData.int ((o.length : Int) - 1)) = (nowM t).map .int by unfold nowM; rw [List.map_map]; rfl]
  exact .dat _
section
variable {K : PySem.W.Frag} {C : Er → Addr} {H0 : Hp} {δ : Sl} {ω : Om} {E : XK} {ts : TA} {P : A → Om → Prop}
theorem call_now {t : List (List Int)} (hz : t.length ≤ 1000000) (h : EA H0 ts δ ω fun bs ω1 => RdA ω1 bs [dT t] ∧ P (.dat (dI (nowM t))) ω1) : EG H0 (tCall (sp_now K C) [] E ts) δ ω P :=
  eg_call fun σ H vs as S Q q => h σ H vs as S Q fun bs ω' us H' ⟨hr, hp⟩ hl' S' => q bs ω' us H' ⟨_, _, hr, ⟨t, rfl, hz, rfl⟩, hp⟩ hl' S'
theorem ell_now {t : List (List Int)} {P : List A → Om → Prop} (hz : t.length ≤ 1000000) (h : EA H0 ts δ ω fun bs ω1 => RdA ω1 bs [dT t] ∧ P ((nowM t).map fun n => .dat (.int n)) ω1) : EL H0 (tCall (sp_now K C) [] E ts) δ ω P :=
  el_call fun σ H vs as S Q q => h σ H vs as S Q fun bs ω' us H' ⟨hr, hp⟩ hl' S' => q bs ω' us H' ⟨_, _, hr, ⟨t, rfl, hz, rfl⟩, (nowM t).map .int, rfl, noLA_ints _, by rw [List.map_map]; exact hp⟩ hl' S'
end
/-! ### top_line -/
def R_top_line (ds : List PyData) (r : Res Er) : Prop := ∃ (hands : Int) (rows : List Row) (fallen : List Int), ds = [.int hands, dRows rows, dI fallen] ∧ r = toRes dI (topM hands rows fallen)
abbrev sp_top_line (K : PySem.W.Frag) (C : Er → Addr) : Sp := Pr C R_top_line
theorem len_top_line {ds : List PyData} {r : Res Er} (h : R_top_line ds r) : ds.length = 3 := by
  obtain ⟨f, x, y, rfl, _⟩ := h; rfl
theorem handsOk_bad {hands : Int} {pre post : List Int} {x : Int} (h : needHand hands x ≠ none) : handsOk hands (pre ++ x :: post) ≠ true := by
  intro z
  unfold handsOk at z
  rw [List.all_eq_true] at z
  exact h (of_decide_eq_true (z x (by simp)))
theorem needHand_er {hands x : Int} {e : Er} (h : needHand hands x = some e) : e = .NoHand := by
  unfold needHand at h
  split at h <;> cases h
  rfl
theorem wk_top_line (K : PySem.W.Frag) (C : Er → Addr) (H : Hp) (E : XK) (ds : List PyData) (r : Res Er) (h : R_top_line ds r) (hE : ∀ e, r = .er e → ∀ H', Same H H' → E (.ref (C e)) none H') :
    SX H (t_top_line K E (sp_ends K C) (sp_now K C) (sp_need_hand K C)) (entry ds 2) [] (HandR r) := by
  obtain ⟨hands, rows, fallen, rfl, rfl⟩ := h
  show SX H (t_top_line K E (sp_ends K C) (sp_now K C) (sp_need_hand K C)) [some (.dat (.int hands)), some (.arg (dRows rows)), some (.arg (dI fallen)), none, none] [] _
  unfold t_top_line
  walk_at "y"
  cases hf : lettersM hands rows with
  | error e =>
    have he : endsM hands rows = .error e := by unfold endsM; rw [hf]
    refine eg_call ?_
    walk_at "y"
    refine call_ends (hands := hands) (rows := rows) ?_
    walk_at "y"
    refine ⟨.cons (.dat _) (.cons (.arg _) .nil), fun e' he' => ?_, fun t ht => (by rw [he] at ht; cases ht)⟩
    rw [he] at he'
    cases he'
    exact hE _ (by unfold topM; rw [hf]; rfl)
  | ok f =>
    have he : endsM hands rows = .ok (told hands rows) := by unfold endsM; rw [hf]
    obtain ⟨h1, h2, h3, _⟩ := lettersM_ok hf
    obtain ⟨n, rfl⟩ : ∃ n : Nat, hands = (n : Int) := ⟨hands.toNat, by omega⟩
    refine call_now (t := told n rows) (by rw [told_len]; omega) ?_
    walk_at "y"
    refine call_ends (hands := n) (rows := rows) ?_
    walk_at "y"
    refine ⟨.cons (.dat _) (.cons (.arg _) .nil), fun e' he' => (by rw [he] at he'; cases he'), fun t ht => ?_⟩
    rw [he] at ht
    cases ht
    walk_at "y"
    refine ⟨.cons (.dat _) .nil, ?_⟩
    walk_at "y"
    refine sx_forP (xs := fallen) (it := fun _ x => .dat (.int x)) (fun pre δ ω => ∃ a, δ = [some (.dat (.int n)), some (.arg (dRows rows)), some (.arg (dI fallen)), some (.dat (dI (nowM (told n rows)))), a] ∧ ω = [] ∧ handsOk n pre = true) ?_ ?_ ?_
    · walk_at "y"
      refine ⟨_, itm_aI fallen, map_idx _ _, ⟨_, rfl, rfl, rfl⟩, fun pre δ ω _ => itm_aI fallen⟩
    · rintro pre x post δ ω e ⟨a, rfl, rfl, hp⟩
      refine ⟨_, gx_name, ?_⟩
      walk_at "y"
      refine call_need_hand ?_
      walk_at "y"
      refine ⟨n, x, .cons (.dat _) (.cons (.dat _) .nil), fun e' he' => hE e' (by
        unfold topM
        rw [hf]
        simp only
        rw [needHand_er he', if_neg (by rw [e]; exact handsOk_bad (by rw [he']; simp))]
        rfl), fun hok => ?_⟩
      refine ⟨_, rfl, rfl, ?_⟩
      unfold handsOk at hp ⊢
      rw [List.all_append, hp]
      simp [hok]
    · rintro δ ω ⟨a, rfl, rfl, hp⟩
      rw [show topM n rows fallen = .ok (topLine n rows fallen) by unfold topM; rw [hf]; simp only; rw [if_pos hp]]
      walk_at "y"
      refine el_dat (el_lcR (n := n) (by omega) (fun _ => true) (fun i => .int (((told1 rows i).length : Int) - 1 - inI i fallen)) ?_ ?_ ?_)
      · walk_at "y"
        exact ⟨rfl, rfl⟩
      · rintro i hi ω' ⟨acc, rfl⟩
        refine ⟨?_, fun _ => ?_⟩
        · walk_at "y"
          exact ⟨rfl, rfl⟩
        · walk_at "y"
          refine eb_ixUL (itm_dI _) (at_I (Int.natCast_nonneg i) (by rw [Int.toNat_natCast]; exact now_get (hands := n) (by omega))) ?_
          walk_at "y"
          refine eb_in (itm_aI fallen) ?_
          walk_at "y"
          refine ec_intB ?_
          walk_at "y"
          exact ⟨rfl, rfl⟩
      rw [filter_yes]
      refine ⟨_, rfl, ?_⟩
      rw [show (List.range n).map (fun i : Nat => PyData.int (((told1 rows i).length : Int) - 1 - inI i fallen)) = (topLine n rows fallen).map .int by unfold topLine; rw [List.map_map]; rfl]
      exact .dat _
section
variable {K : PySem.W.Frag} {C : Er → Addr} {H0 : Hp} {δ : Sl} {ω : Om} {E : XK} {ts : TA} {P : A → Om → Prop}
theorem call_top_line {hands : Int} {rows : List Row} {fallen : List Int} (h : EA H0 ts δ ω fun bs ω1 => RdA ω1 bs [.int hands, dRows rows, dI fallen] ∧ (∀ e, topM hands rows fallen = .error e → ∀ H', Same H0 H' → E (.ref (C e)) none H') ∧ (∀ k, topM hands rows fallen = .ok k → P (.dat (dI k)) ω1)) : EG H0 (tCall (sp_top_line K C) [] E ts) δ ω P :=
  eg_call fun σ H vs as S Q q => h σ H vs as S Q fun bs ω' us H' ⟨hr, h1, h2⟩ hl S' => q bs ω' us H' ⟨_, _, hr, ⟨hands, rows, fallen, rfl, rfl⟩, by
    cases e : topM hands rows fallen with
    | ok f => exact h2 f e
    | error e' => exact h1 e' e⟩ hl S'
theorem call_ends_ok {hands : Int} {rows : List Row} {f : List Let} (hf : lettersM hands rows = .ok f) (h : EA H0 ts δ ω fun bs ω1 => RdA ω1 bs [.int hands, dRows rows] ∧ P (.dat (dT (told hands rows))) ω1) : EG H0 (tCall (sp_ends K C) [] E ts) δ ω P :=
  call_ends (EA.imp h fun bs ω1 ⟨a, b⟩ => ⟨a, fun e he => (by unfold endsM at he; rw [hf] at he; cases he), fun t ht => (by unfold endsM at ht; rw [hf] at ht; cases ht; exact b)⟩)
end
/-! ### steps, last_line -/
def R_steps (ds : List PyData) (r : Res Er) : Prop := ∃ (hands : Int) (rows : List Row) (fallen : List Int), ds = [.int hands, dRows rows, dI fallen] ∧ r = toRes dStps (stepsM hands rows fallen)
abbrev sp_steps (K : PySem.W.Frag) (C : Er → Addr) : Sp := Pr C R_steps
theorem len_steps {ds : List PyData} {r : Res Er} (h : R_steps ds r) : ds.length = 3 := by
  obtain ⟨f, x, y, rfl, _⟩ := h; rfl
def R_last_line (ds : List PyData) (r : Res Er) : Prop := ∃ (hands : Int) (rows : List Row) (fallen : List Int), ds = [.int hands, dRows rows, dI fallen] ∧ r = toRes dI (lastM hands rows fallen)
abbrev sp_last_line (K : PySem.W.Frag) (C : Er → Addr) : Sp := Pr C R_last_line
theorem len_last_line {ds : List PyData} {r : Res Er} (h : R_last_line ds r) : ds.length = 3 := by
  obtain ⟨f, x, y, rfl, _⟩ := h; rfl
theorem topM_cases (hands : Int) (rows : List Row) (fallen : List Int) : (∃ e, topM hands rows fallen = .error e ∧ stepsM hands rows fallen = .error e ∧ lastM hands rows fallen = .error e) ∨ ∃ f, lettersM hands rows = .ok f ∧ handsOk hands fallen = true ∧ topM hands rows fallen = .ok (topLine hands rows fallen) ∧ stepsM hands rows fallen = .ok (fallM f (told hands rows) (topLine hands rows fallen)).1 ∧ lastM hands rows fallen = .ok (fallM f (told hands rows) (topLine hands rows fallen)).2 := by
  unfold topM stepsM lastM
  cases lettersM hands rows with
  | error e => exact .inl ⟨e, rfl, rfl, rfl⟩
  | ok f =>
    simp only
    by_cases h : handsOk hands fallen = true
    · rw [if_pos h, if_pos h, if_pos h]
      exact .inr ⟨f, rfl, h, rfl, rfl, rfl⟩
    · rw [if_neg h, if_neg h, if_neg h]
      exact .inl ⟨_, rfl, rfl, rfl⟩
theorem wk_steps (K : PySem.W.Frag) (C : Er → Addr) (H : Hp) (E : XK) (ds : List PyData) (r : Res Er) (h : R_steps ds r) (hE : ∀ e, r = .er e → ∀ H', Same H H' → E (.ref (C e)) none H') :
    SX H (t_steps K E (sp_top_line K C) (sp_ends K C) (sp_letters K C) (sp_fall K C)) (entry ds 1) [] (HandR r) := by
  obtain ⟨hands, rows, fallen, rfl, rfl⟩ := h
  show SX H (t_steps K E (sp_top_line K C) (sp_ends K C) (sp_letters K C) (sp_fall K C)) [some (.dat (.int hands)), some (.arg (dRows rows)), some (.arg (dI fallen)), none] [] _
  unfold t_steps
  walk_at "y"
  refine call_top_line (hands := hands) (rows := rows) (fallen := fallen) ?_
  walk_at "y"
  refine ⟨.cons (.dat _) (.cons (.arg _) (.cons (.arg _) .nil)), fun e he => hE e ?_, fun k hk => ?_⟩
  · rcases topM_cases hands rows fallen with ⟨e', a, b, c⟩ | ⟨f, _, _, a, _, _⟩
    · rw [a] at he; cases he; rw [b]; rfl
    · rw [a] at he; cases he
  rcases topM_cases hands rows fallen with ⟨e', a, b, c⟩ | ⟨f, hf, hok, a, b, c⟩
  · rw [a] at hk; cases hk
  rw [a] at hk; cases hk
  rw [b]
  walk_at "y"
  refine call_fall hf (topLine_ok hands rows fallen) ?_
  walk_at "y"
  refine call_letters_ok hf ?_
  walk_at "y"
  refine ⟨.cons (.dat _) (.cons (.arg _) .nil), ?_⟩
  walk_at "y"
  refine call_ends_ok hf ?_
  walk_at "y"
  refine ⟨.cons (.dat _) (.cons (.arg _) .nil), ?_⟩
  walk_at "y"
  refine ⟨.cons (.dat _) (.cons (.dat _) (.cons (.dat _) .nil)), ?_⟩
  walk_at "y"
  refine eb_ixUT (.dat _) (d := dStps _) rfl ?_
  exact .dat _
theorem wk_last_line (K : PySem.W.Frag) (C : Er → Addr) (H : Hp) (E : XK) (ds : List PyData) (r : Res Er) (h : R_last_line ds r) (hE : ∀ e, r = .er e → ∀ H', Same H H' → E (.ref (C e)) none H') :
    SX H (t_last_line K E (sp_top_line K C) (sp_ends K C) (sp_letters K C) (sp_fall K C)) (entry ds 1) [] (HandR r) := by
  obtain ⟨hands, rows, fallen, rfl, rfl⟩ := h
  show SX H (t_last_line K E (sp_top_line K C) (sp_ends K C) (sp_letters K C) (sp_fall K C)) [some (.dat (.int hands)), some (.arg (dRows rows)), some (.arg (dI fallen)), none] [] _
  unfold t_last_line
  walk_at "y"
  refine call_top_line (hands := hands) (rows := rows) (fallen := fallen) ?_
  walk_at "y"
  refine ⟨.cons (.dat _) (.cons (.arg _) (.cons (.arg _) .nil)), fun e he => hE e ?_, fun k hk => ?_⟩
  · rcases topM_cases hands rows fallen with ⟨e', a, b, c⟩ | ⟨f, _, _, a, _, _⟩
    · rw [a] at he; cases he; rw [c]; rfl
    · rw [a] at he; cases he
  rcases topM_cases hands rows fallen with ⟨e', a, b, c⟩ | ⟨f, hf, hok, a, b, c⟩
  · rw [a] at hk; cases hk
  rw [a] at hk; cases hk
  rw [c]
  walk_at "y"
  refine call_fall hf (topLine_ok hands rows fallen) ?_
  walk_at "y"
  refine call_letters_ok hf ?_
  walk_at "y"
  refine ⟨.cons (.dat _) (.cons (.arg _) .nil), ?_⟩
  walk_at "y"
  refine call_ends_ok hf ?_
  walk_at "y"
  refine ⟨.cons (.dat _) (.cons (.arg _) .nil), ?_⟩
  walk_at "y"
  refine ⟨.cons (.dat _) (.cons (.dat _) (.cons (.dat _) .nil)), ?_⟩
  walk_at "y"
  refine eb_ixUT (.dat _) (d := dI _) rfl ?_
  exact .dat _
section
variable {K : PySem.W.Frag} {C : Er → Addr} {H0 : Hp} {δ : Sl} {ω : Om} {E : XK} {ts : TA} {P : A → Om → Prop}
theorem call_steps {hands : Int} {rows : List Row} {fallen : List Int} (h : EA H0 ts δ ω fun bs ω1 => RdA ω1 bs [.int hands, dRows rows, dI fallen] ∧ (∀ e, stepsM hands rows fallen = .error e → ∀ H', Same H0 H' → E (.ref (C e)) none H') ∧ (∀ k, stepsM hands rows fallen = .ok k → P (.dat (dStps k)) ω1)) : EG H0 (tCall (sp_steps K C) [] E ts) δ ω P :=
  eg_call fun σ H vs as S Q q => h σ H vs as S Q fun bs ω' us H' ⟨hr, h1, h2⟩ hl S' => q bs ω' us H' ⟨_, _, hr, ⟨hands, rows, fallen, rfl, rfl⟩, by
    cases e : stepsM hands rows fallen with
    | ok f => exact h2 f e
    | error e' => exact h1 e' e⟩ hl S'
theorem call_last_line {hands : Int} {rows : List Row} {fallen : List Int} (h : EA H0 ts δ ω fun bs ω1 => RdA ω1 bs [.int hands, dRows rows, dI fallen] ∧ (∀ e, lastM hands rows fallen = .error e → ∀ H', Same H0 H' → E (.ref (C e)) none H') ∧ (∀ k, lastM hands rows fallen = .ok k → P (.dat (dI k)) ω1)) : EG H0 (tCall (sp_last_line K C) [] E ts) δ ω P :=
  eg_call fun σ H vs as S Q q => h σ H vs as S Q fun bs ω' us H' ⟨hr, h1, h2⟩ hl S' => q bs ω' us H' ⟨_, _, hr, ⟨hands, rows, fallen, rfl, rfl⟩, by
    cases e : lastM hands rows fallen with
    | ok f => exact h2 f e
    | error e' => exact h1 e' e⟩ hl S'
end
/-! ### needless -/
def R_needless (ds : List PyData) (r : Res Er) : Prop := ∃ (hands : Int) (rows : List Row), ds = [.int hands, dRows rows] ∧ 0 ≤ hands ∧ hands ≤ 100000 ∧ r = toRes dI (needlessM hands rows)
abbrev sp_needless (K : PySem.W.Frag) (C : Er → Addr) : Sp := Pr C R_needless
theorem len_needless {ds : List PyData} {r : Res Er} (h : R_needless ds r) : ds.length = 2 := by
  obtain ⟨f, x, rfl, _⟩ := h; rfl
theorem wk_needless (K : PySem.W.Frag) (C : Er → Addr) (H : Hp) (E : XK) (ds : List PyData) (r : Res Er) (h : R_needless ds r) (hE : ∀ e, r = .er e → ∀ H', Same H H' → E (.ref (C e)) none H') :
    SX H (t_needless K E (sp_last_line K C)) (entry ds 2) [] (HandR r) := by
  obtain ⟨hands, rows, rfl, b0, b1, rfl⟩ := h
  show SX H (t_needless K E (sp_last_line K C)) [some (.dat (.int hands)), some (.arg (dRows rows)), none, none] [] _
  obtain ⟨n, rfl⟩ : ∃ n : Nat, hands = (n : Int) := ⟨hands.toNat, by omega⟩
  unfold t_needless
  walk_at "y"
  refine el_dat (el_lcR (n := n) (by omega) (fun _ => true) (fun i => .int (i : Nat)) ?_ ?_ ?_)
  · walk_at "y"
    exact ⟨rfl, rfl⟩
  · rintro i hi ω' ⟨acc, rfl⟩
    refine ⟨?_, fun _ => ?_⟩
    · walk_at "y"
      exact ⟨rfl, rfl⟩
    · walk_at "y"
      exact ⟨rfl, rfl⟩
  rw [filter_yes]
  refine ⟨_, rfl, ?_⟩
  rw [show (List.range n).map (fun i : Nat => PyData.int (i : Nat)) = (everyone n).map .int by unfold everyone; rw [List.map_map]; rfl]
  walk_at "y"
  refine call_last_line (hands := n) (rows := rows) (fallen := everyone n) ?_
  walk_at "y"
  refine ⟨.cons (.dat _) (.cons (.arg _) (.cons (.dat _) .nil)), fun e he => hE e (by unfold needlessM; rw [he]; rfl), fun k hk => ?_⟩
  rw [show needlessM n rows = .ok k from hk]
  exact .dat _
/-! ### line_with -/
def R_line_with (ds : List PyData) (r : Res Er) : Prop := ∃ (hands : Int) (rows : List Row) (hand number : Int), ds = [.int hands, dRows rows, .int hand, .int number] ∧ r = toRes dOptL (lineWithM hands rows hand number)
abbrev sp_line_with (K : PySem.W.Frag) (C : Er → Addr) : Sp := Pr C R_line_with
theorem len_line_with {ds : List PyData} {r : Res Er} (h : R_line_with ds r) : ds.length = 4 := by
  obtain ⟨f, x, y, z, rfl, _⟩ := h; rfl
theorem wk_line_with (K : PySem.W.Frag) (C : Er → Addr) (H : Hp) (E : XK) (ds : List PyData) (r : Res Er) (h : R_line_with ds r) (hE : ∀ e, r = .er e → ∀ H', Same H H' → E (.ref (C e)) none H') :
    SX H (t_line_with K E (sp_ends K C) (sp_need_hand K C) (sp_now K C) (sp_letters K C) (sp_fall K C) (C .NoLine)) (entry ds 2) [] (HandR r) := by
  obtain ⟨hands, rows, hand, number, rfl, rfl⟩ := h
  show SX H (t_line_with K E (sp_ends K C) (sp_need_hand K C) (sp_now K C) (sp_letters K C) (sp_fall K C) (C .NoLine)) [some (.dat (.int hands)), some (.arg (dRows rows)), some (.dat (.int hand)), some (.dat (.int number)), none, none] [] _
  unfold t_line_with
  walk_at "y"
  refine call_ends (hands := hands) (rows := rows) ?_
  walk_at "y"
  refine ⟨.cons (.dat _) (.cons (.arg _) .nil), fun e he => hE e ?_, fun t ht => ?_⟩
  · unfold endsM at he
    unfold lineWithM
    cases hf : lettersM hands rows with
    | error e' => rw [hf] at he; cases he; rfl
    | ok f => rw [hf] at he; cases he
  obtain ⟨⟨f, hf⟩, rfl⟩ := endsM_ok ht
  obtain ⟨h1, h2, h3, _⟩ := lettersM_ok hf
  walk_at "y"
  refine call_need_hand ?_
  walk_at "y"
  refine ⟨hands, hand, .cons (.dat _) (.cons (.dat _) .nil), fun e' he' => hE e' (by
    unfold lineWithM
    rw [hf]
    simp only
    rw [needHand_er he', if_neg (by rw [he']; simp)]
    rfl), fun hh => ?_⟩
  have hh2 := needHand_ok.mp hh
  have hown := told_get (rows := rows) (i := hand.toNat) (hands := hands) (by omega)
  rw [show ((hand.toNat : Nat) : Int) = hand by omega] at hown
  have bad : number < 0 ∨ ((told1 rows hand).length : Int) ≤ number → ∀ H', Same H H' → E (.ref (C .NoLine)) none H' := fun hb => hE _ (by
    unfold lineWithM
    rw [hf]
    simp only
    rw [if_pos hh, if_pos hb]
    rfl)
  walk_at "yi"
  refine ⟨_, rfl, ?_⟩
  split
  · rename_i c
    have c := of_decide_eq_true c
    exact ⟨fun _ => sx_exit (bad (.inl c)), fun z => (by cases z)⟩
  rename_i c
  have c : ¬ number < 0 := fun z => c (decide_eq_true z)
  walk_at "y"
  refine eb_ixUL (itm_TD _) (c := .dat (dI (told1 rows hand))) (at_nat hh2.1 (by rw [List.getElem?_map, hown]; rfl)) ?_
  walk_at "y"
  refine ec_len (itm_dI _) ?_
  walk_at "y"
  rw [List.length_map]
  refine ⟨_, rfl, fun c2 => sx_exit (bad (.inr (of_decide_eq_true c2))), fun c2 => ?_⟩
  have c2 := of_decide_eq_false c2
  have hok := start_ok (rows := rows) (number := number) hh2 ⟨by omega, by omega⟩
  have hlen : (fallM f (told hands rows) (startLine hands rows hand number)).2.length = hands.toNat := by
    have T := told_ok hands rows
    have L : LetsOk (told hands rows).length f := by rw [told_len]; exact lets_ok hf
    rw [(lineOk_iff.mp (fall_ok T L hok).1).1, told_len]
  rw [show lineWithM hands rows hand number = .ok (if at0 (fallM f (told hands rows) (startLine hands rows hand number)).2 hand < number then none else some (fallM f (told hands rows) (startLine hands rows hand number)).2) by
    unfold lineWithM
    rw [hf]
    simp only
    rw [if_pos hh, if_neg (by omega)]]
  walk_at "y"
  refine el_own (ell_now (t := told hands rows) (by rw [told_len]; omega) ?_)
  walk_at "y"
  refine ⟨.cons (.dat _) .nil, ?_⟩
  walk_at "y"
  refine ⟨0, hand, hand.toNat, _, rfl, rfl, rfl, ?_, ?_⟩
  · unfold ixN
    rw [List.length_map, nowM_len, told_len, if_pos hh2.1, if_pos (by omega)]
  have hset : ((nowM (told hands rows)).map fun n => A.dat (.int n)).set hand.toNat (.dat (.int number)) = (startLine hands rows hand number).map fun n => A.dat (.int n) := by unfold startLine; rw [List.map_set]
  rw [hset]
  walk_at "y"
  refine call_fall hf hok ?_
  walk_at "y"
  refine call_letters_ok hf ?_
  walk_at "y"
  refine ⟨.cons (.dat _) (.cons (.arg _) .nil), ?_⟩
  walk_at "y"
  refine ⟨.cons (.dat _) (.cons (.dat _) (.cons (rd_dI rfl) .nil)), ?_⟩
  walk_at "y"
  refine eb_ixUT (.dat _) (d := dI _) rfl ?_
  walk_at "yi"
  refine eb_ixUL (itm_dI _) (at_I hh2.1 (at0_get hh2.1 (by rw [hlen]; omega))) ?_
  walk_at "y"
  refine ⟨_, rfl, fun c3 => ?_, fun c3 => ?_⟩
  · have c3 := of_decide_eq_true c3
    rw [if_pos c3]
    walk_at "y"
    exact .dat _
  · have c3 := of_decide_eq_false c3
    rw [if_neg c3]
    walk_at "y"
    exact .dat _
section
variable {K : PySem.W.Frag} {C : Er → Addr} {H0 : Hp} {δ : Sl} {ω : Om} {E : XK} {ts : TA} {P : A → Om → Prop}
theorem call_needless {hands : Int} {rows : List Row} (b0 : 0 ≤ hands) (b1 : hands ≤ 100000) (h : EA H0 ts δ ω fun bs ω1 => RdA ω1 bs [.int hands, dRows rows] ∧ (∀ e, needlessM hands rows = .error e → ∀ H', Same H0 H' → E (.ref (C e)) none H') ∧ (∀ k, needlessM hands rows = .ok k → P (.dat (dI k)) ω1)) : EG H0 (tCall (sp_needless K C) [] E ts) δ ω P :=
  eg_call fun σ H vs as S Q q => h σ H vs as S Q fun bs ω' us H' ⟨hr, h1, h2⟩ hl S' => q bs ω' us H' ⟨_, _, hr, ⟨hands, rows, rfl, b0, b1, rfl⟩, by
    cases e : needlessM hands rows with
    | ok f => exact h2 f e
    | error e' => exact h1 e' e⟩ hl S'
theorem call_line_with {hands : Int} {rows : List Row} {hand number : Int} (h : EA H0 ts δ ω fun bs ω1 => RdA ω1 bs [.int hands, dRows rows, .int hand, .int number] ∧ (∀ e, lineWithM hands rows hand number = .error e → ∀ H', Same H0 H' → E (.ref (C e)) none H') ∧ (∀ k, lineWithM hands rows hand number = .ok k → P (.dat (dOptL k)) ω1)) : EG H0 (tCall (sp_line_with K C) [] E ts) δ ω P :=
  eg_call fun σ H vs as S Q q => h σ H vs as S Q fun bs ω' us H' ⟨hr, h1, h2⟩ hl S' => q bs ω' us H' ⟨_, _, hr, ⟨hands, rows, hand, number, rfl, rfl⟩, by
    cases e : lineWithM hands rows hand number with
    | ok f => exact h2 f e
    | error e' => exact h1 e' e⟩ hl S'
end
end Y

namespace Y
open PySem PySem.Spec L2
local macro_rules | `(tactic| walk_at "y1") => `(tactic| first
  | (fail_if_success (with_reducible show SX _ (tSeq (tIfS _ _ _) _) _ _ _)); (with_reducible refine sx_seq ?_)
  | with_reducible refine sx_asg ?_
  | with_reducible refine sx_if ?_
  | with_reducible refine sx_ret ?_
  | with_reducible refine sx_retN ?_
  | with_reducible refine sx_next ?_
  | with_reducible refine sx_app ?_
  | with_reducible refine sx_clear ?_
  | with_reducible refine sx_setL ?_
  | with_reducible refine sx_dput ?_
  | with_reducible refine sx_drop ?_
  | with_reducible refine eg_var (by with_unfolding_all rfl) ?_
  | with_reducible refine eg_int ?_
  | with_reducible refine eg_bl ?_
  | with_reducible refine eg_str ?_
  | with_reducible refine eg_non ?_
  | with_reducible refine eg_raw ?_
  | with_reducible refine eg_op ?_
  | with_reducible refine eg_cb ?_
  | with_reducible refine eg_tup ?_
  | with_reducible refine eg_isN ?_
  | with_reducible refine eg_notN ?_
  | with_reducible refine eg_and ?_
  | with_reducible refine eg_or ?_
  | with_reducible refine eg_not ?_
  | with_reducible refine eg_dnew ?_
  | with_reducible refine eg_dget ?_
  | with_reducible refine eg_dnotin ?_
  | with_reducible refine eg_un ?_
  | with_reducible refine eg_partsNot ?_
  | with_reducible refine eg_partsIx ?_
  | with_reducible refine et_test ?_
  | with_reducible refine et_B ?_
  | with_reducible refine et_not ?_
  | with_reducible refine et_and ?_
  | with_reducible refine et_or ?_
  | with_reducible refine et_yes ?_
  | with_reducible refine ea_nil ?_
  | with_reducible refine ea_cons ?_
  | with_reducible refine el_lst ?_
  | with_reducible refine el_slL ?_
  | with_reducible refine el_op ?_
  | with_reducible refine el_cb ?_
  | with_reducible refine el_lstRev ?_
  | with_reducible refine el_rng ?_
  | with_reducible refine eo_none ?_
  | with_reducible refine eo_some ?_
  | with_reducible refine sr_list ?_
  | with_reducible refine sr_rng ?_
  | with_reducible refine sr_enum ?_
  | with_reducible refine eb_add ?_
  | with_reducible refine eb_sub ?_
  | with_reducible refine eb_fdivL (by decide) (by decide) ?_
  | with_reducible refine eb_mulL (by decide) (by decide) ?_
  | with_reducible refine eb_mulR (by decide) (by decide) ?_
  | with_reducible refine eb_powL (by decide) (by decide) (by decide) ?_
  | with_reducible refine eb_mod (by decide) ?_
  | with_reducible refine eb_lt ?_
  | with_reducible refine eb_le ?_
  | with_reducible refine eb_gt ?_
  | with_reducible refine eb_ge ?_
  | with_reducible refine eb_eqI ?_
  | with_reducible refine eb_neI ?_
  | with_reducible refine eb_eqB ?_)
local macro_rules | `(tactic| walk_at "y1") => `(tactic| first
  | with_reducible refine call_cell ?_
  | with_reducible refine Exists.intro _ (Exists.intro _ (Exists.intro _ (And.intro (Eq.refl [A.raw (V.ref _), A.dat (PyData.int _)]) (And.intro (by assumption) (And.intro (by first | decide | omega) ?_))))))
local macro_rules | `(tactic| walk_at "y") => `(tactic| (repeat' (walk_at "y1")))
local macro_rules | `(tactic| walk_at "yi") => `(tactic| ((repeat' (walk_at "y1")); (with_reducible refine sx_seq ?_); (repeat' (walk_at "y1"))))


theorem idxs_nil {q : Let → Bool} {f : List Let} : idxs q 0 f = [] ↔ ∀ (i : Nat) (l : Let), f[i]? = some l → q l = false := by
  constructor
  · intro h i l hl
    cases e : q l with
    | false => rfl
    | true =>
      have : ((0 + i : Nat) : Int) ∈ idxs q 0 f := idxs_mem.mpr ⟨i, l, rfl, hl, e⟩
      rw [h] at this
      cases this
  · intro h
    cases e : idxs q 0 f with
    | nil => rfl
    | cons w ws =>
      obtain ⟨i, l, _, hl, hq⟩ := idxs_mem.mp (show w ∈ idxs q 0 f by rw [e]; exact List.mem_cons_self)
      rw [h i l hl] at hq
      cases hq
theorem goL_keep {hands : Int} : ∀ {rows : List Row} {k : Nat} {f f' : List Let} {i g : Nat} {l : Let}, goL hands k f rows = .ok f' → f[i]? = some l → l.g = some g → f'[i]? = some l
  | [], k, f, f', i, g, l, h, hl, hg => by cases h; exact hl
  | r :: rows, k, f, f', i, g, l, h, hl, hg => by
    simp only [goL] at h
    split at h
    · cases h
    · rename_i f1 h1
      refine goL_keep (g := g) h ?_ hg
      have st := stepOk_of h1
      cases st with
      | send a b => rw [List.getElem?_append_left (List.getElem?_eq_some_iff.mp hl).1]; exact hl
      | @got h' l' y a hy ht hgn =>
        rw [List.getElem?_set_ne (fun e => by
          subst e
          rw [hl] at hy
          cases hy
          rw [hg] at hgn
          cases hgn)]
        exact hl
      | note a => exact hl
def sentK (kept : List Int) (l : Let) : Bool := decide ((l.p : Int) < at0 kept l.s)
theorem stray_got (kept : List Int) (y : Let) (k : Nat) : stray kept { y with g := some k } = (decide ((k : Int) < at0 kept y.t) && !sentK kept y) := by
  unfold stray sentK
  simp only
  congr 1
  rw [← decide_not]
  exact decide_eq_decide.mpr (by omega)
abbrev oB (f : List Let) (q : Let → Bool) : Ob := .lst (f.map fun l => .dat (.bool (q l)))
theorem at_B {f : List Let} {q : Let → Bool} {i : Nat} {l : Let} (h : f[i]? = some l) : atI (f.map fun l => A.dat (.bool (q l))) (i : Int) = some (.dat (.bool (q l))) := at_nat (Int.natCast_nonneg _) (by rw [Int.toNat_natCast, List.getElem?_map, h]; rfl)
theorem oB_snoc (f : List Let) (q : Let → Bool) (l : Let) (b : Bool) (h : q l = b) : Ob.lst (f.map (fun l => A.dat (.bool (q l))) ++ [.dat (.bool b)]) = oB (f ++ [l]) q := by
  rw [← h]; show _ = Ob.lst (List.map _ _); rw [List.map_append]; rfl
theorem oB_same (f : List Let) (q : Let → Bool) (i : Nat) (l y : Let) (hy : f[i]? = some y) (h : q l = q y) : oB (f.set i l) q = oB f q := by
  show Ob.lst (List.map _ _) = Ob.lst (List.map _ _)
  rw [List.map_set, h]
  congr 1
  apply List.ext_getElem?
  intro j
  rw [List.getElem?_set]
  split
  · rename_i e
    subst e
    rw [List.length_map, if_pos (List.getElem?_eq_some_iff.mp hy).1, List.getElem?_map, hy]
    rfl
  · rfl
/-! ### _law_has_stray -/
def R_l_has_stray (ds : List PyData) (r : Res Er) : Prop := ∃ (hands : Int) (rows : List Row) (f : List Let) (line : List Int), ds = [dRows rows, dT (told hands rows), dI line] ∧ lettersM hands rows = .ok f ∧ lineOk (told hands rows) line = true ∧ r = .ok (.bool (!decide (straysBy f (endsOf (told hands rows) line) = [])))
abbrev sp_l_has_stray (K : PySem.W.Frag) (C : Er → Addr) : Sp := Pr C R_l_has_stray
theorem len_l_has_stray {ds : List PyData} {r : Res Er} (h : R_l_has_stray ds r) : ds.length = 3 := by
  obtain ⟨_, _, _, _, rfl, _⟩ := h; rfl
theorem wk_l_has_stray (K : PySem.W.Frag) (C : Er → Addr) (H : Hp) (ds : List PyData) (r : Res Er) (h : R_l_has_stray ds r) : SX H (t_l_has_stray K) (entry ds 3) [] (HandR r) := by
  obtain ⟨hands, rows, f, line, rfl, hf, hok, rfl⟩ := h
  show SX H (t_l_has_stray K) [some (.arg (dRows rows)), some (.arg (dT (told hands rows))), some (.arg (dI line)), none, none, none] [] _
  obtain ⟨h1, h2, h3, hgo⟩ := lettersM_ok hf
  have htl := told_len hands rows
  have hka : ∀ x : Int, 0 ≤ x → x < hands → ∃ m own, line[x.toNat]? = some m ∧ (told hands rows)[x.toNat]? = some own ∧ 0 ≤ m ∧ own[m.toNat]? = some (at0 (endsOf (told hands rows) line) x) := fun x x0 x1 => kept_at2 hok x0 (by rw [htl]; omega)
  generalize told hands rows = t at hok htl hka
  generalize hkd : endsOf t line = kept at hka
  have hfl := letters_size hf
  unfold t_l_has_stray
  walk_at "y"
  refine el_own (el_lst ?_)
  walk_at "y"
  refine ⟨szOk (by decide), ?_⟩
  walk_at "y"
  refine sx_forP (xs := List.range rows.length) (it := fun _ c => .dat (.int (c : Nat))) (fun pre δ ω => ∃ u v f1, δ = [some (.arg (dRows rows)), some (.arg (dT t)), some (.arg (dI line)), some (.ptr 0), u, v] ∧ ω = [oB f1 (sentK kept)] ∧ goL hands 0 [] (rows.take pre.length) = .ok f1 ∧ ∀ (i : Nat) (l : Let), f1[i]? = some l → stray kept l = false) ?_ ?_ ?_
  · walk_at "y"
    refine ec_len (itm_rows rows) ?_
    walk_at "y"
    refine ⟨_, rfl, by rw [List.length_map]; omega, ?_⟩
    rw [List.length_map]
    exact ⟨map_idx _ _, ⟨_, _, [], rfl, rfl, rfl, fun i l h => by simp at h⟩, fun _ _ _ _ => trivial⟩
  · rintro pre x post δ ω e ⟨u, v, f1, rfl, rfl, hf1, hno⟩
    obtain ⟨rfl, hpl⟩ := range_mid e
    obtain ⟨r, hr⟩ : ∃ r, rows[pre.length]? = some r := ⟨_, List.getElem?_eq_getElem hpl⟩
    obtain ⟨f1', f2, hf1', hst, hf2⟩ := goL_at hgo hr
    rw [hf1] at hf1'
    cases hf1'
    have hfl1 := goL_len hf1
    rw [List.length_take, List.length_nil] at hfl1
    have hrest : goL hands (pre.length + 1) f2 (rows.drop (pre.length + 1)) = .ok f := by
      have e2 : rows = rows.take (pre.length + 1) ++ rows.drop (pre.length + 1) := (List.take_append_drop _ _).symm
      rw [e2] at hgo
      obtain ⟨f3, h5, h6⟩ := goL_split hgo
      rw [hf2] at h5
      cases h5
      rw [List.length_take, Nat.zero_add, Nat.min_eq_left (by omega)] at h6
      exact h6
    refine ⟨_, gx_name, ?_⟩
    rw [List.length_append, List.length_singleton]
    have row : ∀ {ω : Om}, Itm K H ω (.arg (dRows rows)) (rows.map fun r => .dat (dRow r)) := itm_rows rows
    have hat := at_row hr
    cases hst with
    | @send h t' a1 a2 =>
      obtain ⟨m, own, q1, q2, q3, q4⟩ := hka h a1.1 a1.2
      walk_at "y"
      refine eb_ixUL row hat ?_
      walk_at "y"
      refine eb_ixUT (.dat _) (d := .int h) (at_ns (ns := [h, t']) (j := 0) rfl) ?_
      refine eb_ixUL (itm_T t) (c := .arg (dI own)) (at_nat a1.1 (by rw [List.getElem?_map, q2]; rfl)) ?_
      walk_at "y"
      refine eb_ixUL row hat ?_
      walk_at "y"
      refine eb_ixUT (.dat _) (d := .int h) (at_ns (ns := [h, t']) (j := 0) rfl) ?_
      refine eb_ixUL (itm_aI line) (at_I a1.1 q1) ?_
      refine eb_ixUL (itm_aI own) (at_I q3 q4) ?_
      walk_at "yi"
      refine eb_ixUL row hat ?_
      walk_at "y"
      refine eb_ixUT (.dat _) (d := .str wSend) at_cons ?_
      walk_at "y"
      refine eb_eqS shw_send shw_send ?_
      refine ⟨_, rfl, fun _ => ?_, fun z => absurd rfl (of_decide_eq_false z)⟩
      walk_at "y"
      refine ⟨0, _, rfl, rfl, ?_⟩
      walk_at "y"
      refine ⟨_, _, rfl, rfl, szLt (by rw [List.length_map]; omega), ?_⟩
      walk_at "y"
      refine eb_ixUL row hat ?_
      walk_at "y"
      refine eb_ixUT (.dat _) (d := .str wSend) at_cons ?_
      walk_at "y"
      refine eb_eqS shw_send shw_got ?_
      refine ⟨false, by rw [show decide (wSend = PySem.Str.ofString "got") = false from decide_eq_false ne_sg], ?_⟩
      simp only [Bool.false_eq_true, if_false]
      refine ⟨fun z => (by cases z), fun _ => ?_⟩
      walk_at "y"
      refine ⟨_, _, _, rfl, ?_, hf2, ?_⟩
      · exact congrArg (fun o : Ob => [o]) (oB_snoc f1 (sentK kept) ⟨h, t', pre.length, none⟩ _ rfl)
      · intro i l hl
        by_cases hi : i < f1.length
        · rw [List.getElem?_append_left hi] at hl
          exact hno i l hl
        · have := List.mem_of_getElem? hl
          rw [List.getElem?_append_right (by omega)] at hl
          have := List.mem_of_getElem? hl
          rw [List.mem_singleton.mp this]
          rfl
    | @got h l y a1 hy ht hg =>
      have hl := (List.getElem?_eq_some_iff.mp hy).1
      obtain ⟨m, own, q1, q2, q3, q4⟩ := hka h a1.1 a1.2
      walk_at "y"
      refine eb_ixUL row hat ?_
      walk_at "y"
      refine eb_ixUT (.dat _) (d := .int h) (at_ns (ns := [h, (l : Int)]) (j := 0) rfl) ?_
      refine eb_ixUL (itm_T t) (c := .arg (dI own)) (at_nat a1.1 (by rw [List.getElem?_map, q2]; rfl)) ?_
      walk_at "y"
      refine eb_ixUL row hat ?_
      walk_at "y"
      refine eb_ixUT (.dat _) (d := .int h) (at_ns (ns := [h, (l : Int)]) (j := 0) rfl) ?_
      refine eb_ixUL (itm_aI line) (at_I a1.1 q1) ?_
      refine eb_ixUL (itm_aI own) (at_I q3 q4) ?_
      walk_at "yi"
      refine eb_ixUL row hat ?_
      walk_at "y"
      refine eb_ixUT (.dat _) (d := .str wGot) at_cons ?_
      walk_at "y"
      refine eb_eqS shw_got shw_send ?_
      refine ⟨_, rfl, fun z => absurd (of_decide_eq_true z) ne_gs, fun _ => ?_⟩
      walk_at "y"
      refine eb_ixUL row hat ?_
      walk_at "y"
      refine eb_ixUT (.dat _) (d := .str wGot) at_cons ?_
      walk_at "y"
      refine eb_eqS shw_got shw_got ?_
      refine ⟨true, by rw [show decide (wGot = PySem.Str.ofString "got") = true from decide_eq_true rfl], ?_⟩
      simp only [if_true]
      have hsg : stray kept { y with g := some pre.length } = (decide (((pre.length : Nat) : Int) < at0 kept h) && !sentK kept y) := by rw [stray_got, ht]
      have next : stray kept { y with g := some pre.length } = false → ∀ (i : Nat) (l2 : Let), (f1.set l { y with g := some pre.length })[i]? = some l2 → stray kept l2 = false := fun hz i l2 hl2 => by
        rcases List.mem_or_eq_of_mem_set (List.mem_of_getElem? hl2) with hm | hm
        · obtain ⟨j, hj⟩ := List.getElem?_of_mem hm
          exact hno j l2 hj
        · rw [hm]; exact hz
      walk_at "y"
      refine ⟨_, rfl, ?_⟩
      split
      · rename_i c
        have c := of_decide_eq_true c
        walk_at "y"
        refine eb_ixUL row hat ?_
        walk_at "y"
        refine eb_ixUT (.dat _) (d := .int (l : Int)) (at_ns (ns := [h, (l : Int)]) (j := 1) rfl) ?_
        refine eb_ixUL (.ptr rfl) (at_B hy) ?_
        refine ⟨_, rfl, fun z => ?_, fun z => ?_⟩
        · walk_at "y"
          rw [decide_eq_true c, z] at hsg
          have hin : f[l]? = some { y with g := some pre.length } := goL_keep (g := pre.length) hrest (List.getElem?_set_self hl) rfl
          have hne : ¬ straysBy f kept = [] := fun z2 => by
            have := idxs_nil.mp z2 l _ hin
            rw [hsg] at this
            cases this
          show Fin _ (A.dat (PyData.bool true)) (.bool (!decide (straysBy f kept = [])))
          rw [decide_eq_false hne]
          exact .dat _
        · walk_at "y"
          rw [z, Bool.and_false] at hsg
          refine ⟨_, _, _, rfl, ?_, hf2, next hsg⟩
          exact congrArg (fun o : Ob => [o]) (oB_same f1 (sentK kept) l { y with g := some pre.length } y hy rfl).symm
      · rename_i c
        refine ⟨fun z => (by cases z), fun _ => ?_⟩
        walk_at "y"
        rw [show decide (((pre.length : Nat) : Int) < at0 kept h) = false by simpa using c, Bool.false_and] at hsg
        refine ⟨_, _, _, rfl, ?_, hf2, next hsg⟩
        exact congrArg (fun o : Ob => [o]) (oB_same f1 (sentK kept) l { y with g := some pre.length } y hy rfl).symm
    | @note h a1 =>
      obtain ⟨m, own, q1, q2, q3, q4⟩ := hka h a1.1 a1.2
      walk_at "y"
      refine eb_ixUL row hat ?_
      walk_at "y"
      refine eb_ixUT (.dat _) (d := .int h) (at_ns (ns := [h]) (j := 0) rfl) ?_
      refine eb_ixUL (itm_T t) (c := .arg (dI own)) (at_nat a1.1 (by rw [List.getElem?_map, q2]; rfl)) ?_
      walk_at "y"
      refine eb_ixUL row hat ?_
      walk_at "y"
      refine eb_ixUT (.dat _) (d := .int h) (at_ns (ns := [h]) (j := 0) rfl) ?_
      refine eb_ixUL (itm_aI line) (at_I a1.1 q1) ?_
      refine eb_ixUL (itm_aI own) (at_I q3 q4) ?_
      walk_at "yi"
      refine eb_ixUL row hat ?_
      walk_at "y"
      refine eb_ixUT (.dat _) (d := .str wNote) at_cons ?_
      walk_at "y"
      refine eb_eqS shw_note shw_send ?_
      refine ⟨_, rfl, fun z => absurd (of_decide_eq_true z) ne_ns, fun _ => ?_⟩
      walk_at "y"
      refine eb_ixUL row hat ?_
      walk_at "y"
      refine eb_ixUT (.dat _) (d := .str wNote) at_cons ?_
      walk_at "y"
      refine eb_eqS shw_note shw_got ?_
      refine ⟨false, by rw [show decide (wNote = PySem.Str.ofString "got") = false from decide_eq_false ne_ng], ?_⟩
      simp only [Bool.false_eq_true, if_false]
      refine ⟨fun z => (by cases z), fun _ => ?_⟩
      walk_at "y"
      exact ⟨_, _, _, rfl, rfl, hf2, hno⟩
  · rintro δ ω ⟨u, v, f1, rfl, rfl, hf1, hno⟩
    rw [range_done, List.take_length, hgo] at hf1
    cases hf1
    walk_at "y"
    rw [show straysBy f kept = [] from idxs_nil.mpr hno]
    exact .dat _
/-! ### _law_fallen_by (k09) -/
def drawn3 (c : Int) (n : Nat) : List Int := ((List.range n).filter fun h : Nat => decide ((c + 7919 * (h : Int)) * 48271 % 2147483647 % 3 = 0)).map fun h : Nat => (h : Int)
def fallen9 (c : Int) (n : Nat) : List Int := if c % 7 = 1 then everyone n else if c % 7 = 2 then [] else drawn3 c n
theorem fallen9_ok (c : Int) (n : Nat) : handsOk n (fallen9 c n) = true := by
  unfold fallen9
  split
  · exact everyone_ok _
  · split
    · rfl
    · unfold handsOk drawn3
      rw [List.all_eq_true]
      intro x hx
      obtain ⟨i, hi, rfl⟩ := List.mem_map.mp hx
      have := List.mem_range.mp (List.mem_filter.mp hi).1
      exact decide_eq_true (needHand_ok.mpr ⟨by omega, by omega⟩)
def R_l_fallen_by_09 (ds : List PyData) (r : Res Er) : Prop := ∃ (c : Int) (n : Nat), ds = [.int c, .int n] ∧ n ≤ 100000 ∧ r = .ok (dI (fallen9 c n))
abbrev sp_l_fallen_by_09 (K : PySem.W.Frag) (C : Er → Addr) : Sp := Pr C R_l_fallen_by_09
theorem len_l_fallen_by_09 {ds : List PyData} {r : Res Er} (h : R_l_fallen_by_09 ds r) : ds.length = 2 := by
  obtain ⟨f, x, rfl, _⟩ := h; rfl
theorem wk_l_fallen_by_09 (K : PySem.W.Frag) (C : Er → Addr) (H : Hp) (ds : List PyData) (r : Res Er) (h : R_l_fallen_by_09 ds r) : SX H (t_l_fallen_by_09 K) (entry ds 1) [] (HandR r) := by
  obtain ⟨c, n, rfl, hn, rfl⟩ := h
  show SX H (t_l_fallen_by_09 K) [some (.dat (.int c)), some (.dat (.int n)), none] [] _
  unfold t_l_fallen_by_09 fallen9
  walk_at "yi"
  refine ⟨_, rfl, fun h => ?_, fun h => ?_⟩
  · have h := of_decide_eq_true h
    rw [if_pos h]
    walk_at "y"
    refine el_dat ?_
    walk_at "y"
    refine ⟨n, rfl, by omega, (everyone n).map .int, ?_, .dat _⟩
    unfold everyone
    rw [List.map_map, List.map_map]
    rfl
  have h := of_decide_eq_false h
  rw [if_neg h]
  walk_at "yi"
  refine ⟨_, rfl, fun h2 => ?_, fun h2 => ?_⟩
  · have h2 := of_decide_eq_true h2
    rw [if_pos h2]
    walk_at "y"
    refine el_dat (el_lst ?_)
    walk_at "y"
    exact ⟨szOk (by decide), [], rfl, .dat _⟩
  have h2 := of_decide_eq_false h2
  rw [if_neg h2]
  walk_at "y"
  refine el_dat (el_lcR (n := n) (by omega) (fun h => decide ((c + 7919 * (h : Int)) * 48271 % 2147483647 % 3 = 0)) (fun i => .int (i : Nat)) ?_ ?_ ?_)
  · walk_at "y"
    exact ⟨rfl, rfl⟩
  · rintro i hi ω' ⟨acc, rfl⟩
    refine ⟨?_, fun _ => ?_⟩
    · walk_at "y"
      exact ⟨_, rfl, rfl, rfl⟩
    · walk_at "y"
      exact ⟨rfl, rfl⟩
  refine ⟨(drawn3 c n).map .int, ?_, .dat _⟩
  unfold drawn3
  simp only [List.map_map]
  rfl
/-! ### _law_no_later -/
def R_l_no_later (ds : List PyData) (r : Res Er) : Prop := ∃ (xs ys : List Int), ds = [dI xs, dI ys] ∧ xs.length = ys.length ∧ xs.length ≤ 100000 ∧ r = .ok (.bool (noLater xs ys))
abbrev sp_l_no_later (K : PySem.W.Frag) (C : Er → Addr) : Sp := Pr C R_l_no_later
theorem len_l_no_later {ds : List PyData} {r : Res Er} (h : R_l_no_later ds r) : ds.length = 2 := by
  obtain ⟨f, x, rfl, _⟩ := h; rfl
theorem later_nil {xs ys : List Int} (hl : xs.length = ys.length) : ((((List.range xs.length).filter fun i => decide (ys.getD i 0 < xs.getD i 0)).map fun i : Nat => (i : Int)) = []) ↔ noLater xs ys = true := by
  rw [List.map_eq_nil_iff, List.filter_eq_nil_iff, noLater_iff hl]
  constructor
  · intro h i x y hx hy
    have := h i (List.mem_range.mpr (List.getElem?_eq_some_iff.mp hx).1)
    rw [List.getD_eq_getElem?_getD, List.getD_eq_getElem?_getD, hx, hy] at this
    simpa using this
  · intro h i hi
    have hi := List.mem_range.mp hi
    have := h i _ _ (List.getElem?_eq_getElem hi) (List.getElem?_eq_getElem (by omega))
    rw [List.getD_eq_getElem?_getD, List.getD_eq_getElem?_getD, List.getElem?_eq_getElem hi, List.getElem?_eq_getElem (show i < ys.length by omega)]
    simpa using this
theorem wk_l_no_later (K : PySem.W.Frag) (C : Er → Addr) (H : Hp) (ds : List PyData) (r : Res Er) (h : R_l_no_later ds r) : SX H (t_l_no_later K) (entry ds 1) [] (HandR r) := by
  obtain ⟨xs, ys, rfl, hl, hz, rfl⟩ := h
  show SX H (t_l_no_later K) [some (.arg (dI xs)), some (.arg (dI ys)), none] [] _
  unfold t_l_no_later
  walk_at "y"
  refine el_dat (el_lcR (n := xs.length) (by omega) (fun i => decide (ys.getD i 0 < xs.getD i 0)) (fun i => .int (i : Nat)) ?_ ?_ ?_)
  · walk_at "y"
    refine ec_len (itm_aI xs) ?_
    rw [List.length_map]
    walk_at "y"
    exact ⟨rfl, rfl⟩
  · rintro i hi ω' ⟨acc, rfl⟩
    obtain ⟨x, hx⟩ : ∃ x, xs[i]? = some x := ⟨_, List.getElem?_eq_getElem hi⟩
    obtain ⟨y, hy⟩ : ∃ y, ys[i]? = some y := ⟨_, List.getElem?_eq_getElem (by omega)⟩
    have e1 : xs.getD i 0 = x := by rw [List.getD_eq_getElem?_getD, hx]; rfl
    have e2 : ys.getD i 0 = y := by rw [List.getD_eq_getElem?_getD, hy]; rfl
    refine ⟨?_, fun _ => ?_⟩
    · walk_at "y"
      refine eb_ixUL (itm_aI xs) (at_I (Int.natCast_nonneg i) (by rw [Int.toNat_natCast]; exact hx)) ?_
      walk_at "y"
      refine eb_ixUL (itm_aI ys) (at_I (Int.natCast_nonneg i) (by rw [Int.toNat_natCast]; exact hy)) ?_
      walk_at "y"
      exact ⟨_, rfl, by rw [e1, e2], rfl⟩
    · walk_at "y"
      exact ⟨rfl, rfl⟩
  refine ⟨((((List.range xs.length).filter fun i => decide (ys.getD i 0 < xs.getD i 0)).map fun i : Nat => (i : Int))).map .int, by simp only [List.map_map]; rfl, ?_⟩
  walk_at "y"
  refine el_dat (el_lst ?_)
  walk_at "y"
  refine ⟨szOk (by decide), [], rfl, ?_⟩
  refine eb_eqD (d := dI _) (e := dI []) (.dat _) (.dat _) (shaped_ints _) (shaped_ints _) ?_
  rw [eqv_dI]
  rw [show decide ((((List.range xs.length).filter fun i => decide (ys.getD i 0 < xs.getD i 0)).map fun i : Nat => (i : Int)) = []) = noLater xs ys by
    cases e : noLater xs ys with
    | true => exact decide_eq_true ((later_nil hl).mpr e)
    | false => exact decide_eq_false fun z => by rw [(later_nil hl).mp z] at e; cases e]
  exact .dat _
end Y

namespace Y
open PySem PySem.Spec L2
local macro_rules | `(tactic| walk_at "y1") => `(tactic| first
  | (fail_if_success (with_reducible show SX _ (tSeq (tIfS _ _ _) _) _ _ _)); (with_reducible refine sx_seq ?_)
  | with_reducible refine sx_asg ?_
  | with_reducible refine sx_if ?_
  | with_reducible refine sx_ret ?_
  | with_reducible refine sx_retN ?_
  | with_reducible refine sx_next ?_
  | with_reducible refine sx_app ?_
  | with_reducible refine sx_clear ?_
  | with_reducible refine sx_setL ?_
  | with_reducible refine sx_dput ?_
  | with_reducible refine sx_drop ?_
  | with_reducible refine eg_var (by with_unfolding_all rfl) ?_
  | with_reducible refine eg_int ?_
  | with_reducible refine eg_bl ?_
  | with_reducible refine eg_str ?_
  | with_reducible refine eg_non ?_
  | with_reducible refine eg_raw ?_
  | with_reducible refine eg_op ?_
  | with_reducible refine eg_cb ?_
  | with_reducible refine eg_tup ?_
  | with_reducible refine eg_isN ?_
  | with_reducible refine eg_notN ?_
  | with_reducible refine eg_and ?_
  | with_reducible refine eg_or ?_
  | with_reducible refine eg_not ?_
  | with_reducible refine eg_dnew ?_
  | with_reducible refine eg_dget ?_
  | with_reducible refine eg_dnotin ?_
  | with_reducible refine eg_un ?_
  | with_reducible refine eg_partsNot ?_
  | with_reducible refine eg_partsIx ?_
  | with_reducible refine et_test ?_
  | with_reducible refine et_B ?_
  | with_reducible refine et_not ?_
  | with_reducible refine et_and ?_
  | with_reducible refine et_or ?_
  | with_reducible refine et_yes ?_
  | with_reducible refine ea_nil ?_
  | with_reducible refine ea_cons ?_
  | with_reducible refine el_lst ?_
  | with_reducible refine el_slL ?_
  | with_reducible refine el_op ?_
  | with_reducible refine el_cb ?_
  | with_reducible refine el_lstRev ?_
  | with_reducible refine el_rng ?_
  | with_reducible refine eo_none ?_
  | with_reducible refine eo_some ?_
  | with_reducible refine sr_list ?_
  | with_reducible refine sr_rng ?_
  | with_reducible refine sr_enum ?_
  | with_reducible refine eb_add ?_
  | with_reducible refine eb_sub ?_
  | with_reducible refine eb_fdivL (by decide) (by decide) ?_
  | with_reducible refine eb_mulL (by decide) (by decide) ?_
  | with_reducible refine eb_mulR (by decide) (by decide) ?_
  | with_reducible refine eb_powL (by decide) (by decide) (by decide) ?_
  | with_reducible refine eb_mod (by decide) ?_
  | with_reducible refine eb_lt ?_
  | with_reducible refine eb_le ?_
  | with_reducible refine eb_gt ?_
  | with_reducible refine eb_ge ?_
  | with_reducible refine eb_eqI ?_
  | with_reducible refine eb_neI ?_
  | with_reducible refine eb_eqB ?_)
local macro_rules | `(tactic| walk_at "y1") => `(tactic| first
  | with_reducible refine call_cell ?_
  | with_reducible refine Exists.intro _ (Exists.intro _ (Exists.intro _ (And.intro (Eq.refl [A.raw (V.ref _), A.dat (PyData.int _)]) (And.intro (by assumption) (And.intro (by first | decide | omega) ?_))))))
local macro_rules | `(tactic| walk_at "y") => `(tactic| (repeat' (walk_at "y1")))
local macro_rules | `(tactic| walk_at "yi") => `(tactic| ((repeat' (walk_at "y1")); (with_reducible refine sx_seq ?_); (repeat' (walk_at "y1"))))


theorem at_last {α : Type} {xs : List α} {x : α} (h : xs[xs.length - 1]? = some x) : atI xs (-1) = some x := by
  have hl := (List.getElem?_eq_some_iff.mp h).1
  unfold atI ixN
  rw [if_neg (by decide), if_pos (by omega)]
  rw [show ((-1 : Int) + (xs.length : Int)).toNat = xs.length - 1 by omega]
  exact h
/-! ### _law_line_by (k09) -/
def num9 (c : Int) (rows : List Row) (h : Nat) : Int := if c % 2 = 1 then (((told1 rows h).filter fun x => decide (x ≤ c / 2 % ((rows.length : Int) + 1))).length : Int) - 1 else (c + 7919 * (h : Int)) * 48271 % 2147483647 % ((told1 rows h).length : Int)
theorem num9_ok (c : Int) (rows : List Row) (h : Nat) : 0 ≤ num9 c rows h ∧ num9 c rows h < ((told1 rows h).length : Int) := by
  have hl := (told1_len rows (h : Int)).1
  unfold num9
  split
  · have h1 := List.length_filter_le (fun x => decide (x ≤ c / 2 % ((rows.length : Int) + 1))) (told1 rows h)
    have h2 : 0 < ((told1 rows h).filter fun x => decide (x ≤ c / 2 % ((rows.length : Int) + 1))).length := by
      apply List.length_pos_iff.mpr
      intro z
      rw [List.filter_eq_nil_iff] at z
      have z0 := z 0 (List.mem_of_getElem? (told1_first rows h))
      have z1 := Int.emod_nonneg (c / 2) (show (rows.length : Int) + 1 ≠ 0 by omega)
      exact z0 (decide_eq_true z1)
    omega
  · exact ⟨Int.emod_nonneg _ (by omega), Int.emod_lt_of_pos _ (by omega)⟩
def line9 (c : Int) (hands : Int) (rows : List Row) (top : List Int) : List Int := (List.range hands.toNat).map fun h : Nat => if num9 c rows h < top.getD h 0 then num9 c rows h else top.getD h 0
def R_l_line_by_09 (ds : List PyData) (r : Res Er) : Prop := ∃ (c hands : Int) (rows : List Row) (top : List Int), ds = [.int c, dT (told hands rows), dI top] ∧ top.length = hands.toNat ∧ hands ≤ 40 ∧ rows.length ≤ 1000 ∧ r = .ok (dI (line9 c hands rows top))
abbrev sp_l_line_by_09 (K : PySem.W.Frag) (C : Er → Addr) : Sp := Pr C R_l_line_by_09
theorem len_l_line_by_09 {ds : List PyData} {r : Res Er} (h : R_l_line_by_09 ds r) : ds.length = 3 := by
  obtain ⟨_, _, _, _, rfl, _⟩ := h; rfl
theorem wk_l_line_by_09 (K : PySem.W.Frag) (C : Er → Addr) (H : Hp) (ds : List PyData) (r : Res Er) (h : R_l_line_by_09 ds r) : SX H (t_l_line_by_09 K) (entry ds 5) [] (HandR r) := by
  obtain ⟨c, hands, rows, top, rfl, htop, hh, hrl, rfl⟩ := h
  show SX H (t_l_line_by_09 K) [some (.dat (.int c)), some (.arg (dT (told hands rows))), some (.arg (dI top)), none, none, none, none, none] [] _
  unfold t_l_line_by_09
  walk_at "y"
  refine el_own (el_lst ?_)
  walk_at "y"
  refine ⟨szOk (by decide), ?_⟩
  walk_at "y"
  refine sx_forP (xs := List.range hands.toNat) (it := fun _ c => .dat (.int (c : Nat))) (fun pre δ ω => ∃ u v w, δ = [some (.dat (.int c)), some (.arg (dT (told hands rows))), some (.arg (dI top)), some (.ptr 0), u, v, w, none] ∧ ω = [oI (pre.map fun h : Nat => if num9 c rows h < top.getD h 0 then num9 c rows h else top.getD h 0)]) ?_ ?_ ?_
  · walk_at "y"
    refine ec_len (itm_T _) ?_
    walk_at "y"
    rw [List.length_map, told_len]
    exact ⟨_, rfl, by omega, map_idx _ _, ⟨_, _, _, rfl, rfl⟩, fun _ _ _ _ => trivial⟩
  · rintro pre x post δ ω e ⟨u, v, w, rfl, rfl⟩
    obtain ⟨rfl, hpl⟩ := range_mid e
    have ho := told_get (rows := rows) hpl
    have hl := (told1_len rows ((pre.length : Nat) : Int)).1
    have hl2 := (told1_len rows ((pre.length : Nat) : Int)).2
    have own : ∀ {ω : Om}, Itm K H ω (.arg (dT (told hands rows))) ((told hands rows).map fun o => .arg (dI o)) := itm_T _
    obtain ⟨t, ht⟩ : ∃ t, top[pre.length]? = some t := ⟨_, List.getElem?_eq_getElem (by omega)⟩
    have htD : top.getD pre.length 0 = t := by rw [List.getD_eq_getElem?_getD, ht]; rfl
    refine ⟨_, gx_name, ?_⟩
    have fin : ∀ (w2 : Option A) (m : Int), m = num9 c rows pre.length → SX H (tDrop (tBM K "list" rAppend (tVar 3) (tCons (tCB rMin2 (tCons (tOp (rIx K) (tVar 2) (tVar 4)) (tCons (tVar 5) tNil))) tNil)))
        [some (.dat (.int c)), some (.arg (dT (told hands rows))), some (.arg (dI top)), some (.ptr 0), some (.dat (.int (pre.length : Nat))), some (.dat (.int m)), w2, none] [oI (pre.map fun h : Nat => if num9 c rows h < top.getD h 0 then num9 c rows h else top.getD h 0)]
        { nx := fun δ ω => ∃ u v w, δ = [some (.dat (.int c)), some (.arg (dT (told hands rows))), some (.arg (dI top)), some (.ptr 0), u, v, w, none] ∧ ω = [oI ((pre ++ [pre.length]).map fun h : Nat => if num9 c rows h < top.getD h 0 then num9 c rows h else top.getD h 0)], rt := fun _ _ => False } := by
      rintro w2 m rfl
      walk_at "y"
      refine ⟨0, _, rfl, rfl, ?_⟩
      walk_at "y"
      refine eb_ixUL (itm_aI top) (at_I (Int.natCast_nonneg _) (by rw [Int.toNat_natCast]; exact ht)) ?_
      walk_at "y"
      refine ec_min ?_
      walk_at "y"
      refine ⟨_, _, rfl, rfl, szLt (by rw [List.length_map, List.length_map]; omega), _, _, _, rfl, ?_⟩
      refine congrArg (fun o : Ob => [o]) ?_
      rw [List.map_append, oI_snoc, ← htD]
      rfl
    have fin' : ∀ (P : Post) (w2 : Option A) (m : Int), m = num9 c rows pre.length → P.nx = (fun δ ω => ∃ u v w, δ = [some (.dat (.int c)), some (.arg (dT (told hands rows))), some (.arg (dI top)), some (.ptr 0), u, v, w, none] ∧ ω = [oI ((pre ++ [pre.length]).map fun h : Nat => if num9 c rows h < top.getD h 0 then num9 c rows h else top.getD h 0)]) → SX H (tDrop (tBM K "list" rAppend (tVar 3) (tCons (tCB rMin2 (tCons (tOp (rIx K) (tVar 2) (tVar 4)) (tCons (tVar 5) tNil))) tNil)))
        [some (.dat (.int c)), some (.arg (dT (told hands rows))), some (.arg (dI top)), some (.ptr 0), some (.dat (.int (pre.length : Nat))), some (.dat (.int m)), w2, none] [oI (pre.map fun h : Nat => if num9 c rows h < top.getD h 0 then num9 c rows h else top.getD h 0)] P := fun P w2 m hm hP σ H' vs as S D cv => fin w2 m hm σ H' vs as S D ⟨fun δ ω σ' H'' h S' => cv.nx δ ω σ' H'' (by rw [hP]; exact h) S', fun _ _ _ _ _ _ z _ => z.elim, fun _ _ _ _ z _ => z.elim, fun _ _ _ _ z _ => z.elim⟩
    walk_at "y"
    refine eb_ixUL own (at_T ho) ?_
    walk_at "y"
    refine ec_len (itm_aI _) ?_
    rw [List.length_map]
    refine eb_mod (by omega) ?_
    walk_at "yi"
    refine ⟨_, rfl, fun h1 => ?_, fun h1 => ?_⟩
    · have h1 := of_decide_eq_true h1
      walk_at "y"
      refine eb_ixUL own (at_T ho) ?_
      refine eg_un (r := rNeg) (g := fun i => .int (-i)) ?_
      walk_at "y"
      refine ⟨1, .int (-1), rfl, fl_int _, ?_⟩
      refine eb_ixUL (itm_aI _) (c := .dat (.int (rows.length : Nat))) (at_last (by rw [List.length_map, List.getElem?_map, told1_last]; rfl)) ?_
      walk_at "y"
      refine eb_mod (by omega) ?_
      walk_at "y"
      refine el_dat (el_lcL (told1 rows (pre.length : Nat)) (fun n => .dat (.int n)) (by omega) (fun x => decide (x ≤ c / 2 % ((rows.length : Int) + 1))) (fun x => .int x) ?_ ?_ ?_)
      · walk_at "y"
        refine eb_ixUL own (at_T ho) ?_
        exact ⟨rfl, itm_aI _, fun _ => itm_aI _⟩
      · rintro y hy ω' ⟨acc, rfl⟩
        refine ⟨?_, fun _ => ?_⟩
        · walk_at "y"
          exact ⟨_, rfl, rfl, rfl⟩
        · walk_at "y"
          exact ⟨rfl, rfl⟩
      refine ⟨_, rfl, ?_⟩
      walk_at "y"
      refine ec_len (itm_dI _) ?_
      refine eg_int ?_
      refine eb_sub ?_
      refine fin' _ _ _ ?_ ?_
      · rw [List.length_map, num9, if_pos h1]
      · rfl
    · have h1 := of_decide_eq_false h1
      refine sx_next ?_
      refine fin' _ _ _ ?_ ?_
      · rw [num9, if_neg h1]
      · rfl
  · rintro δ ω ⟨u, v, w, rfl, rfl⟩
    walk_at "y"
    exact fin_I rfl
theorem line9_ok {c hands : Int} {rows : List Row} {fallen : List Int} : lineOk (told hands rows) (line9 c hands rows (topLine hands rows fallen)) = true ∧ noLater (line9 c hands rows (topLine hands rows fallen)) (topLine hands rows fallen) = true := by
  have hlen : (line9 c hands rows (topLine hands rows fallen)).length = hands.toNat := by simp [line9]
  have get : ∀ i, i < hands.toNat → (line9 c hands rows (topLine hands rows fallen))[i]? = some (if num9 c rows i < ((told1 rows i).length : Int) - 1 - inI i fallen then num9 c rows i else ((told1 rows i).length : Int) - 1 - inI i fallen) := fun i hi => by
    unfold line9
    rw [List.getElem?_map, List.getElem?_range hi]
    simp only [Option.map_some]
    rw [List.getD_eq_getElem?_getD, topLine_get hi]
    rfl
  constructor
  · refine lineOk_iff.mpr ⟨by rw [hlen, told_len], fun i n own hn ho => ?_⟩
    have hi := (List.getElem?_eq_some_iff.mp ho).1
    rw [told_len] at hi
    rw [told_get hi] at ho
    rw [get i hi] at hn
    cases ho
    have h1 := num9_ok c rows i
    have h2 := inI_le (i : Nat) fallen
    have h3 := (told1_len rows (i : Nat)).1
    have hn : (if num9 c rows i < ((told1 rows i).length : Int) - 1 - inI i fallen then num9 c rows i else ((told1 rows i).length : Int) - 1 - inI i fallen) = n := by simpa using hn
    split at hn <;> omega
  · refine (noLater_iff (by rw [hlen, topLine_len])).mpr fun i x y hx hy => ?_
    have hi := (List.getElem?_eq_some_iff.mp hy).1
    rw [topLine_len] at hi
    rw [topLine_get hi] at hy
    rw [get i hi] at hx
    cases hy
    have hx : (if num9 c rows i < ((told1 rows i).length : Int) - 1 - inI i fallen then num9 c rows i else ((told1 rows i).length : Int) - 1 - inI i fallen) = x := by simpa using hx
    split at hx <;> omega
section
variable {K : PySem.W.Frag} {C : Er → Addr} {H0 : Hp} {δ : Sl} {ω : Om} {E : XK} {ts : TA} {P : A → Om → Prop}
theorem call_line_by_09 {c hands : Int} {rows : List Row} {top : List Int} (h1 : top.length = hands.toNat) (h2 : hands ≤ 40) (h3 : rows.length ≤ 1000) (h : EA H0 ts δ ω fun bs ω1 => RdA ω1 bs [.int c, dT (told hands rows), dI top] ∧ P (.dat (dI (line9 c hands rows top))) ω1) : EG H0 (tCall (sp_l_line_by_09 K C) [] E ts) δ ω P :=
  eg_call fun σ H vs as S Q q => h σ H vs as S Q fun bs ω' us H' ⟨hr, hp⟩ hl' S' => q bs ω' us H' ⟨_, _, hr, ⟨c, hands, rows, top, rfl, h1, h2, h3, rfl⟩, hp⟩ hl' S'
theorem call_has_stray {hands : Int} {rows : List Row} {f : List Let} {line : List Int} (hf : lettersM hands rows = .ok f) (hok : lineOk (told hands rows) line = true) (h : EA H0 ts δ ω fun bs ω1 => RdA ω1 bs [dRows rows, dT (told hands rows), dI line] ∧ P (.dat (.bool (!decide (straysBy f (endsOf (told hands rows) line) = [])))) ω1) : EG H0 (tCall (sp_l_has_stray K C) [] E ts) δ ω P :=
  eg_call fun σ H vs as S Q q => h σ H vs as S Q fun bs ω' us H' ⟨hr, hp⟩ hl' S' => q bs ω' us H' ⟨_, _, hr, ⟨hands, rows, f, line, rfl, hf, hok, rfl⟩, hp⟩ hl' S'
theorem call_fallen_09 {c : Int} {n : Nat} (hn : n ≤ 100000) (h : EA H0 ts δ ω fun bs ω1 => RdA ω1 bs [.int c, .int n] ∧ P (.dat (dI (fallen9 c n))) ω1) : EG H0 (tCall (sp_l_fallen_by_09 K C) [] E ts) δ ω P :=
  eg_call fun σ H vs as S Q q => h σ H vs as S Q fun bs ω' us H' ⟨hr, hp⟩ hl' S' => q bs ω' us H' ⟨_, _, hr, ⟨c, n, rfl, hn, rfl⟩, hp⟩ hl' S'
theorem call_l_no_later {xs ys : List Int} (h1 : xs.length = ys.length) (h2 : xs.length ≤ 100000) (h : EA H0 ts δ ω fun bs ω1 => RdA ω1 bs [dI xs, dI ys] ∧ P (.dat (.bool (noLater xs ys))) ω1) : EG H0 (tCall (sp_l_no_later K C) [] E ts) δ ω P :=
  eg_call fun σ H vs as S Q q => h σ H vs as S Q fun bs ω' us H' ⟨hr, hp⟩ hl' S' => q bs ω' us H' ⟨_, _, hr, ⟨xs, ys, rfl, h1, h2, rfl⟩, hp⟩ hl' S'
end
theorem wk_law_k09 (K : PySem.W.Frag) (C : Er → Addr) (H : Hp) (a : Addr) (ns : List Int) (ds : List PyData) (r : Res Er) (hS : SqL K H a (ns.map V.int)) (h : R_law ns ds r) : SX H (t_law_k09 K (sp_l_cell_at K C) (sp_l_hands_by K C) (sp_l_cells_by K C) (sp_l_rows_by K C) (sp_l_fallen_by_09 K C) (sp_l_ends_by K C) (sp_last_line K C) (sp_l_whole K C) (sp_l_has_stray K C) (sp_l_line_by_09 K C) (sp_l_no_later K C)) (some (.raw (.ref a)) :: entry ds 10) [] (HandR r) := by
  obtain ⟨rfl, hn, rfl⟩ := h
  show SX H (t_law_k09 K (sp_l_cell_at K C) (sp_l_hands_by K C) (sp_l_cells_by K C) (sp_l_rows_by K C) (sp_l_fallen_by_09 K C) (sp_l_ends_by K C) (sp_last_line K C) (sp_l_whole K C) (sp_l_has_stray K C) (sp_l_line_by_09 K C) (sp_l_no_later K C)) [some (.raw (.ref a)), none, none, none, none, none, none, none, none, none, none] [] _
  unfold t_law_k09
  walk_at "y"
  refine call_hands_by ?_
  walk_at "y"
  refine ⟨_, rfl, ?_⟩
  obtain ⟨h1, h2⟩ := handsBy_ok (cellAt ns 0)
  generalize handsBy (cellAt ns 0) = hands at h1 h2
  obtain ⟨n, rfl⟩ : ∃ n : Nat, hands = (n : Int) := ⟨hands.toNat, by omega⟩
  walk_at "y"
  refine call_rows_by ?_
  walk_at "y"
  refine call_cells_by ?_
  walk_at "y"
  have hc := cellsBy_len hn (first := 3)
  generalize cellsBy ns 3 = cells at hc
  refine ⟨cells, n, .cons (.dat _) (.cons (.dat _) .nil), h1, h2, by omega, ?_⟩
  obtain ⟨f, hf⟩ := good_rows h1 h2 (show cells.length ≤ 1000 by omega)
  generalize rowsBy cells n = rows at hf
  obtain ⟨_, _, hrl, hgo⟩ := lettersM_ok hf
  walk_at "y"
  refine call_fallen_09 (c := cellAt ns 2 % 1000003) (n := n) (by omega) ?_
  walk_at "y"
  refine ⟨.cons (.dat _) (.cons (.dat _) .nil), ?_⟩
  have hfo := fallen9_ok (cellAt ns 2 % 1000003) n
  generalize fallen9 (cellAt ns 2 % 1000003) n = fallen at hfo
  walk_at "y"
  refine call_ends_by hf ?_
  walk_at "y"
  refine ⟨.cons (.dat _) (.cons (.dat _) .nil), ?_⟩
  walk_at "y"
  refine el_dat (el_lcR (n := n) (by omega) (fun _ => true) (fun i => .int (((told1 rows i).length : Int) - 1 - inI i fallen)) ?_ ?_ ?_)
  · walk_at "y"
    exact ⟨rfl, rfl⟩
  · rintro i hi ω' ⟨acc, rfl⟩
    refine ⟨?_, fun _ => ?_⟩
    · walk_at "y"
      exact ⟨rfl, rfl⟩
    · walk_at "y"
      refine eb_ixUL (itm_TD _) (at_T (told_get (by omega))) ?_
      walk_at "y"
      refine ec_len (itm_dI _) ?_
      walk_at "y"
      refine eb_in (itm_dI fallen) ?_
      walk_at "y"
      refine ec_intB ?_
      walk_at "y"
      rw [List.length_map]
      exact ⟨rfl, rfl⟩
  rw [filter_yes]
  refine ⟨_, rfl, ?_⟩
  rw [show (List.range n).map (fun i : Nat => PyData.int (((told1 rows i).length : Int) - 1 - inI i fallen)) = (topLine n rows fallen).map .int by unfold topLine; rw [List.map_map]; rfl]
  have T := told_ok n rows
  have L : LetsOk (told n rows).length f := by rw [told_len]; exact lets_ok hf
  have htop := topLine_ok n rows fallen
  obtain ⟨k1, k2, k3⟩ := fall_ok T L htop
  have k4 := fun other => fall_most T L htop other
  have hlast : lastM n rows fallen = .ok (fallM f (told n rows) (topLine n rows fallen)).2 := by
    unfold lastM
    rw [hf]
    simp only
    rw [if_pos hfo]
  generalize hfd : (fallM f (told n rows) (topLine n rows fallen)).2 = found at k1 k2 k3 k4 hlast
  have hfl : found.length = n := by rw [(lineOk_iff.mp k1).1, told_len]; rfl
  walk_at "y"
  refine call_last_line (hands := n) (rows := rows) (fallen := fallen) ?_
  walk_at "y"
  refine ec_own (ecl_list (itm_rowsD rows) ?_)
  walk_at "y"
  refine ec_own (ecl_list (itm_dI fallen) ?_)
  walk_at "y"
  refine ⟨.cons (.dat _) (.cons (rd_rows rfl) (.cons (rd_dI rfl) .nil)), fun e he => (by rw [hlast] at he; cases he), fun k hk => ?_⟩
  rw [hlast] at hk
  cases hk
  walk_at "yi"
  refine ec_isi (d := dI found) (.dat _) kb_list ?_
  refine ⟨_, rfl, ?_⟩
  simp only [Bool.not_true, Bool.false_eq_true, if_false]
  walk_at "y"
  refine ec_len (itm_dI found) ?_
  refine eg_var (by with_unfolding_all rfl) ?_
  refine eb_neI ?_
  refine ⟨false, by rw [List.length_map, hfl]; simp, fun z => (by cases z), fun _ => ?_⟩
  walk_at "y"
  refine sx_forP (xs := List.range n) (it := fun _ c => .dat (.int (c : Nat))) (fun pre δ ω => ∃ u, δ = [some (.raw (.ref a)), some (.dat (.int n)), some (.dat (dRows rows)), some (.dat (dI fallen)), some (.dat (dT (told n rows))), u, some (.dat (dI (topLine n rows fallen))), some (.dat (dI found)), none, none, none]) ?_ ?_ ?_
  · walk_at "y"
    exact ⟨_, rfl, by omega, map_idx _ _, ⟨_, rfl⟩, fun _ _ _ _ => trivial⟩
  · rintro pre x post δ ω e ⟨u, rfl⟩
    obtain ⟨rfl, hpl⟩ := range_mid e
    obtain ⟨x, hx⟩ : ∃ x, found[pre.length]? = some x := ⟨_, List.getElem?_eq_getElem (by omega)⟩
    have hy := topLine_get (rows := rows) (fallen := fallen) (hands := n) (i := pre.length) (by omega)
    have hle := (noLater_iff (by rw [hfl, topLine_len]; rfl)).mp k3 _ _ _ hx hy
    have h0 := ((lineOk_iff.mp k1).2 _ _ _ hx (told_get (by omega))).1
    have ax := at_I (t := found) (i := (pre.length : Nat)) (Int.natCast_nonneg _) (by rw [Int.toNat_natCast]; exact hx)
    have ay := at_I (t := topLine n rows fallen) (i := (pre.length : Nat)) (Int.natCast_nonneg _) (by rw [Int.toNat_natCast]; exact hy)
    refine ⟨_, gx_name, ?_⟩
    walk_at "y"
    refine call_whole ?_
    walk_at "y"
    refine eb_ixUL (itm_dI found) ax ?_
    walk_at "y"
    refine ⟨.int x, .cons (.dat _) .nil, fun kv => by simp, ?_⟩
    refine ⟨_, rfl, ?_⟩
    simp only [isInt, Bool.not_true, Bool.false_eq_true, if_false]
    walk_at "y"
    refine eb_ixUL (itm_dI found) ax ?_
    walk_at "y"
    refine ⟨_, rfl, ?_⟩
    rw [decide_eq_false (by omega)]
    simp only [Bool.false_eq_true, if_false]
    walk_at "y"
    refine eb_ixUL (itm_dI found) ax ?_
    walk_at "y"
    refine eb_ixUL (itm_dI _) ay ?_
    walk_at "y"
    refine ⟨_, rfl, fun z => ?_, fun _ => ?_⟩
    · have := of_decide_eq_true z
      omega
    walk_at "y"
    exact ⟨_, rfl⟩
  rintro δ ω ⟨u, rfl⟩
  walk_at "yi"
  refine call_has_stray hf k1 ?_
  walk_at "y"
  refine ⟨.cons (.dat _) (.cons (.dat _) (.cons (.dat _) .nil)), ?_⟩
  rw [k2]
  refine ⟨_, rfl, fun z => (by cases z), fun _ => ?_⟩
  walk_at "y"
  refine sx_forP (xs := List.range 6) (it := fun _ c => .dat (.int (c : Nat))) (fun pre δ ω => ∃ u v w x, δ = [some (.raw (.ref a)), some (.dat (.int n)), some (.dat (dRows rows)), some (.dat (dI fallen)), some (.dat (dT (told n rows))), u, some (.dat (dI (topLine n rows fallen))), some (.dat (dI found)), v, w, x]) ?_ ?_ ?_
  · walk_at "y"
    exact ⟨6, rfl, by omega, map_idx _ _, ⟨_, _, _, _, rfl⟩, fun _ _ _ _ => trivial⟩
  · rintro pre x post δ ω e ⟨u, v, w, y, rfl⟩
    obtain ⟨rfl, hpl⟩ := range_mid e
    refine ⟨_, gx_name, ?_⟩
    walk_at "y"
    generalize ((cellAt ns 2 / 1000003 + 7919 * ((pre.length : Nat) : Int)) * 69621 % 2147483629) = mixed
    refine call_line_by_09 (c := mixed / 2 * 2 + ((pre.length : Nat) : Int) % 2) (hands := n) (rows := rows) (top := topLine n rows fallen) (topLine_len _ _ _) h2 hrl ?_
    walk_at "y"
    refine ⟨.cons (.dat _) (.cons (.dat _) (.cons (.dat _) .nil)), ?_⟩
    obtain ⟨j1, j2⟩ := line9_ok (c := mixed / 2 * 2 + ((pre.length : Nat) : Int) % 2) (hands := n) (rows := rows) (fallen := fallen)
    generalize line9 (mixed / 2 * 2 + ((pre.length : Nat) : Int) % 2) n rows (topLine n rows fallen) = line at j1 j2
    walk_at "y"
    refine call_has_stray hf j1 ?_
    walk_at "y"
    refine ⟨.cons (.dat _) (.cons (.dat _) (.cons (.dat _) .nil)), ?_⟩
    refine ⟨_, rfl, ?_⟩
    by_cases hs : straysBy f (endsOf (told n rows) line) = []
    · have j3 := k4 line j1 hs j2
      have hll := (lineOk_iff.mp j1).1
      rw [told_len] at hll
      rw [decide_eq_true hs]
      simp only [Bool.not_true, Bool.not_false, if_true]
      walk_at "y"
      refine call_l_no_later (xs := line) (ys := found) (by rw [hll, hfl]; rfl) (by omega) ?_
      walk_at "y"
      refine ⟨.cons (.dat _) (.cons (.dat _) .nil), ?_⟩
      rw [j3]
      refine ⟨_, rfl, fun z => (by cases z), fun _ => ?_⟩
      walk_at "y"
      exact ⟨_, _, _, _, rfl⟩
    · rw [decide_eq_false hs]
      simp only [Bool.not_true, Bool.not_false, Bool.false_eq_true, if_false]
      refine ⟨fun z => (by cases z), fun _ => ?_⟩
      walk_at "y"
      exact ⟨_, _, _, _, rfl⟩
  · rintro δ ω ⟨u, v, w, x, rfl⟩
    walk_at "y"
    exact .dat _
end Y

namespace Y
open PySem PySem.Spec L2
local macro_rules | `(tactic| walk_at "y1") => `(tactic| first
  | (fail_if_success (with_reducible show SX _ (tSeq (tIfS _ _ _) _) _ _ _)); (with_reducible refine sx_seq ?_)
  | with_reducible refine sx_asg ?_
  | with_reducible refine sx_if ?_
  | with_reducible refine sx_ret ?_
  | with_reducible refine sx_retN ?_
  | with_reducible refine sx_next ?_
  | with_reducible refine sx_app ?_
  | with_reducible refine sx_clear ?_
  | with_reducible refine sx_setL ?_
  | with_reducible refine sx_dput ?_
  | with_reducible refine sx_drop ?_
  | with_reducible refine eg_var (by with_unfolding_all rfl) ?_
  | with_reducible refine eg_int ?_
  | with_reducible refine eg_bl ?_
  | with_reducible refine eg_str ?_
  | with_reducible refine eg_non ?_
  | with_reducible refine eg_raw ?_
  | with_reducible refine eg_op ?_
  | with_reducible refine eg_cb ?_
  | with_reducible refine eg_tup ?_
  | with_reducible refine eg_isN ?_
  | with_reducible refine eg_notN ?_
  | with_reducible refine eg_and ?_
  | with_reducible refine eg_or ?_
  | with_reducible refine eg_not ?_
  | with_reducible refine eg_dnew ?_
  | with_reducible refine eg_dget ?_
  | with_reducible refine eg_dnotin ?_
  | with_reducible refine eg_un ?_
  | with_reducible refine eg_partsNot ?_
  | with_reducible refine eg_partsIx ?_
  | with_reducible refine et_test ?_
  | with_reducible refine et_B ?_
  | with_reducible refine et_not ?_
  | with_reducible refine et_and ?_
  | with_reducible refine et_or ?_
  | with_reducible refine et_yes ?_
  | with_reducible refine ea_nil ?_
  | with_reducible refine ea_cons ?_
  | with_reducible refine el_lst ?_
  | with_reducible refine el_slL ?_
  | with_reducible refine el_op ?_
  | with_reducible refine el_cb ?_
  | with_reducible refine el_lstRev ?_
  | with_reducible refine el_rng ?_
  | with_reducible refine eo_none ?_
  | with_reducible refine eo_some ?_
  | with_reducible refine sr_list ?_
  | with_reducible refine sr_rng ?_
  | with_reducible refine sr_enum ?_
  | with_reducible refine eb_add ?_
  | with_reducible refine eb_sub ?_
  | with_reducible refine eb_fdivL (by decide) (by decide) ?_
  | with_reducible refine eb_mulL (by decide) (by decide) ?_
  | with_reducible refine eb_mulR (by decide) (by decide) ?_
  | with_reducible refine eb_powL (by decide) (by decide) (by decide) ?_
  | with_reducible refine eb_mod (by decide) ?_
  | with_reducible refine eb_lt ?_
  | with_reducible refine eb_le ?_
  | with_reducible refine eb_gt ?_
  | with_reducible refine eb_ge ?_
  | with_reducible refine eb_eqI ?_
  | with_reducible refine eb_neI ?_
  | with_reducible refine eb_eqB ?_)
local macro_rules | `(tactic| walk_at "y1") => `(tactic| first
  | with_reducible refine call_cell ?_
  | with_reducible refine Exists.intro _ (Exists.intro _ (Exists.intro _ (And.intro (Eq.refl [A.raw (V.ref _), A.dat (PyData.int _)]) (And.intro (by assumption) (And.intro (by first | decide | omega) ?_))))))
local macro_rules | `(tactic| walk_at "y") => `(tactic| (repeat' (walk_at "y1")))
local macro_rules | `(tactic| walk_at "yi") => `(tactic| ((repeat' (walk_at "y1")); (with_reducible refine sx_seq ?_); (repeat' (walk_at "y1"))))


/-! ### _law_fallen_by (k08, k11, k12) -/
def turn8 (c : Int) (a : List Int) : List Int := if c / 7 % 2 = 1 then a.reverse else a
def twice8 (c : Int) (a : List Int) : List Int := if c / 14 % 5 = 1 then a ++ cutA a none (some 1) else a
def fallen8 (c : Int) (n : Nat) : List Int := twice8 c (turn8 c (fallen9 c n))
theorem fallen9_len (c : Int) (n : Nat) : (fallen9 c n).length ≤ n := by
  unfold fallen9
  split
  · simp [everyone]
  · split
    · simp
    · unfold drawn3
      rw [List.length_map]
      have := List.length_filter_le (fun h : Nat => decide ((c + 7919 * (h : Int)) * 48271 % 2147483647 % 3 = 0)) (List.range n)
      rw [List.length_range] at this
      exact this
theorem handsOk_iff {hands : Int} {ns : List Int} : handsOk hands ns = true ↔ ∀ x ∈ ns, 0 ≤ x ∧ x < hands := by
  unfold handsOk
  rw [List.all_eq_true]
  constructor
  · intro h x hx
    exact needHand_ok.mp (of_decide_eq_true (h x hx))
  · intro h x hx
    exact decide_eq_true (needHand_ok.mpr (h x hx))
theorem fallen8_ok (c : Int) (n : Nat) : handsOk n (fallen8 c n) = true := by
  have h := handsOk_iff.mp (fallen9_ok c n)
  refine handsOk_iff.mpr fun x hx => ?_
  have h2 : ∀ x ∈ turn8 c (fallen9 c n), 0 ≤ x ∧ x < (n : Int) := fun x hx => by
    unfold turn8 at hx
    split at hx
    · exact h x (List.mem_reverse.mp hx)
    · exact h x hx
  unfold fallen8 twice8 at hx
  split at hx
  · rcases List.mem_append.mp hx with hx | hx
    · exact h2 x hx
    · unfold cutA at hx
      exact h2 x (List.mem_of_mem_drop (List.mem_of_mem_take hx))
  · exact h2 x hx
def R_l_fallen_by (ds : List PyData) (r : Res Er) : Prop := ∃ (c : Int) (n : Nat), ds = [.int c, .int n] ∧ n ≤ 100000 ∧ r = .ok (dI (fallen8 c n))
abbrev sp_l_fallen_by (K : PySem.W.Frag) (C : Er → Addr) : Sp := Pr C R_l_fallen_by
theorem len_l_fallen_by {ds : List PyData} {r : Res Er} (h : R_l_fallen_by ds r) : ds.length = 2 := by
  obtain ⟨f, x, rfl, _⟩ := h; rfl
theorem dat_I (ns : List Int) : (ns.map fun n => A.dat (.int n)) = (ns.map PyData.int).map A.dat := by rw [List.map_map]; rfl
theorem wk_l_fallen_by (K : PySem.W.Frag) (C : Er → Addr) (H : Hp) (ds : List PyData) (r : Res Er) (h : R_l_fallen_by ds r) : SX H (t_l_fallen_by K) (entry ds 2) [] (HandR r) := by
  obtain ⟨c, n, rfl, hn, rfl⟩ := h
  show SX H (t_l_fallen_by K) [some (.dat (.int c)), some (.dat (.int n)), none, none] [] _
  unfold t_l_fallen_by
  walk_at "y"
  refine el_dat (el_lcR (n := n) (by omega) (fun h => decide ((c + 7919 * (h : Int)) * 48271 % 2147483647 % 3 = 0)) (fun i => .int (i : Nat)) ?_ ?_ ?_)
  · walk_at "y"
    exact ⟨rfl, rfl⟩
  · rintro i hi ω' ⟨acc, rfl⟩
    refine ⟨?_, fun _ => ?_⟩
    · walk_at "y"
      exact ⟨_, rfl, rfl, rfl⟩
    · walk_at "y"
      exact ⟨rfl, rfl⟩
  refine ⟨(drawn3 c n).map .int, by unfold drawn3; simp only [List.map_map]; rfl, ?_⟩
  walk_at "y"
  refine sx_cut (fun δ ω => ω = [] ∧ δ = [some (.dat (.int c)), some (.dat (.int n)), some (.dat (dI (if c % 7 = 1 then everyone n else drawn3 c n))), none]) ?_ ?_
  · walk_at "y"
    refine ⟨_, rfl, fun h => ?_, fun h => ?_⟩
    · have h := of_decide_eq_true h
      rw [if_pos h]
      walk_at "y"
      refine el_dat ?_
      walk_at "y"
      refine ⟨n, rfl, by omega, (everyone n).map .int, ?_, rfl, rfl⟩
      unfold everyone
      rw [List.map_map, List.map_map]
      rfl
    · have h := of_decide_eq_false h
      rw [if_neg h]
      walk_at "y"
      exact ⟨rfl, rfl⟩
  rintro δ ω ⟨rfl, rfl⟩
  refine sx_cut (fun δ ω => ω = [] ∧ δ = [some (.dat (.int c)), some (.dat (.int n)), some (.dat (dI (fallen9 c n))), none]) ?_ ?_
  · walk_at "y"
    unfold fallen9
    refine ⟨_, rfl, fun h => ?_, fun h => ?_⟩
    · have h := of_decide_eq_true h
      simp only [if_neg (show ¬ c % 7 = 1 by omega), if_pos h]
      walk_at "y"
      refine el_dat (el_lst ?_)
      walk_at "y"
      exact ⟨szOk (by decide), [], rfl, rfl, rfl⟩
    · have h := of_decide_eq_false h
      rw [if_neg h]
      walk_at "y"
      exact ⟨rfl, rfl⟩
  rintro δ ω ⟨rfl, rfl⟩
  have hlen := fallen9_len c n
  refine sx_cut (fun δ ω => ω = [] ∧ δ = [some (.dat (.int c)), some (.dat (.int n)), some (.dat (dI (turn8 c (fallen9 c n)))), none]) ?_ ?_
  · walk_at "y"
    unfold turn8
    refine ⟨_, rfl, fun h => ?_, fun h => ?_⟩
    · have h := of_decide_eq_true h
      rw [if_pos h]
      walk_at "y"
      refine el_dat ?_
      walk_at "y"
      refine ⟨_, itm_dI _, (fallen9 c n).reverse.map .int, ?_, rfl, rfl⟩
      rw [← List.map_reverse, dat_I]
    · have h := of_decide_eq_false h
      rw [if_neg h]
      walk_at "y"
      exact ⟨rfl, rfl⟩
  rintro δ ω ⟨rfl, rfl⟩
  have hlen2 : (turn8 c (fallen9 c n)).length ≤ n := by
    unfold turn8
    split
    · rw [List.length_reverse]; exact hlen
    · exact hlen
  unfold fallen8
  generalize turn8 c (fallen9 c n) = b at hlen2
  unfold twice8
  walk_at "yi"
  refine ⟨_, rfl, fun h => ?_, fun h => ?_⟩
  · have h := of_decide_eq_true h
    rw [if_pos h]
    walk_at "y"
    refine el_dat ?_
    walk_at "y"
    refine ⟨_, rfl, ?_⟩
    walk_at "y"
    refine ⟨_, itm_dI b, (cutA b none (some 1)).map .int, by rw [cutA_map, dat_I], ?_⟩
    have hcl := cutA_len b none (some 1)
    refine eb_dat (ebl_cat (itm_dI b) (itm_dI _) rfl rfl (szOk (by rw [List.length_map, List.length_map]; omega)) ?_)
    refine ⟨(b ++ cutA b none (some 1)).map .int, by rw [← List.map_append, dat_I], ?_⟩
    walk_at "y"
    exact .dat _
  · have h := of_decide_eq_false h
    rw [if_neg h]
    walk_at "y"
    exact .dat _
/-! ### _law_letters_by (k08) -/
def g8 (N : Nat) (l : Let) : Int := match l.g with
  | none => (N : Int)
  | some g => (g : Int)
def dLet8 (N : Nat) (l : Let) : PyData := .list [.int l.s, .int l.t, .int (l.p : Nat), .int (g8 N l)]
abbrev oLet8 (N : Nat) (l : Let) : Ob := .lst [.dat (.int l.s), .dat (.int l.t), .dat (.int (l.p : Nat)), .dat (.int (g8 N l))]
def omL8 (N : Nat) (f : List Let) : Om := .lst ((List.range f.length).map fun i => .ptr (i + 1)) :: f.map (oLet8 N)
theorem omL8_len (N : Nat) (f : List Let) : (omL8 N f).length = f.length + 1 := by simp [omL8]
theorem omL8_snoc (N : Nat) (f : List Let) (l : Let) : (omL8 N f ++ [oLet8 N l]).set 0 (.lst ((List.range f.length).map (fun i => A.ptr (i + 1)) ++ [.ptr (omL8 N f).length])) = omL8 N (f ++ [l]) := by
  rw [omL8_len]
  show _ :: (f.map (oLet8 N) ++ [oLet8 N l]) = _ :: _
  rw [List.map_append, List.length_append, List.length_singleton, List.range_succ, List.map_append]
  rfl
theorem omL8_set (N : Nat) (f : List Let) (i : Nat) (l : Let) : (omL8 N f).set (i + 1) (oLet8 N l) = omL8 N (f.set i l) := by
  show _ :: (f.map (oLet8 N)).set i (oLet8 N l) = _ :: (f.set i l).map (oLet8 N)
  rw [List.length_set, List.map_set]
theorem omL8_get {N : Nat} {f : List Let} {i : Nat} {l : Let} (h : f[i]? = some l) : (omL8 N f)[i + 1]? = some (oLet8 N l) := by
  show (f.map (oLet8 N))[i]? = _
  rw [List.getElem?_map, h]; rfl
theorem fin_omL8 (N : Nat) (f : List Let) : Fin (omL8 N f) (.ptr 0) (.list (f.map (dLet8 N))) := by
  refine .ptr rfl ?_
  have go : ∀ (g : List Let) (k : Nat), (∀ i l, g[i]? = some l → (omL8 N f)[k + i + 1]? = some (oLet8 N l)) → FinA (omL8 N f) ((List.range' k g.length).map fun i => A.ptr (i + 1)) (g.map (dLet8 N)) := by
    intro g
    induction g with
    | nil => intro k _; exact .nil
    | cons l g ih =>
      intro k h
      refine .cons (.ptr (h 0 l rfl) (.cons (.dat _) (.cons (.dat _) (.cons (.dat _) (.cons (.dat _) .nil))))) (ih (k + 1) fun i l' hl => ?_)
      have := h (i + 1) l' hl
      rw [show k + 1 + i + 1 = k + (i + 1) + 1 by omega]
      exact this
  have := go f 0 fun i l h => by rw [Nat.zero_add]; exact omL8_get h
  rw [← List.range_eq_range'] at this
  exact this
def R_l_letters_by_08 (ds : List PyData) (r : Res Er) : Prop := ∃ (hands : Int) (rows : List Row) (f : List Let), ds = [dRows rows] ∧ lettersM hands rows = .ok f ∧ r = .ok (.list (f.map (dLet8 rows.length)))
abbrev sp_l_letters_by_08 (K : PySem.W.Frag) (C : Er → Addr) : Sp := Pr C R_l_letters_by_08
theorem len_l_letters_by_08 {ds : List PyData} {r : Res Er} (h : R_l_letters_by_08 ds r) : ds.length = 1 := by
  obtain ⟨f, x, _, rfl, _⟩ := h; rfl
theorem wk_l_letters_by_08 (K : PySem.W.Frag) (C : Er → Addr) (H : Hp) (ds : List PyData) (r : Res Er) (h : R_l_letters_by_08 ds r) : SX H (t_l_letters_by_08 K) (entry ds 2) [] (HandR r) := by
  obtain ⟨hands, rows, f, rfl, hf, rfl⟩ := h
  obtain ⟨_, _, hz, hgo⟩ := lettersM_ok hf
  show SX H (t_l_letters_by_08 K) [some (.arg (dRows rows)), none, none] [] _
  unfold t_l_letters_by_08
  walk_at "y"
  refine el_own (el_lst ?_)
  walk_at "y"
  refine ⟨szOk (by decide), ?_⟩
  walk_at "y"
  refine sx_forP (xs := List.range rows.length) (it := fun _ c => .dat (.int (c : Nat))) (fun pre δ ω => ∃ a f1, δ = [some (.arg (dRows rows)), some (.ptr 0), a] ∧ ω = omL8 rows.length f1 ∧ goL hands 0 [] (rows.take pre.length) = .ok f1) ?_ ?_ ?_
  · walk_at "y"
    refine ec_len (itm_rows rows) ?_
    walk_at "y"
    refine ⟨_, rfl, by rw [List.length_map]; omega, ?_⟩
    rw [List.length_map]
    exact ⟨map_idx _ _, ⟨none, [], rfl, rfl, rfl⟩, fun _ _ _ _ => trivial⟩
  · rintro pre x post δ ω e ⟨a, f1, rfl, rfl, hf1⟩
    obtain ⟨rfl, hpl⟩ := range_mid e
    obtain ⟨r, hr⟩ : ∃ r, rows[pre.length]? = some r := ⟨_, List.getElem?_eq_getElem hpl⟩
    obtain ⟨f1', f2, hf1', hst, hf2⟩ := goL_at hgo hr
    rw [hf1] at hf1'
    cases hf1'
    have hfl := goL_len hf1
    rw [List.length_take, List.length_nil] at hfl
    refine ⟨_, gx_name, ?_⟩
    rw [List.length_append, List.length_singleton]
    have row : ∀ {ω : Om}, Itm K H ω (.arg (dRows rows)) (rows.map fun r => .dat (dRow r)) := itm_rows rows
    have hat := at_row hr
    cases hst with
    | @send h t h1 h2 =>
      walk_at "yi"
      refine eb_ixUL row hat ?_
      walk_at "y"
      refine eb_ixUT (.dat _) (d := .str wSend) at_cons ?_
      walk_at "y"
      refine eb_eqS shw_send shw_send ?_
      refine ⟨_, rfl, fun _ => ?_, fun z => absurd rfl (of_decide_eq_false z)⟩
      walk_at "y"
      refine ⟨0, _, rfl, rfl, ?_⟩
      walk_at "y"
      refine el_own (el_lst ?_)
      walk_at "y"
      refine eb_ixUL row hat ?_
      walk_at "y"
      refine eb_ixUT (.dat _) (d := .int h) (at_ns (ns := [h, t]) (j := 0) rfl) ?_
      walk_at "y"
      refine eb_ixUL row hat ?_
      walk_at "y"
      refine eb_ixUT (.dat _) (d := .int t) (at_ns (ns := [h, t]) (j := 1) rfl) ?_
      walk_at "y"
      refine ec_len row ?_
      walk_at "y"
      refine ⟨szOk (by simp), ?_⟩
      walk_at "y"
      refine ⟨_, _, rfl, rfl, szLt (by rw [List.length_map, List.length_range]; omega), ?_⟩
      walk_at "y"
      refine eb_ixUL row hat ?_
      walk_at "y"
      refine eb_ixUT (.dat _) (d := .str wSend) at_cons ?_
      walk_at "y"
      refine eb_eqS shw_send shw_got ?_
      refine ⟨_, rfl, fun z => absurd (of_decide_eq_true z) ne_sg, fun _ => ?_⟩
      walk_at "y"
      rw [List.length_map]
      exact ⟨_, _, rfl, omL8_snoc rows.length f1 ⟨h, t, pre.length, none⟩, hf2⟩
    | @got h l y h1 hy ht hg =>
      have hl := (List.getElem?_eq_some_iff.mp hy).1
      walk_at "yi"
      refine eb_ixUL row hat ?_
      walk_at "y"
      refine eb_ixUT (.dat _) (d := .str wGot) at_cons ?_
      walk_at "y"
      refine eb_eqS shw_got shw_send ?_
      refine ⟨_, rfl, fun z => absurd (of_decide_eq_true z) ne_gs, fun _ => ?_⟩
      walk_at "y"
      refine eb_ixUL row hat ?_
      walk_at "y"
      refine eb_ixUT (.dat _) (d := .str wGot) at_cons ?_
      walk_at "y"
      refine eb_eqS shw_got shw_got ?_
      refine ⟨_, rfl, fun _ => ?_, fun z => absurd rfl (of_decide_eq_false z)⟩
      walk_at "y"
      refine eb_ixUL row hat ?_
      walk_at "y"
      refine eb_ixUT (.dat _) (d := .int (l : Int)) (at_ns (ns := [h, (l : Int)]) (j := 1) rfl) ?_
      refine eb_ixUL (.ptr rfl) (c := .ptr (l + 1)) (at_nat (Int.natCast_nonneg _) (by rw [Int.toNat_natCast, List.getElem?_map, List.getElem?_range hl]; rfl)) ?_
      walk_at "y"
      refine ⟨l + 1, 3, 3, _, rfl, rfl, omL8_get hy, rfl, ?_⟩
      exact ⟨_, _, rfl, omL8_set rows.length f1 l { y with g := some pre.length }, hf2⟩
    | @note h h1 =>
      walk_at "yi"
      refine eb_ixUL row hat ?_
      walk_at "y"
      refine eb_ixUT (.dat _) (d := .str wNote) at_cons ?_
      walk_at "y"
      refine eb_eqS shw_note shw_send ?_
      refine ⟨_, rfl, fun z => absurd (of_decide_eq_true z) ne_ns, fun _ => ?_⟩
      walk_at "y"
      refine eb_ixUL row hat ?_
      walk_at "y"
      refine eb_ixUT (.dat _) (d := .str wNote) at_cons ?_
      walk_at "y"
      refine eb_eqS shw_note shw_got ?_
      refine ⟨_, rfl, fun z => absurd (of_decide_eq_true z) ne_ng, fun _ => ?_⟩
      walk_at "y"
      exact ⟨_, _, rfl, rfl, hf2⟩
  · rintro δ ω ⟨a, f1, rfl, rfl, hf1⟩
    walk_at "y"
    rw [range_done, List.take_length, hgo] at hf1
    cases hf1
    exact fin_omL8 _ f
end Y

namespace Y
open PySem PySem.Spec L2
local macro_rules | `(tactic| walk_at "y1") => `(tactic| first
  | (fail_if_success (with_reducible show SX _ (tSeq (tIfS _ _ _) _) _ _ _)); (with_reducible refine sx_seq ?_)
  | with_reducible refine sx_asg ?_
  | with_reducible refine sx_if ?_
  | with_reducible refine sx_ret ?_
  | with_reducible refine sx_retN ?_
  | with_reducible refine sx_next ?_
  | with_reducible refine sx_app ?_
  | with_reducible refine sx_clear ?_
  | with_reducible refine sx_setL ?_
  | with_reducible refine sx_dput ?_
  | with_reducible refine sx_drop ?_
  | with_reducible refine eg_var (by with_unfolding_all rfl) ?_
  | with_reducible refine eg_int ?_
  | with_reducible refine eg_bl ?_
  | with_reducible refine eg_str ?_
  | with_reducible refine eg_non ?_
  | with_reducible refine eg_raw ?_
  | with_reducible refine eg_op ?_
  | with_reducible refine eg_cb ?_
  | with_reducible refine eg_tup ?_
  | with_reducible refine eg_isN ?_
  | with_reducible refine eg_notN ?_
  | with_reducible refine eg_and ?_
  | with_reducible refine eg_or ?_
  | with_reducible refine eg_not ?_
  | with_reducible refine eg_dnew ?_
  | with_reducible refine eg_dget ?_
  | with_reducible refine eg_dnotin ?_
  | with_reducible refine eg_un ?_
  | with_reducible refine eg_partsNot ?_
  | with_reducible refine eg_partsIx ?_
  | with_reducible refine et_test ?_
  | with_reducible refine et_B ?_
  | with_reducible refine et_not ?_
  | with_reducible refine et_and ?_
  | with_reducible refine et_or ?_
  | with_reducible refine et_yes ?_
  | with_reducible refine ea_nil ?_
  | with_reducible refine ea_cons ?_
  | with_reducible refine el_lst ?_
  | with_reducible refine el_slL ?_
  | with_reducible refine el_op ?_
  | with_reducible refine el_cb ?_
  | with_reducible refine el_lstRev ?_
  | with_reducible refine el_rng ?_
  | with_reducible refine eo_none ?_
  | with_reducible refine eo_some ?_
  | with_reducible refine sr_list ?_
  | with_reducible refine sr_rng ?_
  | with_reducible refine sr_enum ?_
  | with_reducible refine eb_add ?_
  | with_reducible refine eb_sub ?_
  | with_reducible refine eb_fdivL (by decide) (by decide) ?_
  | with_reducible refine eb_mulL (by decide) (by decide) ?_
  | with_reducible refine eb_mulR (by decide) (by decide) ?_
  | with_reducible refine eb_powL (by decide) (by decide) (by decide) ?_
  | with_reducible refine eb_mod (by decide) ?_
  | with_reducible refine eb_lt ?_
  | with_reducible refine eb_le ?_
  | with_reducible refine eb_gt ?_
  | with_reducible refine eb_ge ?_
  | with_reducible refine eb_eqI ?_
  | with_reducible refine eb_neI ?_
  | with_reducible refine eb_eqB ?_)
local macro_rules | `(tactic| walk_at "y1") => `(tactic| first
  | with_reducible refine call_cell ?_
  | with_reducible refine Exists.intro _ (Exists.intro _ (Exists.intro _ (And.intro (Eq.refl [A.raw (V.ref _), A.dat (PyData.int _)]) (And.intro (by assumption) (And.intro (by first | decide | omega) ?_))))))
local macro_rules | `(tactic| walk_at "y") => `(tactic| (repeat' (walk_at "y1")))
local macro_rules | `(tactic| walk_at "yi") => `(tactic| ((repeat' (walk_at "y1")); (with_reducible refine sx_seq ?_); (repeat' (walk_at "y1"))))


theorem eqv_row (a b : Row) : PyData.eqv (dRow a) (dRow b) = decide (a = b) := by
  cases a with
  | emp =>
    cases b with
    | emp => simp [dRow, PyData.eqv, PyData.eqvAll]
    | mk w ns => simp [dRow, PyData.eqv, PyData.eqvAll]
  | mk v ms =>
    cases b with
    | emp => simp [dRow, PyData.eqv, PyData.eqvAll]
    | mk w ns =>
      simp only [dRow, PyData.eqv, PyData.eqvAll, eqv_ints, Row.mk.injEq]
      by_cases h1 : v = w
      · subst h1; simp
      · have : (v == w) = false := by simpa using h1
        simp [this, h1]
theorem shaped_row {r : Row} (h : needRow r = none) : SeqAt.shaped (dRow r) = true := by
  obtain ⟨a, b⟩ := lay_row h
  show (PyData.canLay0 (dRow r) && decide (PyData.depth (dRow r) ≤ 64)) = true
  rw [Bool.and_eq_true]
  exact ⟨a, decide_eq_true (by omega)⟩
theorem notes_count (h : Int) : ∀ (rows : List Row) (k : Nat), (notes h k rows).length = (rows.filter fun r => decide (r = .note h)).length
  | [], k => rfl
  | r :: rows, k => by
    simp only [notes, List.filter_cons]
    by_cases e : r = .note h
    · rw [if_pos e, if_pos (decide_eq_true e), List.length_cons, List.length_cons, notes_count h rows]
    · rw [if_neg e, if_neg (by simpa using e), notes_count h rows]
theorem told1_count (rows : List Row) (h : Int) : (told1 rows h).length = (notes h 0 rows).length + 2 := by
  unfold told1 begun
  rw [List.length_append, List.length_cons, List.length_singleton]
section
variable {K : PySem.W.Frag} {H0 : Hp} {δ : Sl} {ω : Om} {tl : TE} {P : A → Om → Prop}
/-- [row for row in rows if row == ("note", hand)] -/
theorem eg_notes {j jh : Nat} {rows : List Row} {h : Int} (hz : rows.length ≤ 1000000) (hne : ∀ r ∈ rows, needRow r = none) (hj : j ≠ jh) (hd : δ[jh]? = some (some (.dat (.int h))))
    (hr : EG H0 tl δ ω fun a ω1 => ω1 = ω ∧ Itm K H0 ω a (rows.map fun r => .dat (dRow r)) ∧ ∀ acc, Itm K H0 (ω ++ [.lst acc]) a (rows.map fun r => .dat (dRow r)))
    (hjl : j < δ.length)
    (p : P (.dat (.list ((rows.filter fun r => decide (r = .note h)).map dRow))) ω) :
    EG H0 (tLc (iList K tl) (gName j) (tTest (tOp (rEqD K) (tVar j) (tTup (tCons (tC (.str (PySem.Str.ofString "note"))) (tCons (tVar jh) tNil))))) (tVar j) [j]) δ ω P := by
  refine el_dat (el_lcL rows (fun r => .dat (dRow r)) (by omega) (fun r => decide (r = .note h)) dRow hr ?_ ⟨_, rfl, p⟩)
  rintro r hrm ω' ⟨acc, rfl⟩
  have e1 : ((wipeA δ [j]).set j (some (A.dat (dRow r))))[j]? = some (some (.dat (dRow r))) := List.getElem?_set_self (by rw [wipeA_len]; exact hjl)
  have e2 : ((wipeA δ [j]).set j (some (A.dat (dRow r))))[jh]? = some (some (.dat (.int h))) := by
    rw [List.getElem?_set_ne hj]
    show ((wipeA δ []).set j none)[jh]? = _
    rw [List.getElem?_set_ne hj]
    exact hd
  refine ⟨?_, fun _ => eg_var e1 ⟨rfl, rfl⟩⟩
  refine et_test (eg_op (eg_var e1 (eg_tup (ea_cons (eg_str (ea_cons (eg_var e2 (ea_nil ?_))))))))
  refine ⟨[.str wNote, .int h], rfl, szOk (show 2 ≤ 16777216 by decide), ?_⟩
  refine eb_eqD (d := dRow r) (e := dRow (.note h)) (.dat _) (.dat _) (shaped_row (hne r hrm)) (shaped_row (needRow_note h)) ?_
  rw [eqv_row]
  exact ⟨_, rfl, rfl, rfl⟩
end
/-! ### _law_numbers -/
def R_l_numbers (ds : List PyData) (r : Res Er) : Prop := ∃ (n : Nat) (rows : List Row) (line : List Int), ds = [dI line, dRows rows, .int n] ∧ n ≤ 40 ∧ rows.length ≤ 1000 ∧ (∀ r ∈ rows, needRow r = none) ∧ lineOk (told n rows) line = true ∧ r = .ok (.bool true)
abbrev sp_l_numbers (K : PySem.W.Frag) (C : Er → Addr) : Sp := Pr C R_l_numbers
theorem len_l_numbers {ds : List PyData} {r : Res Er} (h : R_l_numbers ds r) : ds.length = 3 := by
  obtain ⟨_, _, _, rfl, _⟩ := h; rfl
theorem wk_l_numbers (K : PySem.W.Frag) (C : Er → Addr) (H : Hp) (ds : List PyData) (r : Res Er) (h : R_l_numbers ds r) : SX H (t_l_numbers K (sp_l_whole K C)) (entry ds 3) [] (HandR r) := by
  obtain ⟨n, rows, line, rfl, hn, hz, hne, ok, rfl⟩ := h
  show SX H (t_l_numbers K (sp_l_whole K C)) [some (.arg (dI line)), some (.arg (dRows rows)), some (.dat (.int n)), none, none, none] [] _
  have hl := (lineOk_iff.mp ok).1
  rw [told_len] at hl
  have hl : line.length = n := hl
  unfold t_l_numbers
  walk_at "yi"
  refine ec_isi (d := dI line) (.arg _) kb_list ?_
  refine ⟨_, rfl, ?_⟩
  simp only [Bool.not_true, Bool.false_eq_true, if_false]
  walk_at "y"
  refine ec_len (itm_aI line) ?_
  refine eg_var (by with_unfolding_all rfl) ?_
  refine eb_neI ?_
  refine ⟨false, by rw [List.length_map, hl]; simp, fun z => (by cases z), fun _ => ?_⟩
  walk_at "y"
  refine sx_forP (xs := List.range n) (it := fun _ c => .dat (.int (c : Nat))) (fun pre δ ω => ∃ u v, δ = [some (.arg (dI line)), some (.arg (dRows rows)), some (.dat (.int n)), u, v, none]) ?_ ?_ ?_
  · walk_at "y"
    exact ⟨_, rfl, by omega, map_idx _ _, ⟨_, _, rfl⟩, fun _ _ _ _ => trivial⟩
  · rintro pre x post δ ω e ⟨u, v, rfl⟩
    obtain ⟨rfl, hpl⟩ := range_mid e
    obtain ⟨x, hx⟩ : ∃ x, line[pre.length]? = some x := ⟨_, List.getElem?_eq_getElem (by omega)⟩
    have hb := (lineOk_iff.mp ok).2 _ _ _ hx (told_get (hands := n) (by omega))
    have hcount := told1_count rows ((pre.length : Nat) : Int)
    have ax := at_I (t := line) (i := (pre.length : Nat)) (Int.natCast_nonneg _) (by rw [Int.toNat_natCast]; exact hx)
    refine ⟨_, gx_name, ?_⟩
    walk_at "y"
    refine eg_notes (h := ((pre.length : Nat) : Int)) (by omega) hne (by decide) rfl ?_ (by simp) ?_
    · walk_at "y"
      exact ⟨rfl, itm_rows rows, fun _ => itm_rows rows⟩
    walk_at "y"
    refine ec_len (.dat _) ?_
    rw [List.length_map, List.length_map, ← notes_count _ rows 0]
    walk_at "y"
    refine call_whole ?_
    walk_at "y"
    refine eb_ixUL (itm_aI line) ax ?_
    walk_at "y"
    refine ⟨.int x, .cons (.dat _) .nil, fun kv => by simp, ?_⟩
    refine ⟨_, rfl, ?_⟩
    simp only [isInt, Bool.not_true, Bool.false_eq_true, if_false]
    walk_at "y"
    refine eb_ixUL (itm_aI line) ax ?_
    walk_at "y"
    refine ⟨_, rfl, ?_⟩
    rw [decide_eq_false (by omega)]
    simp only [Bool.false_eq_true, if_false]
    walk_at "y"
    refine eb_ixUL (itm_aI line) ax ?_
    walk_at "y"
    refine ⟨_, rfl, fun z => ?_, fun _ => ?_⟩
    · have := of_decide_eq_true z
      omega
    walk_at "y"
    exact ⟨_, _, rfl⟩
  · rintro δ ω ⟨u, v, rfl⟩
    walk_at "y"
    exact .dat _
section
variable {K : PySem.W.Frag} {C : Er → Addr} {H0 : Hp} {δ : Sl} {ω : Om} {E : XK} {ts : TA} {P : A → Om → Prop}
theorem call_numbers {n : Nat} {rows : List Row} {line : List Int} (h1 : n ≤ 40) (h2 : rows.length ≤ 1000) (h3 : ∀ r ∈ rows, needRow r = none) (h4 : lineOk (told n rows) line = true) (h : EA H0 ts δ ω fun bs ω1 => RdA ω1 bs [dI line, dRows rows, .int n] ∧ P (.dat (.bool true)) ω1) : EG H0 (tCall (sp_l_numbers K C) [] E ts) δ ω P :=
  eg_call fun σ H vs as S Q q => h σ H vs as S Q fun bs ω' us H' ⟨hr, hp⟩ hl' S' => q bs ω' us H' ⟨_, _, hr, ⟨n, rows, line, rfl, h1, h2, h3, h4, rfl⟩, hp⟩ hl' S'
end
/-! ### falling more -/
theorem noLater_trans {xs ys zs : List Int} (l1 : xs.length = ys.length) (l2 : ys.length = zs.length) (h1 : noLater xs ys = true) (h2 : noLater ys zs = true) : noLater xs zs = true := by
  rw [noLater_iff l1] at h1
  rw [noLater_iff l2] at h2
  refine (noLater_iff (l1.trans l2)).mpr fun i x z hx hz => ?_
  have hi := (List.getElem?_eq_some_iff.mp hx).1
  have hy : ys[i]? = some ys[i] := List.getElem?_eq_getElem (by omega)
  have a := h1 i x _ hx hy
  have b := h2 i _ z hy hz
  omega
theorem topLine_mono {hands : Int} {rows : List Row} {a b : List Int} (h : ∀ i : Nat, i < hands.toNat → (i : Int) ∈ b → (i : Int) ∈ a) : noLater (topLine hands rows a) (topLine hands rows b) = true := by
  refine (noLater_iff (by rw [topLine_len, topLine_len])).mpr fun i x y hx hy => ?_
  have hi := (List.getElem?_eq_some_iff.mp hx).1
  rw [topLine_len] at hi
  rw [topLine_get hi] at hx hy
  cases hx
  cases hy
  have := h i hi
  unfold inI
  split
  · omega
  · rename_i h1
    split
    · rename_i h2
      exact absurd (decide_eq_true (this (of_decide_eq_true h2))) h1
    · omega
theorem topLine_same {hands : Int} {rows : List Row} {a b : List Int} (h : ∀ i : Nat, i < hands.toNat → ((i : Int) ∈ b ↔ (i : Int) ∈ a)) : topLine hands rows a = topLine hands rows b := by
  unfold topLine
  refine List.map_congr_left fun i hi => ?_
  have hi := List.mem_range.mp hi
  have := h i hi
  unfold inI
  by_cases hb : (i : Int) ∈ b
  · rw [decide_eq_true hb, decide_eq_true (this.mp hb)]
  · rw [decide_eq_false hb, decide_eq_false (fun z => hb (this.mpr z))]
theorem last_mono {hands : Int} {rows : List Row} {f : List Let} (hf : lettersM hands rows = .ok f) {a b : List Int} (h : ∀ i : Nat, i < hands.toNat → (i : Int) ∈ b → (i : Int) ∈ a) : noLater (fallM f (told hands rows) (topLine hands rows a)).2 (fallM f (told hands rows) (topLine hands rows b)).2 = true := by
  have T := told_ok hands rows
  have L : LetsOk (told hands rows).length f := by rw [told_len]; exact lets_ok hf
  obtain ⟨k1, k2, k3⟩ := fall_ok T L (topLine_ok hands rows a)
  have hl := (lineOk_iff.mp k1).1
  rw [told_len] at hl
  exact fall_most T L (topLine_ok hands rows b) _ k1 k2 (noLater_trans (by rw [hl, topLine_len]) (by rw [topLine_len, topLine_len]) k3 (topLine_mono h))
theorem mem_everyone {hands : Int} {i : Nat} (h : i < hands.toNat) : (i : Int) ∈ everyone hands := List.mem_map.mpr ⟨i, List.mem_range.mpr h, rfl⟩
end Y

/-! Mn: what is left of a history: plain Lean. -/
namespace Y
open PySem PySem.Spec L2

def frGo (kept : List Int) : Nat → Nat → List Let → List (Int × Int)
  | _, _, [] => []
  | k, c, l :: f => if sentK kept l = true then ((k : Int), (c : Int)) :: frGo kept (k + 1) (c + 1) f else frGo kept (k + 1) c f
def freshM (kept : List Int) (f : List Let) : List (Int × Int) := frGo kept 0 0 f
theorem frGo_snoc (kept : List Int) : ∀ (f : List Let) (l : Let) (k c : Nat), frGo kept k c (f ++ [l]) = frGo kept k c f ++ if sentK kept l = true then [(((k + f.length : Nat) : Int), ((c + (frGo kept k c f).length : Nat) : Int))] else []
  | [], l, k, c => by simp [frGo]
  | x :: f, l, k, c => by
    simp only [List.cons_append, frGo, frGo_snoc kept f]
    by_cases h : sentK kept x = true
    · rw [if_pos h, if_pos h, List.cons_append, List.length_cons, List.length_cons, show k + 1 + f.length = k + (f.length + 1) by omega, show c + 1 + (frGo kept (k + 1) (c + 1) f).length = c + ((frGo kept (k + 1) (c + 1) f).length + 1) by omega]
    · rw [if_neg h, if_neg h, List.length_cons, show k + 1 + f.length = k + (f.length + 1) by omega]
theorem frGo_mem (kept : List Int) : ∀ (f : List Let) (k c : Nat) (e : Int × Int), e ∈ frGo kept k c f → (k : Int) ≤ e.1 ∧ e.1 < ((k + f.length : Nat) : Int)
  | [], k, c, e, h => by simp [frGo] at h
  | x :: f, k, c, e, h => by
    simp only [frGo] at h
    simp only [List.length_cons]
    split at h
    · rcases List.mem_cons.mp h with rfl | h
      · simp only; omega
      · have := frGo_mem kept f _ _ e h; omega
    · have := frGo_mem kept f _ _ e h; omega
theorem frGo_len (kept : List Int) : ∀ (f : List Let) (k c : Nat), (frGo kept k c f).length ≤ f.length
  | [], k, c => Nat.le_refl _
  | x :: f, k, c => by
    simp only [frGo]
    split
    · have := frGo_len kept f (k + 1) (c + 1); simp only [List.length_cons]; omega
    · have := frGo_len kept f (k + 1) c; simp only [List.length_cons]; omega
/-- how many kept sends lie before a letter -/
def rank (kept : List Int) (f : List Let) (i : Nat) : Nat := ((f.take i).filter (sentK kept)).length
theorem rank_zero (kept : List Int) (f : List Let) : rank kept f 0 = 0 := by simp [rank]
theorem rank_cons (kept : List Int) (x : Let) (f : List Let) (i : Nat) : rank kept (x :: f) (i + 1) = (if sentK kept x = true then 1 else 0) + rank kept f i := by
  unfold rank
  rw [List.take_succ_cons, List.filter_cons]
  split
  · rw [List.length_cons]; omega
  · omega
abbrev dkvs (kvs : List (Int × Int)) : List (Key × V) := kvs.map fun e => (Sum.inl e.1, V.int e.2)
theorem fresh_val (kept : List Int) : ∀ (f : List Let) (k c i : Nat) (l : Let), f[i]? = some l → sentK kept l = true → valV (dkvs (frGo kept k c f)) (Sum.inl ((k + i : Nat) : Int)) = some (V.int ((c + rank kept f i : Nat) : Int))
  | [], k, c, i, l, h, _ => by simp at h
  | x :: f, k, c, 0, l, h, hs => by
    have : x = l := by simpa using h
    subst this
    simp only [frGo]
    rw [if_pos hs, rank_zero]
    exact valV_pos rfl
  | x :: f, k, c, i + 1, l, h, hs => by
    have h : f[i]? = some l := by simpa using h
    have ne : ∀ (j : Nat), (Sum.inl ((k : Nat) : Int) : Key) ≠ Sum.inl ((k + (j + 1) : Nat) : Int) := fun j z => by
      have := Sum.inl.inj z
      omega
    simp only [frGo, rank_cons]
    by_cases hx : sentK kept x = true
    · rw [if_pos hx, if_pos hx]
      have ih := fresh_val kept f (k + 1) (c + 1) i l h hs
      rw [show k + 1 + i = k + (i + 1) by omega, show c + 1 + rank kept f i = c + (1 + rank kept f i) by omega] at ih
      rw [← ih]
      exact valV_neg (ne i)
    · rw [if_neg hx, if_neg hx, Nat.zero_add]
      have ih := fresh_val kept f (k + 1) c i l h hs
      rw [show k + 1 + i = k + (i + 1) by omega] at ih
      exact ih
theorem fresh_put (kept : List Int) (f : List Let) (w : Int) : putK (dkvs (freshM kept f)) (Sum.inl ((f.length : Nat) : Int)) (.int w) = dkvs (freshM kept f) ++ [(Sum.inl ((f.length : Nat) : Int), V.int w)] := by
  unfold putK
  rw [if_neg]
  intro h
  rw [List.any_eq_true] at h
  obtain ⟨e, he, hk⟩ := h
  obtain ⟨e', he', rfl⟩ := List.mem_map.mp he
  have h1 := frGo_mem kept f 0 0 e' he'
  have h2 := Sum.inl.inj (of_decide_eq_true hk)
  omega
/-- a row's hand -/
def handOf : Row → Int
  | .emp => 0
  | .mk _ ns => ns.getD 0 0
/-- a row that is left, told anew -/
def anew (kept : List Int) (f : List Let) : Row → Row
  | .emp => .emp
  | .mk w ns => if w = wGot then .got (ns.getD 0 0) ((rank kept f (ns.getD 1 0).toNat : Nat) : Int) else .mk w ns
theorem anew_send (kept : List Int) (f : List Let) (h t : Int) : anew kept f (.send h t) = .send h t := by simp [anew, ne_sg]
theorem anew_note (kept : List Int) (f : List Let) (h : Int) : anew kept f (.note h) = .note h := by simp [anew, ne_ng]
theorem anew_got (kept : List Int) (f : List Let) (h : Int) (l : Nat) : anew kept f (.got h (l : Int)) = .got h ((rank kept f l : Nat) : Int) := by simp [anew]
def leftGo (kept : List Int) (f : List Let) : Nat → List Row → List Row
  | _, [] => []
  | k, r :: rows => if (k : Int) < at0 kept (handOf r) then anew kept f r :: leftGo kept f (k + 1) rows else leftGo kept f (k + 1) rows
theorem leftGo_append (kept : List Int) (f : List Let) : ∀ (a b : List Row) (k : Nat), leftGo kept f k (a ++ b) = leftGo kept f k a ++ leftGo kept f (k + a.length) b
  | [], b, k => by simp [leftGo]
  | r :: a, b, k => by
    simp only [List.cons_append, leftGo, leftGo_append kept f a b (k + 1), List.length_cons]
    rw [show k + 1 + a.length = k + (a.length + 1) by omega]
    split <;> simp
theorem leftGo_snoc (kept : List Int) (f : List Let) (a : List Row) (r : Row) : leftGo kept f 0 (a ++ [r]) = leftGo kept f 0 a ++ if ((a.length : Nat) : Int) < at0 kept (handOf r) then [anew kept f r] else [] := by
  rw [leftGo_append, Nat.zero_add]
  simp only [leftGo]
theorem leftGo_len (kept : List Int) (f : List Let) : ∀ (a : List Row) (k : Nat), (leftGo kept f k a).length ≤ a.length
  | [], k => Nat.le_refl _
  | r :: a, k => by
    have := leftGo_len kept f a (k + 1)
    simp only [leftGo]
    split <;> simp only [List.length_cons] <;> omega
def leftM (hands : Int) (rows : List Row) (line : List Int) : Except Er (List Row) :=
  match keptM hands rows line with
  | .error e => .error e
  | .ok kept => match lettersM hands rows with
    | .error e => .error e
    | .ok f => if straysBy f kept = [] then .ok (leftGo kept f 0 rows) else .error .Unsound
def againL (kept : List Int) (f : List Let) : List Int := ((freshM kept f).filter fun e => underWay kept (f.getD e.1.toNat ⟨0, 0, 0, none⟩)).map fun e => e.2
def againM (hands : Int) (rows : List Row) (line : List Int) : Except Er (List Int) :=
  match keptM hands rows line with
  | .error e => .error e
  | .ok kept => match lettersM hands rows with
    | .error e => .error e
    | .ok f => if straysBy f kept = [] then .ok (againL kept f) else .error .Unsound
/-- how many rows each hand loses -/
def lostGo (kept : List Int) : Nat → List Row → List Int → List Int
  | _, [], acc => acc
  | k, r :: rows, acc => lostGo kept (k + 1) rows (if at0 kept (handOf r) ≤ (k : Int) then acc.set (handOf r).toNat (at0 acc (handOf r) + 1) else acc)
theorem lostGo_append (kept : List Int) : ∀ (a b : List Row) (k : Nat) (acc : List Int), lostGo kept k (a ++ b) acc = lostGo kept (k + a.length) b (lostGo kept k a acc)
  | [], b, k, acc => rfl
  | r :: a, b, k, acc => by
    simp only [List.cons_append, lostGo, lostGo_append kept a b (k + 1), List.length_cons]
    rw [show k + 1 + a.length = k + (a.length + 1) by omega]
def zeros (n : Nat) : List Int := List.replicate n 0
def lostM (hands : Int) (rows : List Row) (line : List Int) : Except Er (List Int) :=
  match keptM hands rows line with
  | .error e => .error e
  | .ok kept => .ok (lostGo kept 0 rows (zeros hands.toNat))
theorem lostGo_len (kept : List Int) : ∀ (rows : List Row) (k : Nat) (acc : List Int), (lostGo kept k rows acc).length = acc.length
  | [], k, acc => rfl
  | r :: rows, k, acc => by
    simp only [lostGo]
    rw [lostGo_len kept rows]
    split
    · rw [List.length_set]
    · rfl
end Y

namespace Y
open PySem PySem.Spec L2
local macro_rules | `(tactic| walk_at "y1") => `(tactic| first
  | (fail_if_success (with_reducible show SX _ (tSeq (tIfS _ _ _) _) _ _ _)); (with_reducible refine sx_seq ?_)
  | with_reducible refine sx_asg ?_
  | with_reducible refine sx_if ?_
  | with_reducible refine sx_ret ?_
  | with_reducible refine sx_retN ?_
  | with_reducible refine sx_next ?_
  | with_reducible refine sx_app ?_
  | with_reducible refine sx_clear ?_
  | with_reducible refine sx_setL ?_
  | with_reducible refine sx_dput ?_
  | with_reducible refine sx_drop ?_
  | with_reducible refine eg_var (by with_unfolding_all rfl) ?_
  | with_reducible refine eg_int ?_
  | with_reducible refine eg_bl ?_
  | with_reducible refine eg_str ?_
  | with_reducible refine eg_non ?_
  | with_reducible refine eg_raw ?_
  | with_reducible refine eg_op ?_
  | with_reducible refine eg_cb ?_
  | with_reducible refine eg_tup ?_
  | with_reducible refine eg_isN ?_
  | with_reducible refine eg_notN ?_
  | with_reducible refine eg_and ?_
  | with_reducible refine eg_or ?_
  | with_reducible refine eg_not ?_
  | with_reducible refine eg_dnew ?_
  | with_reducible refine eg_dget ?_
  | with_reducible refine eg_dnotin ?_
  | with_reducible refine eg_un ?_
  | with_reducible refine eg_partsNot ?_
  | with_reducible refine eg_partsIx ?_
  | with_reducible refine et_test ?_
  | with_reducible refine et_B ?_
  | with_reducible refine et_not ?_
  | with_reducible refine et_and ?_
  | with_reducible refine et_or ?_
  | with_reducible refine et_yes ?_
  | with_reducible refine ea_nil ?_
  | with_reducible refine ea_cons ?_
  | with_reducible refine el_lst ?_
  | with_reducible refine el_slL ?_
  | with_reducible refine el_op ?_
  | with_reducible refine el_cb ?_
  | with_reducible refine el_lstRev ?_
  | with_reducible refine el_rng ?_
  | with_reducible refine eo_none ?_
  | with_reducible refine eo_some ?_
  | with_reducible refine sr_list ?_
  | with_reducible refine sr_rng ?_
  | with_reducible refine sr_enum ?_
  | with_reducible refine eb_add ?_
  | with_reducible refine eb_sub ?_
  | with_reducible refine eb_fdivL (by decide) (by decide) ?_
  | with_reducible refine eb_mulL (by decide) (by decide) ?_
  | with_reducible refine eb_mulR (by decide) (by decide) ?_
  | with_reducible refine eb_powL (by decide) (by decide) (by decide) ?_
  | with_reducible refine eb_mod (by decide) ?_
  | with_reducible refine eb_lt ?_
  | with_reducible refine eb_le ?_
  | with_reducible refine eb_gt ?_
  | with_reducible refine eb_ge ?_
  | with_reducible refine eb_eqI ?_
  | with_reducible refine eb_neI ?_
  | with_reducible refine eb_eqB ?_)
local macro_rules | `(tactic| walk_at "y1") => `(tactic| first
  | with_reducible refine call_cell ?_
  | with_reducible refine Exists.intro _ (Exists.intro _ (Exists.intro _ (And.intro (Eq.refl [A.raw (V.ref _), A.dat (PyData.int _)]) (And.intro (by assumption) (And.intro (by first | decide | omega) ?_))))))
local macro_rules | `(tactic| walk_at "y") => `(tactic| (repeat' (walk_at "y1")))
local macro_rules | `(tactic| walk_at "yi") => `(tactic| ((repeat' (walk_at "y1")); (with_reducible refine sx_seq ?_); (repeat' (walk_at "y1"))))


/-! ### new_numbers -/
def R_new_numbers (ds : List PyData) (kvs : List (Int × Int)) : Prop := ∃ (f : List Let) (kept : List Int), ds = [dLets f, dI kept] ∧ LetsOk kept.length f ∧ f.length ≤ 1000000 ∧ kvs = freshM kept f
abbrev sp_new_numbers (K : PySem.W.Frag) (C : Er → Addr) : Sp := PrD C R_new_numbers
theorem len_new_numbers {ds : List PyData} {r : List (Int × Int)} (h : R_new_numbers ds r) : ds.length = 2 := by
  obtain ⟨f, x, rfl, _⟩ := h; rfl
theorem wk_new_numbers (K : PySem.W.Frag) (C : Er → Addr) (H : Hp) (ds : List PyData) (kvs : List (Int × Int)) (h : R_new_numbers ds kvs) : SX H (t_new_numbers K) (entry ds 3) [] (HandD kvs) := by
  obtain ⟨f, kept, rfl, hl, hz, rfl⟩ := h
  show SX H (t_new_numbers K) [some (.arg (dLets f)), some (.arg (dI kept)), none, none, none] [] _
  unfold t_new_numbers
  walk_at "y"
  refine sx_forP (xs := f) (it := fun i x => .dat (.tuple [.int (i : Nat), dLet x])) (fun pre δ ω => ∃ a b, δ = [some (.arg (dLets f)), some (.arg (dI kept)), some (.ptr 0), a, b] ∧ ω = [.dic (dkv (freshM kept pre))]) ?_ ?_ ?_
  · walk_at "y"
    refine ⟨_, f.map dLet, rfl, itm_lets f, enA_map _ _, ⟨_, _, rfl, rfl⟩, ?_⟩
    rintro pre δ ω ⟨_, _, rfl, rfl⟩
    exact itm_lets f
  · rintro pre x post δ ω e ⟨a, b, rfl, rfl⟩
    refine ⟨_, gx_tup2, ?_⟩
    obtain ⟨⟨s0, s1⟩, _⟩ := hl x (by rw [e]; simp)
    have hsn := frGo_snoc kept pre x 0 0
    have hfl := frGo_len kept pre 0 0
    have hpl : pre.length < f.length := by rw [e]; simp
    walk_at "y"
    refine eb_ixUT (.dat _) (d := .int (x.p : Nat)) rfl ?_
    walk_at "y"
    refine eb_ixUT (.dat _) (d := .int x.s) rfl ?_
    refine eb_ixUL (itm_aI kept) (at_I s0 (at0_get s0 s1)) ?_
    walk_at "y"
    refine ⟨_, rfl, fun c => ?_, fun c => ?_⟩
    · have hs : sentK kept x = true := c
      rw [if_pos hs, Nat.zero_add, Nat.zero_add] at hsn
      walk_at "y"
      refine ec_lenD rfl ?_
      walk_at "y"
      refine ⟨0, _, (pre.length : Nat), _, rfl, rfl, rfl, rfl, szLt (by rw [List.length_map]; unfold freshM; omega), _, _, rfl, ?_⟩
      have hp := fresh_put kept pre ((dkv (freshM kept pre)).length : Nat)
      show [Ob.dic _] = [Ob.dic _]
      rw [hp, List.length_map, show freshM kept (pre ++ [x]) = _ from hsn]
      simp only [List.map_append]
      rfl
    · have hs : ¬ sentK kept x = true := by rw [show sentK kept x = false from c]; simp
      rw [if_neg hs, List.append_nil] at hsn
      walk_at "y"
      exact ⟨_, _, rfl, by rw [show freshM kept (pre ++ [x]) = _ from hsn]; rfl⟩
  · rintro δ ω ⟨a, b, rfl, rfl⟩
    walk_at "y"
    exact ⟨0, rfl, rfl⟩
section
variable {K : PySem.W.Frag} {C : Er → Addr} {H0 : Hp} {δ : Sl} {ω : Om} {E : XK} {ts : TA} {P : A → Om → Prop}
theorem call_new_numbers {f : List Let} {kept : List Int} (hl : LetsOk kept.length f) (hz : f.length ≤ 1000000) (h : EA H0 ts δ ω fun bs ω1 => RdA ω1 bs [dLets f, dI kept] ∧ P (.ptr ω1.length) (ω1 ++ [.dic (dkv (freshM kept f))])) : EG H0 (tCall (sp_new_numbers K C) [] E ts) δ ω P :=
  eg_callD (EA.imp h fun bs ω1 ⟨a, b⟩ => ⟨_, _, a, ⟨f, kept, rfl, hl, hz, rfl⟩, b⟩)
theorem call_kept_ok {hands : Int} {rows : List Row} {line kept : List Int} (hk : keptM hands rows line = .ok kept) (h : EA H0 ts δ ω fun bs ω1 => RdA ω1 bs [.int hands, dRows rows, dI line] ∧ P (.dat (dI kept)) ω1) : EG H0 (tCall (sp_kept_by K C) [] E ts) δ ω P :=
  call_kept_by (EA.imp h fun bs ω1 ⟨a, b⟩ => ⟨a, fun e he => (by rw [hk] at he; cases he), fun k hk' => (by rw [hk] at hk'; cases hk'; exact b)⟩)
end
/-! ### sound_ends -/
def soundEndsM (hands : Int) (rows : List Row) (line : List Int) : Except Er (List Int) :=
  match keptM hands rows line with
  | .error e => .error e
  | .ok kept => match lettersM hands rows with
    | .error e => .error e
    | .ok f => if straysBy f kept = [] then .ok kept else .error .Unsound
def R_sound_ends (ds : List PyData) (r : Res Er) : Prop := ∃ (hands : Int) (rows : List Row) (line : List Int), ds = [.int hands, dRows rows, dI line] ∧ r = toRes dI (soundEndsM hands rows line)
abbrev sp_sound_ends (K : PySem.W.Frag) (C : Er → Addr) : Sp := Pr C R_sound_ends
theorem len_sound_ends {ds : List PyData} {r : Res Er} (h : R_sound_ends ds r) : ds.length = 3 := by
  obtain ⟨f, x, y, rfl, _⟩ := h; rfl
theorem wk_sound_ends (K : PySem.W.Frag) (C : Er → Addr) (H : Hp) (E : XK) (ds : List PyData) (r : Res Er) (h : R_sound_ends ds r) (hE : ∀ e, r = .er e → ∀ H', Same H H' → E (.ref (C e)) none H') :
    SX H (t_sound_ends K E (sp_kept_by K C) (sp_letters K C) (sp_strays_by K C) (C .Unsound)) (entry ds 1) [] (HandR r) := by
  obtain ⟨hands, rows, line, rfl, rfl⟩ := h
  show SX H (t_sound_ends K E (sp_kept_by K C) (sp_letters K C) (sp_strays_by K C) (C .Unsound)) [some (.dat (.int hands)), some (.arg (dRows rows)), some (.arg (dI line)), none] [] _
  unfold t_sound_ends
  walk_at "y"
  refine call_kept_by (hands := hands) (rows := rows) (line := line) ?_
  walk_at "y"
  refine ⟨.cons (.dat _) (.cons (.arg _) (.cons (.arg _) .nil)), fun e he => hE e (by unfold soundEndsM; rw [he]; rfl), fun k hk => ?_⟩
  obtain ⟨⟨f, hf⟩, _, _, _, hkl⟩ := keptM_ok hk
  have hl : LetsOk k.length f := by rw [hkl]; exact lets_ok hf
  have hfl := letters_size hf
  walk_at "yi"
  refine call_strays_by hl (by omega) ?_
  walk_at "y"
  refine call_letters_ok hf ?_
  walk_at "y"
  refine ⟨.cons (.dat _) (.cons (.arg _) .nil), ?_⟩
  walk_at "y"
  refine ⟨.cons (.dat _) (.cons (.dat _) .nil), ?_⟩
  walk_at "y"
  refine el_dat (el_lst ?_)
  walk_at "y"
  refine ⟨szOk (by decide), [], rfl, ?_⟩
  refine eb_neD (d := dI (straysBy f k)) (e := dI []) (.dat _) (.dat _) (shaped_ints _) (shaped_ints _) ?_
  rw [eqv_dI]
  by_cases hs : straysBy f k = []
  · rw [decide_eq_true hs]
    refine ⟨_, rfl, fun z => (by cases z), fun _ => ?_⟩
    rw [show soundEndsM hands rows line = .ok k by unfold soundEndsM; rw [hk, hf]; simp only; rw [if_pos hs]]
    walk_at "y"
    exact .dat _
  · rw [decide_eq_false hs]
    refine ⟨_, rfl, fun _ => sx_exit (hE _ (by unfold soundEndsM; rw [hk, hf]; simp only; rw [if_neg hs]; rfl)), fun z => (by cases z)⟩
section
variable {K : PySem.W.Frag} {C : Er → Addr} {H0 : Hp} {δ : Sl} {ω : Om} {E : XK} {ts : TA} {P : A → Om → Prop}
theorem call_sound_ends {hands : Int} {rows : List Row} {line : List Int} (h : EA H0 ts δ ω fun bs ω1 => RdA ω1 bs [.int hands, dRows rows, dI line] ∧ (∀ e, soundEndsM hands rows line = .error e → ∀ H', Same H0 H' → E (.ref (C e)) none H') ∧ (∀ k, soundEndsM hands rows line = .ok k → P (.dat (dI k)) ω1)) : EG H0 (tCall (sp_sound_ends K C) [] E ts) δ ω P :=
  eg_call fun σ H vs as S Q q => h σ H vs as S Q fun bs ω' us H' ⟨hr, h1, h2⟩ hl S' => q bs ω' us H' ⟨_, _, hr, ⟨hands, rows, line, rfl, rfl⟩, by
    cases e : soundEndsM hands rows line with
    | ok f => exact h2 f e
    | error e' => exact h1 e' e⟩ hl S'
end
theorem soundEnds_ok {hands : Int} {rows : List Row} {line k : List Int} (h : soundEndsM hands rows line = .ok k) : ∃ f, lettersM hands rows = .ok f ∧ keptM hands rows line = .ok k ∧ straysBy f k = [] ∧ leftM hands rows line = .ok (leftGo k f 0 rows) ∧ againM hands rows line = .ok (againL k f) := by
  unfold soundEndsM at h
  unfold leftM againM
  cases hk : keptM hands rows line with
  | error e => rw [hk] at h; cases h
  | ok k' =>
    rw [hk] at h
    obtain ⟨⟨f, hf⟩, _⟩ := keptM_ok hk
    rw [hf] at h
    simp only at h
    split at h
    · rename_i hs
      cases h
      refine ⟨f, hf, rfl, hs, ?_, ?_⟩ <;> (rw [hf]; simp only; rw [if_pos hs])
    · cases h
theorem soundEnds_bad {hands : Int} {rows : List Row} {line : List Int} {e : Er} (h : soundEndsM hands rows line = .error e) : leftM hands rows line = .error e ∧ againM hands rows line = .error e := by
  unfold soundEndsM at h
  unfold leftM againM
  cases hk : keptM hands rows line with
  | error e' => rw [hk] at h; cases h; exact ⟨rfl, rfl⟩
  | ok k' =>
    rw [hk] at h
    obtain ⟨⟨f, hf⟩, _⟩ := keptM_ok hk
    rw [hf] at h ⊢
    simp only at h ⊢
    split at h
    · cases h
    · rename_i hs
      cases h
      rw [if_neg hs, if_neg hs]
      exact ⟨rfl, rfl⟩
/-! ### left -/
def R_left (ds : List PyData) (r : Res Er) : Prop := ∃ (hands : Int) (rows : List Row) (line : List Int), ds = [.int hands, dRows rows, dI line] ∧ r = toRes dRows (leftM hands rows line)
abbrev sp_left (K : PySem.W.Frag) (C : Er → Addr) : Sp := Pr C R_left
theorem len_left {ds : List PyData} {r : Res Er} (h : R_left ds r) : ds.length = 3 := by
  obtain ⟨f, x, y, rfl, _⟩ := h; rfl
theorem not_stray {f : List Let} {kept : List Int} (h : straysBy f kept = []) {i : Nat} {l : Let} {g : Nat} (hl : f[i]? = some l) (hg : l.g = some g) (hk : (g : Int) < at0 kept l.t) : sentK kept l = true := by
  have hs := idxs_nil.mp h i l hl
  unfold stray at hs
  rw [hg] at hs
  simp only [decide_eq_true hk, Bool.true_and] at hs
  have := of_decide_eq_false hs
  exact decide_eq_true (by omega)
/-- the letter of a got, in the whole history -/
theorem got_in {hands : Int} {rows : List Row} {f : List Let} (hgo : goL hands 0 [] rows = .ok f) {k : Nat} {h x : Int} (hr : rows[k]? = some (.got h x)) : ∃ (l : Nat) (y : Let), x = (l : Int) ∧ f[l]? = some y ∧ y.t = h ∧ y.g = some k := by
  obtain ⟨f1, f2, _, hst, hf2⟩ := goL_at hgo hr
  have hkl := (List.getElem?_eq_some_iff.mp hr).1
  generalize hrow : Row.got h x = r at hst
  cases hst with
  | send => simp at hrow; exact absurd hrow.1 ne_gs
  | note => simp at hrow
  | @got h' l y a1 hy ht hg =>
    simp only [Row.mk.injEq, List.cons.injEq, true_and, and_true] at hrow
    obtain ⟨rfl, rfl⟩ := hrow
    have hl := (List.getElem?_eq_some_iff.mp hy).1
    have e2 : rows = rows.take (k + 1) ++ rows.drop (k + 1) := (List.take_append_drop _ _).symm
    rw [e2] at hgo
    obtain ⟨f3, h5, h6⟩ := goL_split hgo
    rw [hf2] at h5
    cases h5
    exact ⟨l, _, rfl, goL_keep (g := k) h6 (List.getElem?_set_self hl) rfl, ht, rfl⟩
theorem wk_left (K : PySem.W.Frag) (C : Er → Addr) (H : Hp) (E : XK) (ds : List PyData) (r : Res Er) (h : R_left ds r) (hE : ∀ e, r = .er e → ∀ H', Same H H' → E (.ref (C e)) none H') :
    SX H (t_left K E (sp_sound_ends K C) (sp_letters K C) (sp_new_numbers K C)) (entry ds 5) [] (HandR r) := by
  obtain ⟨hands, rows, line, rfl, rfl⟩ := h
  show SX H (t_left K E (sp_sound_ends K C) (sp_letters K C) (sp_new_numbers K C)) [some (.dat (.int hands)), some (.arg (dRows rows)), some (.arg (dI line)), none, none, none, none, none] [] _
  unfold t_left
  walk_at "y"
  refine call_sound_ends (hands := hands) (rows := rows) (line := line) ?_
  walk_at "y"
  refine ⟨.cons (.dat _) (.cons (.arg _) (.cons (.arg _) .nil)), fun e he => hE e (by rw [(soundEnds_bad he).1]; rfl), fun k hk => ?_⟩
  obtain ⟨f, hf, hkk, hs, hL, _⟩ := soundEnds_ok hk
  obtain ⟨_, _, _, _, hkl⟩ := keptM_ok hkk
  obtain ⟨h1, h2, h3, hgo⟩ := lettersM_ok hf
  have hl : LetsOk k.length f := by rw [hkl]; exact lets_ok hf
  have hfl := letters_size hf
  rw [hL]
  walk_at "y"
  refine call_new_numbers hl (by omega) ?_
  walk_at "y"
  refine call_letters_ok hf ?_
  walk_at "y"
  refine ⟨.cons (.dat _) (.cons (.arg _) .nil), ?_⟩
  walk_at "y"
  refine ⟨.cons (.dat _) (.cons (.dat _) .nil), ?_⟩
  walk_at "y"
  refine el_own (el_lst ?_)
  walk_at "y"
  refine ⟨szOk (by decide), ?_⟩
  walk_at "y"
  refine sx_forP (xs := rows) (it := fun i x => .dat (.tuple [.int (i : Nat), dRow x])) (fun pre δ ω => ∃ a b, δ = [some (.dat (.int hands)), some (.arg (dRows rows)), some (.arg (dI line)), some (.dat (dI k)), some (.ptr 0), some (.ptr 1), a, b] ∧ ω = [.dic (dkv (freshM k f)), lRows (leftGo k f 0 pre)]) ?_ ?_ ?_
  · walk_at "y"
    refine ⟨_, rows.map dRow, rfl, .argT _ (noLA_rows rows), enA_map _ _, ⟨_, _, rfl, rfl⟩, ?_⟩
    rintro pre δ ω ⟨_, _, rfl, rfl⟩
    exact .argT _ (noLA_rows rows)
  · rintro pre x post δ ω e ⟨a, b, rfl, rfl⟩
    refine ⟨_, gx_tup2, ?_⟩
    have hx := mid_get e
    have hpl : pre.length < rows.length := by rw [e]; simp
    have hll := leftGo_len k f pre 0
    rw [leftGo_snoc]
    obtain ⟨f1, f2, _, hst, _⟩ := goL_at hgo hx
    cases hst with
    | @send h t a1 a2 =>
      walk_at "y"
      refine eb_ixUT (.dat _) (d := .int h) (at_ns (ns := [h, t]) (j := 0) rfl) ?_
      refine eb_ixUL (itm_dI k) (at_I a1.1 (at0_get a1.1 (by omega))) ?_
      walk_at "y"
      refine ⟨_, rfl, fun c => ?_, fun c => ?_⟩
      · have c : ((pre.length : Nat) : Int) < at0 k (handOf (.send h t)) := of_decide_eq_true c
        rw [if_pos c]
        walk_at "yi"
        refine eb_ixUT (.dat _) (d := .str wSend) at_cons ?_
        walk_at "y"
        refine eb_eqS shw_send shw_got ?_
        refine ⟨_, rfl, fun z => absurd (of_decide_eq_true z) ne_sg, fun _ => ?_⟩
        walk_at "y"
        refine ⟨1, _, rfl, rfl, ?_⟩
        walk_at "y"
        refine ⟨_, _, rfl, rfl, szLt (by rw [List.length_map]; omega), _, _, rfl, ?_⟩
        refine congrArg (fun o => [Ob.dic (dkv (freshM k f)), o]) ?_
        have := Option.some.inj (lRows_snoc (leftGo k f 0 pre) (anew k f (.send h t)) (dRow (.send h t)) (by rw [anew_send]))
        exact this
      · have c : ¬ ((pre.length : Nat) : Int) < at0 k (handOf (.send h t)) := of_decide_eq_false c
        rw [if_neg c, List.append_nil]
        walk_at "y"
        exact ⟨_, _, rfl, rfl⟩
    | @note h a1 =>
      walk_at "y"
      refine eb_ixUT (.dat _) (d := .int h) (at_ns (ns := [h]) (j := 0) rfl) ?_
      refine eb_ixUL (itm_dI k) (at_I a1.1 (at0_get a1.1 (by omega))) ?_
      walk_at "y"
      refine ⟨_, rfl, fun c => ?_, fun c => ?_⟩
      · have c : ((pre.length : Nat) : Int) < at0 k (handOf (.note h)) := of_decide_eq_true c
        rw [if_pos c]
        walk_at "yi"
        refine eb_ixUT (.dat _) (d := .str wNote) at_cons ?_
        walk_at "y"
        refine eb_eqS shw_note shw_got ?_
        refine ⟨_, rfl, fun z => absurd (of_decide_eq_true z) ne_ng, fun _ => ?_⟩
        walk_at "y"
        refine ⟨1, _, rfl, rfl, ?_⟩
        walk_at "y"
        refine ⟨_, _, rfl, rfl, szLt (by rw [List.length_map]; omega), _, _, rfl, ?_⟩
        refine congrArg (fun o => [Ob.dic (dkv (freshM k f)), o]) ?_
        exact Option.some.inj (lRows_snoc (leftGo k f 0 pre) (anew k f (.note h)) (dRow (.note h)) (by rw [anew_note]))
      · have c : ¬ ((pre.length : Nat) : Int) < at0 k (handOf (.note h)) := of_decide_eq_false c
        rw [if_neg c, List.append_nil]
        walk_at "y"
        exact ⟨_, _, rfl, rfl⟩
    | @got h l y a1 hy ht hg =>
      obtain ⟨l', y', e1, hy', ht', hg'⟩ := got_in hgo hx
      have e1 : l = l' := by omega
      subst e1
      walk_at "y"
      refine eb_ixUT (.dat _) (d := .int h) (at_ns (ns := [h, (l : Int)]) (j := 0) rfl) ?_
      refine eb_ixUL (itm_dI k) (at_I a1.1 (at0_get a1.1 (by omega))) ?_
      walk_at "y"
      refine ⟨_, rfl, fun c => ?_, fun c => ?_⟩
      · have c : ((pre.length : Nat) : Int) < at0 k (handOf (.got h l)) := of_decide_eq_true c
        rw [if_pos c]
        have hsent := not_stray hs hy' hg' (by rw [ht']; exact c)
        have hval := fresh_val k f 0 0 l y' hy' hsent
        rw [Nat.zero_add, Nat.zero_add] at hval
        walk_at "yi"
        refine eb_ixUT (.dat _) (d := .str wGot) at_cons ?_
        walk_at "y"
        refine eb_eqS shw_got shw_got ?_
        refine ⟨_, rfl, fun _ => ?_, fun z => absurd rfl (of_decide_eq_false z)⟩
        walk_at "y"
        refine eb_ixUT (.dat _) (d := .int h) (at_ns (ns := [h, (l : Int)]) (j := 0) rfl) ?_
        walk_at "y"
        refine eb_ixUT (.dat _) (d := .int (l : Int)) (at_ns (ns := [h, (l : Int)]) (j := 1) rfl) ?_
        refine ⟨0, _, (l : Int), ((rank k f l : Nat) : Int), rfl, rfl, rfl, hval, ?_⟩
        walk_at "y"
        refine ⟨[.str wGot, .int h, .int ((rank k f l : Nat) : Int)], rfl, szOk (show 3 ≤ 16777216 by decide), ?_⟩
        walk_at "y"
        refine ⟨1, _, rfl, rfl, ?_⟩
        walk_at "y"
        refine ⟨_, _, rfl, rfl, szLt (by rw [List.length_map]; omega), _, _, rfl, ?_⟩
        refine congrArg (fun o => [Ob.dic (dkv (freshM k f)), o]) ?_
        exact Option.some.inj (lRows_snoc (leftGo k f 0 pre) (anew k f (.got h l)) (.tuple [.str wGot, .int h, .int ((rank k f l : Nat) : Int)]) (by rw [anew_got]; simp [dRow]))
      · have c : ¬ ((pre.length : Nat) : Int) < at0 k (handOf (.got h l)) := of_decide_eq_false c
        rw [if_neg c, List.append_nil]
        walk_at "y"
        exact ⟨_, _, rfl, rfl⟩
  · rintro δ ω ⟨a, b, rfl, rfl⟩
    walk_at "y"
    exact fin_rows rfl
end Y

namespace Y
open PySem PySem.Spec L2
local macro_rules | `(tactic| walk_at "y1") => `(tactic| first
  | (fail_if_success (with_reducible show SX _ (tSeq (tIfS _ _ _) _) _ _ _)); (with_reducible refine sx_seq ?_)
  | with_reducible refine sx_asg ?_
  | with_reducible refine sx_if ?_
  | with_reducible refine sx_ret ?_
  | with_reducible refine sx_retN ?_
  | with_reducible refine sx_next ?_
  | with_reducible refine sx_app ?_
  | with_reducible refine sx_clear ?_
  | with_reducible refine sx_setL ?_
  | with_reducible refine sx_dput ?_
  | with_reducible refine sx_drop ?_
  | with_reducible refine eg_var (by with_unfolding_all rfl) ?_
  | with_reducible refine eg_int ?_
  | with_reducible refine eg_bl ?_
  | with_reducible refine eg_str ?_
  | with_reducible refine eg_non ?_
  | with_reducible refine eg_raw ?_
  | with_reducible refine eg_op ?_
  | with_reducible refine eg_cb ?_
  | with_reducible refine eg_tup ?_
  | with_reducible refine eg_isN ?_
  | with_reducible refine eg_notN ?_
  | with_reducible refine eg_and ?_
  | with_reducible refine eg_or ?_
  | with_reducible refine eg_not ?_
  | with_reducible refine eg_dnew ?_
  | with_reducible refine eg_dget ?_
  | with_reducible refine eg_dnotin ?_
  | with_reducible refine eg_un ?_
  | with_reducible refine eg_partsNot ?_
  | with_reducible refine eg_partsIx ?_
  | with_reducible refine et_test ?_
  | with_reducible refine et_B ?_
  | with_reducible refine et_not ?_
  | with_reducible refine et_and ?_
  | with_reducible refine et_or ?_
  | with_reducible refine et_yes ?_
  | with_reducible refine ea_nil ?_
  | with_reducible refine ea_cons ?_
  | with_reducible refine el_lst ?_
  | with_reducible refine el_slL ?_
  | with_reducible refine el_op ?_
  | with_reducible refine el_cb ?_
  | with_reducible refine el_lstRev ?_
  | with_reducible refine el_rng ?_
  | with_reducible refine eo_none ?_
  | with_reducible refine eo_some ?_
  | with_reducible refine sr_list ?_
  | with_reducible refine sr_rng ?_
  | with_reducible refine sr_enum ?_
  | with_reducible refine eb_add ?_
  | with_reducible refine eb_sub ?_
  | with_reducible refine eb_fdivL (by decide) (by decide) ?_
  | with_reducible refine eb_mulL (by decide) (by decide) ?_
  | with_reducible refine eb_mulR (by decide) (by decide) ?_
  | with_reducible refine eb_powL (by decide) (by decide) (by decide) ?_
  | with_reducible refine eb_mod (by decide) ?_
  | with_reducible refine eb_lt ?_
  | with_reducible refine eb_le ?_
  | with_reducible refine eb_gt ?_
  | with_reducible refine eb_ge ?_
  | with_reducible refine eb_eqI ?_
  | with_reducible refine eb_neI ?_
  | with_reducible refine eb_eqB ?_)
local macro_rules | `(tactic| walk_at "y1") => `(tactic| first
  | with_reducible refine call_cell ?_
  | with_reducible refine Exists.intro _ (Exists.intro _ (Exists.intro _ (And.intro (Eq.refl [A.raw (V.ref _), A.dat (PyData.int _)]) (And.intro (by assumption) (And.intro (by first | decide | omega) ?_))))))
local macro_rules | `(tactic| walk_at "y") => `(tactic| (repeat' (walk_at "y1")))
local macro_rules | `(tactic| walk_at "yi") => `(tactic| ((repeat' (walk_at "y1")); (with_reducible refine sx_seq ?_); (repeat' (walk_at "y1"))))


theorem frGo_at (kept : List Int) : ∀ (f : List Let) (k c : Nat) (e : Int × Int), e ∈ frGo kept k c f → ∃ (i : Nat) (l : Let), e = (((k + i : Nat) : Int), ((c + rank kept f i : Nat) : Int)) ∧ f[i]? = some l ∧ sentK kept l = true
  | [], k, c, e, h => by simp [frGo] at h
  | x :: f, k, c, e, h => by
    simp only [frGo] at h
    by_cases hx : sentK kept x = true
    · rw [if_pos hx] at h
      rcases List.mem_cons.mp h with rfl | h
      · exact ⟨0, x, by rw [rank_zero]; rfl, rfl, hx⟩
      · obtain ⟨i, l, rfl, h1, h2⟩ := frGo_at kept f _ _ e h
        refine ⟨i + 1, l, ?_, by simpa using h1, h2⟩
        rw [rank_cons, if_pos hx, show k + 1 + i = k + (i + 1) by omega, show c + 1 + rank kept f i = c + (1 + rank kept f i) by omega]
    · rw [if_neg hx] at h
      obtain ⟨i, l, rfl, h1, h2⟩ := frGo_at kept f _ _ e h
      refine ⟨i + 1, l, ?_, by simpa using h1, h2⟩
      rw [rank_cons, if_neg hx, Nat.zero_add, show k + 1 + i = k + (i + 1) by omega]
/-! ### again -/
def R_again (ds : List PyData) (r : Res Er) : Prop := ∃ (hands : Int) (rows : List Row) (line : List Int), ds = [.int hands, dRows rows, dI line] ∧ r = toRes dI (againM hands rows line)
abbrev sp_again (K : PySem.W.Frag) (C : Er → Addr) : Sp := Pr C R_again
theorem len_again {ds : List PyData} {r : Res Er} (h : R_again ds r) : ds.length = 3 := by
  obtain ⟨f, x, y, rfl, _⟩ := h; rfl
theorem wk_again (K : PySem.W.Frag) (C : Er → Addr) (H : Hp) (E : XK) (ds : List PyData) (r : Res Er) (h : R_again ds r) (hE : ∀ e, r = .er e → ∀ H', Same H H' → E (.ref (C e)) none H') :
    SX H (t_again K E (sp_sound_ends K C) (sp_letters K C) (sp_new_numbers K C) (sp_is_under_way K C)) (entry ds 4) [] (HandR r) := by
  obtain ⟨hands, rows, line, rfl, rfl⟩ := h
  show SX H (t_again K E (sp_sound_ends K C) (sp_letters K C) (sp_new_numbers K C) (sp_is_under_way K C)) [some (.dat (.int hands)), some (.arg (dRows rows)), some (.arg (dI line)), none, none, none, none] [] _
  unfold t_again
  walk_at "y"
  refine call_sound_ends (hands := hands) (rows := rows) (line := line) ?_
  walk_at "y"
  refine ⟨.cons (.dat _) (.cons (.arg _) (.cons (.arg _) .nil)), fun e he => hE e (by rw [(soundEnds_bad he).2]; rfl), fun k hk => ?_⟩
  obtain ⟨f, hf, hkk, hs, _, hL⟩ := soundEnds_ok hk
  obtain ⟨_, _, _, _, hkl⟩ := keptM_ok hkk
  have hl : LetsOk k.length f := by rw [hkl]; exact lets_ok hf
  have hfl := letters_size hf
  have hfr := frGo_len k f 0 0
  rw [hL]
  walk_at "y"
  refine call_letters_ok hf ?_
  walk_at "y"
  refine ⟨.cons (.dat _) (.cons (.arg _) .nil), ?_⟩
  walk_at "y"
  refine call_new_numbers hl (by omega) ?_
  walk_at "y"
  refine ⟨.cons (.dat _) (.cons (.dat _) .nil), ?_⟩
  walk_at "y"
  refine el_dat (el_lcL (freshM k f) (fun e => .dat (.int e.1)) (by unfold freshM; omega) (fun e => underWay k (f.getD e.1.toNat ⟨0, 0, 0, none⟩)) (fun e => .int e.2) ?_ ?_ ?_)
  · walk_at "y"
    refine ec_dat (ecl_listD rfl ?_)
    refine ⟨(freshM k f).map fun e => .int e.1, by rw [List.map_map]; rfl, rfl, ?_, fun acc => ?_⟩
    · have := Itm.dat (K := K) (H0 := H) (ω := ([] : Om) ++ [.dic (dkv (freshM k f))]) ((freshM k f).map fun e => PyData.int e.1)
      rw [List.map_map] at this
      exact this
    · have := Itm.dat (K := K) (H0 := H) (ω := (([] : Om) ++ [.dic (dkv (freshM k f))]) ++ [.lst acc]) ((freshM k f).map fun e => PyData.int e.1)
      rw [List.map_map] at this
      exact this
  · rintro e he ω' ⟨acc, rfl⟩
    obtain ⟨i, l, rfl, hi, hsent⟩ := frGo_at k f 0 0 e he
    simp only [Nat.zero_add]
    have hval := fresh_val k f 0 0 i l hi hsent
    rw [Nat.zero_add, Nat.zero_add] at hval
    have hlD : f.getD (((i : Nat) : Int)).toNat ⟨0, 0, 0, none⟩ = l := by rw [Int.toNat_natCast, List.getD_eq_getElem?_getD, hi]; rfl
    rw [hlD]
    refine ⟨?_, fun _ => ?_⟩
    · walk_at "y"
      refine call_is_under_way (hl.one hi) ?_
      walk_at "y"
      refine eb_ixUL (.dat _) (c := .dat (dLet l)) (at_nat (Int.natCast_nonneg _) (by rw [Int.toNat_natCast, List.getElem?_map, List.getElem?_map, hi]; rfl)) ?_
      walk_at "y"
      exact ⟨.cons (.dat _) (.cons (.dat _) .nil), _, rfl, rfl, rfl⟩
    · walk_at "y"
      exact ⟨0, _, ((i : Nat) : Int), ((rank k f i : Nat) : Int), rfl, rfl, rfl, hval, rfl, rfl⟩
  · refine ⟨_, rfl, ?_⟩
    show Fin _ _ (dI (againL k f))
    unfold againL
    rw [dI, List.map_map]
    exact .dat _
/-! ### lost -/
def R_lost (ds : List PyData) (r : Res Er) : Prop := ∃ (hands : Int) (rows : List Row) (line : List Int), ds = [.int hands, dRows rows, dI line] ∧ r = toRes dI (lostM hands rows line)
abbrev sp_lost (K : PySem.W.Frag) (C : Er → Addr) : Sp := Pr C R_lost
theorem len_lost {ds : List PyData} {r : Res Er} (h : R_lost ds r) : ds.length = 3 := by
  obtain ⟨f, x, y, rfl, _⟩ := h; rfl
theorem lostGo_snoc (kept : List Int) (a : List Row) (r : Row) (acc : List Int) : lostGo kept 0 (a ++ [r]) acc = (if at0 kept (handOf r) ≤ ((a.length : Nat) : Int) then (lostGo kept 0 a acc).set (handOf r).toNat (at0 (lostGo kept 0 a acc) (handOf r) + 1) else lostGo kept 0 a acc) := by
  rw [lostGo_append, Nat.zero_add]
  rfl
/-- what a good row's second part is -/
theorem row_hand {hands : Int} {rows : List Row} {f : List Let} (hgo : goL hands 0 [] rows = .ok f) {k : Nat} {r : Row} (hr : rows[k]? = some r) : (0 ≤ handOf r ∧ handOf r < hands) ∧ ∃ (w : Str) (ms : List Int), r = .mk w (handOf r :: ms) := by
  obtain ⟨f1, f2, _, hst, _⟩ := goL_at hgo hr
  cases hst with
  | send a b => exact ⟨a, _, _, rfl⟩
  | got a => exact ⟨a, _, _, rfl⟩
  | note a => exact ⟨a, _, _, rfl⟩
theorem at_hand {r : Row} {w : Str} {ms : List Int} (e : r = .mk w (handOf r :: ms)) : ∃ ds, dRow r = .tuple ds ∧ atI ds 1 = some (.int (handOf r)) := by
  generalize handOf r = h at e
  subst e
  exact ⟨_, rfl, at_ns (ns := h :: ms) (j := 0) rfl⟩
theorem wk_lost (K : PySem.W.Frag) (C : Er → Addr) (H : Hp) (E : XK) (ds : List PyData) (r : Res Er) (h : R_lost ds r) (hE : ∀ e, r = .er e → ∀ H', Same H H' → E (.ref (C e)) none H') :
    SX H (t_lost K E (sp_kept_by K C)) (entry ds 5) [] (HandR r) := by
  obtain ⟨hands, rows, line, rfl, rfl⟩ := h
  show SX H (t_lost K E (sp_kept_by K C)) [some (.dat (.int hands)), some (.arg (dRows rows)), some (.arg (dI line)), none, none, none, none, none] [] _
  unfold t_lost
  walk_at "y"
  refine call_kept_by (hands := hands) (rows := rows) (line := line) ?_
  walk_at "y"
  refine ⟨.cons (.dat _) (.cons (.arg _) (.cons (.arg _) .nil)), fun e he => hE e (by unfold lostM; rw [he]; rfl), fun k hk => ?_⟩
  obtain ⟨⟨f, hf⟩, _, _, _, hkl⟩ := keptM_ok hk
  obtain ⟨h1, h2, h3, hgo⟩ := lettersM_ok hf
  obtain ⟨n, rfl⟩ : ∃ n : Nat, hands = (n : Int) := ⟨hands.toNat, by omega⟩
  rw [show lostM n rows line = .ok (lostGo k 0 rows (zeros n)) by unfold lostM; rw [hk]; rfl]
  walk_at "y"
  refine el_own (el_lcR (n := n) (by omega) (fun _ => true) (fun _ => .int 0) ?_ ?_ ?_)
  · walk_at "y"
    exact ⟨rfl, rfl⟩
  · rintro i hi ω' ⟨acc, rfl⟩
    refine ⟨?_, fun _ => ?_⟩
    · walk_at "y"
      exact ⟨rfl, rfl⟩
    · walk_at "y"
      exact ⟨rfl, rfl⟩
  rw [filter_yes]
  have hz : ((List.range n).map (fun _ : Nat => PyData.int 0)).map A.dat = (zeros n).map fun n => A.dat (.int n) := by
    unfold zeros
    rw [List.map_map, List.map_replicate]
    apply List.ext_getElem?
    intro i
    rw [List.getElem?_map, List.getElem?_replicate]
    by_cases h : i < n
    · rw [List.getElem?_range h, if_pos h]; rfl
    · rw [List.getElem?_eq_none (by simpa using h), if_neg h]; rfl
  rw [hz]
  walk_at "y"
  refine sx_forP (xs := rows) (it := fun i x => .dat (.tuple [.int (i : Nat), dRow x])) (fun pre δ ω => ∃ a b, δ = [some (.dat (.int n)), some (.arg (dRows rows)), some (.arg (dI line)), some (.dat (dI k)), some (.ptr 0), a, b, none] ∧ ω = [oI (lostGo k 0 pre (zeros n))]) ?_ ?_ ?_
  · walk_at "y"
    refine ⟨_, rows.map dRow, rfl, .argT _ (noLA_rows rows), enA_map _ _, ⟨_, _, rfl, rfl⟩, ?_⟩
    rintro pre δ ω ⟨_, _, rfl, rfl⟩
    exact .argT _ (noLA_rows rows)
  · rintro pre x post δ ω e ⟨a, b, rfl, rfl⟩
    refine ⟨_, gx_tup2, ?_⟩
    have hx := mid_get e
    obtain ⟨⟨a0, a1⟩, w, ms, hrow⟩ := row_hand hgo hx
    obtain ⟨cs, hc1, hc2⟩ := at_hand hrow
    have hlen : (lostGo k 0 pre (zeros n)).length = n := by rw [lostGo_len]; simp [zeros]
    rw [lostGo_snoc, hc1]
    generalize lostGo k 0 pre (zeros n) = acc at hlen
    generalize handOf x = h at a0 a1 hc2
    walk_at "y"
    refine eb_ixUT (.dat _) hc2 ?_
    refine eb_ixUL (itm_dI k) (at_I a0 (at0_get a0 (by rw [hkl]; omega))) ?_
    walk_at "y"
    refine ⟨_, rfl, fun c => ?_, fun c => ?_⟩
    · have c := of_decide_eq_true c
      rw [if_pos c]
      walk_at "y"
      refine eb_ixUT (.dat _) hc2 ?_
      refine eb_ixUL (.ptr rfl) (at_I a0 (at0_get a0 (by rw [hlen]; exact a1))) ?_
      walk_at "y"
      refine eb_ixUT (.dat _) hc2 ?_
      refine ⟨0, h, h.toNat, _, rfl, rfl, rfl, ?_, ?_⟩
      · unfold ixN
        rw [List.length_map, if_pos a0, if_pos (by omega)]
      · refine ⟨_, _, rfl, ?_⟩
        have : (acc.map fun n => A.dat (.int n)).set h.toNat (.dat (.int (at0 acc h + 1))) = (acc.set h.toNat (at0 acc h + 1)).map fun n => A.dat (.int n) := by rw [List.map_set]
        exact congrArg (fun o => [Ob.lst o]) this
    · have c := of_decide_eq_false c
      rw [if_neg c]
      walk_at "y"
      exact ⟨_, _, rfl, rfl⟩
  · rintro δ ω ⟨a, b, rfl, rfl⟩
    walk_at "y"
    exact fin_I rfl
section
variable {K : PySem.W.Frag} {C : Er → Addr} {H0 : Hp} {δ : Sl} {ω : Om} {E : XK} {ts : TA} {P : A → Om → Prop}
theorem call_left {hands : Int} {rows : List Row} {line : List Int} (h : EA H0 ts δ ω fun bs ω1 => RdA ω1 bs [.int hands, dRows rows, dI line] ∧ (∀ e, leftM hands rows line = .error e → ∀ H', Same H0 H' → E (.ref (C e)) none H') ∧ (∀ k, leftM hands rows line = .ok k → P (.dat (dRows k)) ω1)) : EG H0 (tCall (sp_left K C) [] E ts) δ ω P :=
  eg_call fun σ H vs as S Q q => h σ H vs as S Q fun bs ω' us H' ⟨hr, h1, h2⟩ hl S' => q bs ω' us H' ⟨_, _, hr, ⟨hands, rows, line, rfl, rfl⟩, by
    cases e : leftM hands rows line with
    | ok f => exact h2 f e
    | error e' => exact h1 e' e⟩ hl S'
theorem call_again {hands : Int} {rows : List Row} {line : List Int} (h : EA H0 ts δ ω fun bs ω1 => RdA ω1 bs [.int hands, dRows rows, dI line] ∧ (∀ e, againM hands rows line = .error e → ∀ H', Same H0 H' → E (.ref (C e)) none H') ∧ (∀ k, againM hands rows line = .ok k → P (.dat (dI k)) ω1)) : EG H0 (tCall (sp_again K C) [] E ts) δ ω P :=
  eg_call fun σ H vs as S Q q => h σ H vs as S Q fun bs ω' us H' ⟨hr, h1, h2⟩ hl S' => q bs ω' us H' ⟨_, _, hr, ⟨hands, rows, line, rfl, rfl⟩, by
    cases e : againM hands rows line with
    | ok f => exact h2 f e
    | error e' => exact h1 e' e⟩ hl S'
theorem call_lost {hands : Int} {rows : List Row} {line : List Int} (h : EA H0 ts δ ω fun bs ω1 => RdA ω1 bs [.int hands, dRows rows, dI line] ∧ (∀ e, lostM hands rows line = .error e → ∀ H', Same H0 H' → E (.ref (C e)) none H') ∧ (∀ k, lostM hands rows line = .ok k → P (.dat (dI k)) ω1)) : EG H0 (tCall (sp_lost K C) [] E ts) δ ω P :=
  eg_call fun σ H vs as S Q q => h σ H vs as S Q fun bs ω' us H' ⟨hr, h1, h2⟩ hl S' => q bs ω' us H' ⟨_, _, hr, ⟨hands, rows, line, rfl, rfl⟩, by
    cases e : lostM hands rows line with
    | ok f => exact h2 f e
    | error e' => exact h1 e' e⟩ hl S'
end
end Y

/-! Mq: what is left, sent again and lost: plain Lean. -/
namespace Y
open PySem PySem.Spec L2

theorem sum_set : ∀ (acc : List Int) (i : Nat) (o n : Int), acc[i]? = some o → (acc.set i n).sum = acc.sum - o + n
  | [], i, o, n, h => by simp at h
  | x :: acc, 0, o, n, h => by
    have : x = o := by simpa using h
    subst this
    simp only [List.set_cons_zero, List.sum_cons]
    omega
  | x :: acc, i + 1, o, n, h => by
    have := sum_set acc i o n (by simpa using h)
    simp only [List.set_cons_succ, List.sum_cons, this]
    omega
theorem sum_zeros (n : Nat) : (zeros n).sum = 0 := by
  unfold zeros
  induction n with
  | zero => rfl
  | succ n ih => rw [List.replicate_succ, List.sum_cons, ih]; rfl
/-- rows snoc by snoc -/
theorem take_snoc2 {α : Type} {xs : List α} {k : Nat} {x : α} (h : xs[k]? = some x) : xs.take (k + 1) = xs.take k ++ [x] := by rw [List.take_add_one, h]; rfl
theorem lost_sum {hands : Int} {rows : List Row} {f : List Let} (hgo : goL hands 0 [] rows = .ok f) (kept : List Int) (f' : List Let) : ∀ k, k ≤ rows.length → (lostGo kept 0 (rows.take k) (zeros hands.toNat)).sum + ((leftGo kept f' 0 (rows.take k)).length : Int) = (k : Int)
  | 0, _ => by simp [lostGo, leftGo, sum_zeros]
  | k + 1, hk => by
    have ih := lost_sum hgo kept f' k (by omega)
    obtain ⟨r, hr⟩ : ∃ r, rows[k]? = some r := ⟨_, List.getElem?_eq_getElem (by omega)⟩
    obtain ⟨⟨a0, a1⟩, _⟩ := row_hand hgo hr
    have hl : (rows.take k).length = k := by rw [List.length_take]; omega
    rw [take_snoc2 hr, lostGo_snoc, leftGo_snoc, hl]
    have hlen : (lostGo kept 0 (rows.take k) (zeros hands.toNat)).length = hands.toNat := by rw [lostGo_len]; simp [zeros]
    by_cases c : ((k : Nat) : Int) < at0 kept (handOf r)
    · rw [if_neg (by omega), if_pos c, List.length_append, List.length_singleton]
      omega
    · rw [if_pos (by omega), if_neg c, List.append_nil, sum_set _ _ _ _ (at0_get a0 (by rw [hlen]; omega))]
      omega
def isSend : Row → Bool
  | .emp => false
  | .mk w _ => decide (w = wSend)
def isGot : Row → Bool
  | .emp => false
  | .mk w _ => decide (w = wGot)
def third : Row → Int
  | .emp => 0
  | .mk _ ns => ns.getD 1 0
theorem isSend_anew (kept : List Int) (f : List Let) (r : Row) : isSend (anew kept f r) = isSend r := by
  cases r with
  | emp => rfl
  | mk w ns =>
    show isSend (if w = wGot then Row.got (ns.getD 0 0) ((rank kept f (ns.getD 1 0).toNat : Nat) : Int) else .mk w ns) = decide (w = wSend)
    by_cases h : w = wGot
    · subst h
      rw [if_pos rfl]
      rfl
    · rw [if_neg h]
      rfl
theorem len_anew (kept : List Int) (f : List Let) (r : Row) : ([anew kept f r].filter isSend).length = if isSend r = true then 1 else 0 := by
  rw [List.filter_cons, isSend_anew]
  split <;> rfl
theorem isSend_s (h t : Int) : isSend (.send h t) = true := (show decide (wSend = wSend) = true from decide_eq_true rfl)
theorem isSend_g (h t : Int) : isSend (.got h t) = false := (show decide (wGot = wSend) = false from decide_eq_false ne_gs)
theorem isSend_n (h : Int) : isSend (.note h) = false := (show decide (wNote = wSend) = false from decide_eq_false ne_ns)
theorem frGo_set (kept : List Int) : ∀ (f : List Let) (l : Nat) (y y' : Let) (k c : Nat), f[l]? = some y → y'.s = y.s → y'.p = y.p → frGo kept k c (f.set l y') = frGo kept k c f
  | [], l, y, y', k, c, h, _, _ => by simp at h
  | x :: f, 0, y, y', k, c, h, h1, h2 => by
    have : x = y := by simpa using h
    subst this
    have e : sentK kept y' = sentK kept x := by unfold sentK; rw [h1, h2]
    simp only [List.set_cons_zero, frGo, e]
  | x :: f, l + 1, y, y', k, c, h, h1, h2 => by
    have h : f[l]? = some y := by simpa using h
    simp only [List.set_cons_succ, frGo, frGo_set kept f l y y' _ _ h h1 h2]
/-- the sends that are left are the letters whose sends are kept -/
theorem left_sends {hands : Int} {rows : List Row} {f : List Let} (hgo : goL hands 0 [] rows = .ok f) (kept : List Int) (f' : List Let) : ∀ k f1, k ≤ rows.length → goL hands 0 [] (rows.take k) = .ok f1 → ((leftGo kept f' 0 (rows.take k)).filter isSend).length = (freshM kept f1).length
  | 0, f1, _, h => by
    simp only [List.take_zero, goL] at h
    cases h
    simp [leftGo, freshM, frGo]
  | k + 1, f2, hk, h => by
    obtain ⟨r, hr⟩ : ∃ r, rows[k]? = some r := ⟨_, List.getElem?_eq_getElem (by omega)⟩
    obtain ⟨f1, f2', h1, hst, h2⟩ := goL_at hgo hr
    rw [h2] at h
    cases h
    have ih := left_sends hgo kept f' k f1 (by omega) h1
    have hl : (rows.take k).length = k := by rw [List.length_take]; omega
    rw [take_snoc2 hr, leftGo_snoc, hl, List.filter_append, List.length_append, ih]
    cases hst with
    | @send h t a b =>
      have e := frGo_snoc kept f1 ⟨h, t, k, none⟩ 0 0
      rw [show freshM kept (f1 ++ [⟨h, t, k, none⟩]) = _ from e, List.length_append]
      by_cases c : ((k : Nat) : Int) < at0 kept (handOf (.send h t))
      · rw [if_pos c, if_pos (show sentK kept ⟨h, t, k, none⟩ = true from decide_eq_true c)]
        rw [len_anew, isSend_s]
        rfl
      · rw [if_neg c, if_neg (show ¬ sentK kept ⟨h, t, k, none⟩ = true by rw [show sentK kept ⟨h, t, k, none⟩ = false from decide_eq_false c]; simp)]
        simp [freshM]
    | @got h l y a hy ht hg =>
      unfold freshM
      rw [frGo_set kept f1 l y { y with g := some k } 0 0 hy rfl rfl]
      split
      · rw [len_anew, isSend_g]; rfl
      · rfl
    | note a =>
      split
      · rw [len_anew, isSend_n]; rfl
      · rfl
/-- a got's row -/
theorem got_row {hands : Int} {rows : List Row} {f : List Let} (hgo : goL hands 0 [] rows = .ok f) : ∀ k f1, k ≤ rows.length → goL hands 0 [] (rows.take k) = .ok f1 → ∀ (l : Nat) (y : Let) (g : Nat), f1[l]? = some y → y.g = some g → rows[g]? = some (.got y.t (l : Int))
  | 0, f1, _, h, l, y, g, hy, _ => by
    simp only [List.take_zero, goL] at h
    cases h
    simp at hy
  | k + 1, f2, hk, h, l, y, g, hy, hg => by
    obtain ⟨r, hr⟩ : ∃ r, rows[k]? = some r := ⟨_, List.getElem?_eq_getElem (by omega)⟩
    obtain ⟨f1, f2', h1, hst, h2⟩ := goL_at hgo hr
    rw [h2] at h
    cases h
    have ih := got_row hgo k f1 (by omega) h1
    cases hst with
    | @send h' t a b =>
      by_cases c : l < f1.length
      · rw [List.getElem?_append_left c] at hy
        exact ih l y g hy hg
      · rw [List.getElem?_append_right (by omega)] at hy
        have := List.mem_singleton.mp (List.mem_of_getElem? hy)
        rw [this] at hg
        cases hg
    | @got h' l' y' a hy' ht hg' =>
      by_cases c : l' = l
      · subst c
        rw [List.getElem?_set_self (List.getElem?_eq_some_iff.mp hy').1] at hy
        cases hy
        cases hg
        rw [hr, ← ht]
      · rw [List.getElem?_set_ne c] at hy
        exact ih l y g hy hg
    | note a => exact ih l y g hy hg
/-- the rows that are left, by their places -/
theorem mem_left (kept : List Int) (f : List Let) : ∀ (rows : List Row) (k : Nat) (x : Row), x ∈ leftGo kept f k rows ↔ ∃ (i : Nat) (r : Row), rows[i]? = some r ∧ ((k + i : Nat) : Int) < at0 kept (handOf r) ∧ x = anew kept f r
  | [], k, x => by simp [leftGo]
  | r :: rows, k, x => by
    have ih := mem_left kept f rows (k + 1) x
    simp only [leftGo]
    constructor
    · intro h
      by_cases c : (k : Int) < at0 kept (handOf r)
      · rw [if_pos c] at h
        rcases List.mem_cons.mp h with h | h
        · exact ⟨0, r, rfl, c, h⟩
        · obtain ⟨i, r', h1, h2, h3⟩ := ih.mp h
          exact ⟨i + 1, r', by simpa using h1, by rw [show k + (i + 1) = k + 1 + i by omega]; exact h2, h3⟩
      · rw [if_neg c] at h
        obtain ⟨i, r', h1, h2, h3⟩ := ih.mp h
        exact ⟨i + 1, r', by simpa using h1, by rw [show k + (i + 1) = k + 1 + i by omega]; exact h2, h3⟩
    · rintro ⟨i, r', h1, h2, h3⟩
      cases i with
      | zero =>
        have : r = r' := by simpa using h1
        subst this
        rw [if_pos (show (k : Int) < at0 kept (handOf r) from h2), h3]
        exact List.mem_cons_self
      | succ i =>
        have := ih.mpr ⟨i, r', by simpa using h1, by rw [show k + 1 + i = k + (i + 1) by omega]; exact h2, h3⟩
        split
        · exact List.mem_cons_of_mem _ this
        · exact this
def gotsL (left : List Row) : List Int := (left.filter isGot).map third
theorem mem_gots {hands : Int} {rows : List Row} {f : List Let} (hgo : goL hands 0 [] rows = .ok f) (kept : List Int) (x : Int) : x ∈ gotsL (leftGo kept f 0 rows) ↔ ∃ (l g : Nat) (y : Let), f[l]? = some y ∧ y.g = some g ∧ (g : Int) < at0 kept y.t ∧ x = ((rank kept f l : Nat) : Int) := by
  unfold gotsL
  constructor
  · intro h
    obtain ⟨r0, h0, rfl⟩ := List.mem_map.mp h
    obtain ⟨h1, h2⟩ := List.mem_filter.mp h0
    obtain ⟨i, r, hr, hk, rfl⟩ := (mem_left kept f rows 0 r0).mp h1
    rw [Nat.zero_add] at hk
    obtain ⟨f1, f2, _, hst, _⟩ := goL_at hgo hr
    cases hst with
    | send => simp [anew_send, isGot, ne_sg] at h2
    | note => simp [anew_note, isGot, ne_ng] at h2
    | @got h' l y a hy ht hg =>
      obtain ⟨l', y', e1, hy', ht', hg'⟩ := got_in hgo hr
      have e1 : l = l' := by omega
      subst e1
      refine ⟨l, i, y', hy', hg', by rw [ht']; exact hk, ?_⟩
      rw [anew_got]
      rfl
  · rintro ⟨l, g, y, hy, hg, hk, rfl⟩
    have hr := got_row hgo rows.length f (Nat.le_refl _) (by rw [List.take_length]; exact hgo) l y g hy hg
    refine List.mem_map.mpr ⟨.got y.t ((rank kept f l : Nat) : Int), List.mem_filter.mpr ⟨(mem_left kept f rows 0 _).mpr ⟨g, _, hr, by rw [Nat.zero_add]; exact hk, by rw [anew_got]⟩, by simp [isGot]⟩, rfl⟩
theorem rank_lt {kept : List Int} {f : List Let} {i j : Nat} {l : Let} (hl : f[i]? = some l) (hs : sentK kept l = true) (hij : i < j) : rank kept f i < rank kept f j := by
  unfold rank
  have e1 : f.take (i + 1) = f.take i ++ [l] := take_snoc2 hl
  have e2 : f.take j = f.take (i + 1) ++ (f.drop (i + 1)).take (j - (i + 1)) := by
    rw [← List.take_add, show i + 1 + (j - (i + 1)) = j by omega]
  rw [e2, e1, List.filter_append, List.filter_append, List.length_append, List.length_append, List.filter_cons, if_pos hs]
  simp only [List.filter_nil, List.length_singleton]
  omega
theorem fr_snd (kept : List Int) : ∀ (f : List Let) (k c : Nat), (frGo kept k c f).map (fun e => e.2) = (List.range' c (frGo kept k c f).length).map fun i : Nat => (i : Int)
  | [], k, c => rfl
  | x :: f, k, c => by
    simp only [frGo]
    split
    · rw [List.map_cons, List.length_cons, List.range'_succ, List.map_cons, fr_snd kept f]
    · exact fr_snd kept f _ _
theorem again_due {hands : Int} {rows : List Row} {f : List Let} (hgo : goL hands 0 [] rows = .ok f) {kept : List Int} (hs : straysBy f kept = []) :
    ((List.range (freshM kept f).length).filter fun k : Nat => !decide ((k : Int) ∈ gotsL (leftGo kept f 0 rows))).map (fun k : Nat => (k : Int)) = againL kept f := by
  have e1 : (freshM kept f).map (fun e => e.2) = (List.range (freshM kept f).length).map fun i : Nat => (i : Int) := by
    rw [List.range_eq_range']
    exact fr_snd kept f 0 0
  have e2 : ((List.range (freshM kept f).length).filter fun k : Nat => !decide ((k : Int) ∈ gotsL (leftGo kept f 0 rows))).map (fun k : Nat => (k : Int)) = ((List.range (freshM kept f).length).map fun i : Nat => (i : Int)).filter fun k => !decide (k ∈ gotsL (leftGo kept f 0 rows)) := by
    rw [List.filter_map]
    rfl
  rw [e2, ← e1, List.filter_map]
  unfold againL
  congr 1
  refine List.filter_congr fun e he => ?_
  obtain ⟨i, l, rfl, hi, hsent⟩ := frGo_at kept f 0 0 e he
  simp only [Nat.zero_add, Function.comp]
  have hlD : f.getD (((i : Nat) : Int)).toNat ⟨0, 0, 0, none⟩ = l := by rw [Int.toNat_natCast, List.getD_eq_getElem?_getD, hi]; rfl
  rw [hlD]
  have hpk : ¬ at0 kept l.s ≤ (l.p : Int) := by
    have : (l.p : Int) < at0 kept l.s := of_decide_eq_true hsent
    omega
  have hiff : ((rank kept f i : Nat) : Int) ∈ gotsL (leftGo kept f 0 rows) ↔ ∃ g, l.g = some g ∧ (g : Int) < at0 kept l.t := by
    rw [mem_gots hgo]
    constructor
    · rintro ⟨l', g, y, hy, hg, hk, e⟩
      have hsent' := not_stray hs hy hg hk
      have : i = l' := by
        have e : rank kept f i = rank kept f l' := by omega
        rcases Nat.lt_trichotomy i l' with h | h | h
        · have := rank_lt hi hsent h; omega
        · exact h
        · have := rank_lt hy hsent' h; omega
      subst this
      rw [hi] at hy
      cases hy
      exact ⟨g, hg, hk⟩
    · rintro ⟨g, hg, hk⟩
      exact ⟨i, g, l, hi, hg, hk, rfl⟩
  unfold underWay
  rw [if_neg hpk]
  cases hg : l.g with
  | none =>
    rw [decide_eq_false (fun z => by
      obtain ⟨g, h1, _⟩ := hiff.mp z
      rw [hg] at h1
      cases h1)]
    rfl
  | some g =>
    by_cases c : (g : Int) < at0 kept l.t
    · rw [decide_eq_true (hiff.mpr ⟨g, hg, c⟩)]
      simp only [Bool.not_true]
      exact (decide_eq_false (by omega)).symm
    · rw [decide_eq_false (fun z => by
        obtain ⟨g', h1, h2⟩ := hiff.mp z
        rw [hg] at h1
        cases h1
        exact c h2)]
      simp only [Bool.not_false]
      exact (decide_eq_true (by omega)).symm
end Y

/-! Mh: what k14 settles: plain Lean. -/
namespace Y
open PySem PySem.Spec L2

theorem noLater_antisymm {xs ys : List Int} (hl : xs.length = ys.length) (h1 : noLater xs ys = true) (h2 : noLater ys xs = true) : xs = ys := by
  rw [noLater_iff hl] at h1
  rw [noLater_iff hl.symm] at h2
  apply List.ext_getElem?
  intro i
  by_cases hi : i < xs.length
  · have a := h1 i _ _ (List.getElem?_eq_getElem hi) (List.getElem?_eq_getElem (show i < ys.length by omega))
    have b := h2 i _ _ (List.getElem?_eq_getElem (show i < ys.length by omega)) (List.getElem?_eq_getElem hi)
    rw [List.getElem?_eq_getElem hi, List.getElem?_eq_getElem (show i < ys.length by omega)]
    congr 1
    omega
  · rw [List.getElem?_eq_none (by omega), List.getElem?_eq_none (by omega)]
/-- how many ends are not beyond a place -/
theorem count_ahead {own : List Int} (hr : Rise own) {g : Int} (h0 : own[0]? = some 0) (hg : 0 ≤ g) : ((own.filter fun x => decide (x ≤ g)).length : Int) - 1 = numAhead own g := by
  rcases na_spec g own 0 0 with ⟨_, h2⟩ | ⟨i, o, h1, h2, h3, h4⟩
  · have := h2 0 0 h0
    omega
  · rw [Nat.zero_add] at h1
    have hi := (List.getElem?_eq_some_iff.mp h2).1
    have e : own = own.take (i + 1) ++ own.drop (i + 1) := (List.take_append_drop _ _).symm
    have a : (own.take (i + 1)).filter (fun x => decide (x ≤ g)) = own.take (i + 1) := by
      rw [List.filter_eq_self]
      intro x hx
      obtain ⟨j, hj⟩ := List.getElem?_of_mem hx
      have hjl := (List.getElem?_eq_some_iff.mp hj).1
      rw [List.length_take] at hjl
      rw [List.getElem?_take_of_lt (by omega)] at hj
      have := hr j i x o (by omega) hj h2
      exact decide_eq_true (by omega)
    have b : (own.drop (i + 1)).filter (fun x => decide (x ≤ g)) = [] := by
      rw [List.filter_eq_nil_iff]
      intro x hx
      obtain ⟨j, hj⟩ := List.getElem?_of_mem hx
      rw [List.getElem?_drop] at hj
      have := h4 (i + 1 + j) x (by omega) hj
      simp
      omega
    have c : (own.filter fun x => decide (x ≤ g)).length = i + 1 := by
      rw [e, List.filter_append, a, b, List.append_nil, List.length_take]
      omega
    rw [c]
    show _ = naGo g 0 0 own
    rw [h1]
    omega
/-- a step at any stray: what it keeps -/
theorem step_most {f : List Let} {t : List (List Int)} (T : ToldOk t) (L : LetsOk t.length f) {line : List Int} (ok : lineOk t line = true) {w : Int} (hw : w ∈ straysBy f (endsOf t line)) {other : List Int} (ok2 : lineOk t other = true) (hs2 : straysBy f (endsOf t other) = []) (hn : noLater other line = true) : noLater other (goDown line (stepAt f t w)) = true := by
  obtain ⟨l, g, own, n, k, st⟩ := step_t T L ok hw
  have l1 := (lineOk_iff.mp ok2).1
  have l2 := (lineOk_iff.mp ok).1
  rw [st.down]
  rw [noLater_iff (by rw [l1, l2])] at hn
  refine (noLater_iff (by rw [List.length_set, l1, l2])).mpr fun i x y hx hy => ?_
  rw [List.getElem?_set] at hy
  split at hy
  · rename_i e
    subst e
    split at hy
    · cases hy
      refine Int.not_lt.mp fun z => ?_
      have hlo := L l (List.mem_of_getElem? st.at_)
      obtain ⟨x', own', q1, q2, q3, q4⟩ := kept_at2 ok2 hlo.2.1 hlo.2.2
      rw [hx] at q1; cases q1
      rw [st.hand] at q2; cases q2
      have hgot := st.gt x.toNat _ (by omega) q4
      obtain ⟨xs, owns, u1, u2, u3, u4⟩ := kept_at2 ok2 hlo.1.1 hlo.1.2
      obtain ⟨ys, owns', v1, v2, v3, v4⟩ := kept_at2 ok hlo.1.1 hlo.1.2
      rw [u2] at v2; cases v2
      have hle := hn _ _ _ u1 v1
      have hr := T.rise owns (List.mem_of_getElem? u2) xs.toNat ys.toNat _ _ (by omega) u4 v4
      have hsl := st.sendLost
      have : (((w.toNat : Nat) : Int)) ∈ straysBy f (endsOf t other) := idxs_mem.mpr ⟨w.toNat, l, by simp, st.at_, by
        unfold stray
        rw [st.got]
        simp only [Bool.and_eq_true]
        exact ⟨decide_eq_true hgot, decide_eq_true (by omega)⟩⟩
      rw [hs2] at this
      cases this
    · cases hy
  · exact hn i x y hx hy
theorem step_later {f : List Let} {t : List (List Int)} (T : ToldOk t) (L : LetsOk t.length f) {line : List Int} (ok : lineOk t line = true) {w : Int} (hw : w ∈ straysBy f (endsOf t line)) : noLater (goDown line (stepAt f t w)) line = true := by
  obtain ⟨l, g, own, n, k, st⟩ := step_t T L ok hw
  rw [st.down]
  refine (noLater_iff (by rw [List.length_set])).mpr fun i x y hx hy => ?_
  rw [List.getElem?_set] at hx
  split at hx
  · rename_i e
    subst e
    split at hx
    · cases hx
      have := st.num
      rw [hy] at this
      cases this
      have := st.below
      omega
    · cases hx
  · rw [hy] at hx
    cases hx
    exact Int.le_refl _
/-- what holds on the way down -/
structure Way (f : List Let) (t : List (List Int)) (start cur : List Int) : Prop where
  ok : lineOk t cur = true
  down : noLater cur start = true
  most : ∀ other, lineOk t other = true → straysBy f (endsOf t other) = [] → noLater other start = true → noLater other cur = true
theorem Way.start {f : List Let} {t : List (List Int)} {line : List Int} (ok : lineOk t line = true) : Way f t line line := ⟨ok, (noLater_iff rfl).mpr fun i x y hx hy => by rw [hx] at hy; cases hy; exact Int.le_refl _, fun _ _ _ h => h⟩
theorem Way.step {f : List Let} {t : List (List Int)} (T : ToldOk t) (L : LetsOk t.length f) {start cur : List Int} (h : Way f t start cur) (hl : start.length = cur.length) {w : Int} (hw : w ∈ straysBy f (endsOf t cur)) : Way f t start (goDown cur (stepAt f t w)) := by
  obtain ⟨l, g, own, n, k, st⟩ := step_t T L h.ok hw
  have h1 := step_later T L h.ok hw
  have hlen : (goDown cur (stepAt f t w)).length = cur.length := by rw [st.down, List.length_set]
  refine ⟨st.ok h.ok, ?_, fun other a b c => step_most T L h.ok hw a b (h.most other a b c)⟩
  rw [noLater_iff (by rw [hlen]; exact hl.symm)]
  intro i x z hx hz
  have hi := (List.getElem?_eq_some_iff.mp hx).1
  have hy : cur[i]? = some cur[i] := List.getElem?_eq_getElem (by omega)
  have a := (noLater_iff hlen).mp h1 i x _ hx hy
  have b := (noLater_iff hl.symm).mp h.down i _ z hy hz
  omega
theorem Way.done {f : List Let} {t : List (List Int)} (T : ToldOk t) (L : LetsOk t.length f) {start cur : List Int} (hs : lineOk t start = true) (h : Way f t start cur) (hn : straysBy f (endsOf t cur) = []) : cur = (fallM f t start).2 := by
  obtain ⟨a, b, c⟩ := fall_ok T L hs
  have l1 := (lineOk_iff.mp h.ok).1
  have l2 := (lineOk_iff.mp a).1
  exact noLater_antisymm (by rw [l1, l2]) (fall_most T L hs cur h.ok hn h.down) (h.most _ a b c)
end Y

/-! Mi: the gots by their letters: plain Lean. -/
namespace Y
open PySem PySem.Spec L2
abbrev Qd := Int × Int × Int × Int
def dQ (q : Qd) : PyData := .list [.int q.1, .int q.2.1, .int q.2.2.1, .int q.2.2.2]
def gotQ (f : List Let) : Nat → List Row → List Qd
  | _, [] => []
  | k, r :: rows => if isGot r = true then ((letAt f (third r)).s, ((letAt f (third r)).p : Int), handOf r, (k : Int)) :: gotQ f (k + 1) rows else gotQ f (k + 1) rows
theorem gotQ_append (f : List Let) : ∀ (a b : List Row) (k : Nat), gotQ f k (a ++ b) = gotQ f k a ++ gotQ f (k + a.length) b
  | [], b, k => by simp [gotQ]
  | r :: a, b, k => by
    simp only [List.cons_append, gotQ, gotQ_append f a b (k + 1), List.length_cons]
    rw [show k + 1 + a.length = k + (a.length + 1) by omega]
    split <;> simp
theorem gotQ_snoc (f : List Let) (a : List Row) (r : Row) : gotQ f 0 (a ++ [r]) = gotQ f 0 a ++ if isGot r = true then [((letAt f (third r)).s, ((letAt f (third r)).p : Int), handOf r, ((a.length : Nat) : Int))] else [] := by
  rw [gotQ_append, Nat.zero_add]
  simp only [gotQ]
theorem gotQ_len (f : List Let) : ∀ (a : List Row) (k : Nat), (gotQ f k a).length ≤ a.length
  | [], k => Nat.le_refl _
  | r :: a, k => by
    have := gotQ_len f a (k + 1)
    simp only [gotQ]
    split <;> simp only [List.length_cons] <;> omega
theorem mem_gotQ (f : List Let) : ∀ (rows : List Row) (k : Nat) (q : Qd), q ∈ gotQ f k rows ↔ ∃ (i : Nat) (r : Row), rows[i]? = some r ∧ isGot r = true ∧ q = ((letAt f (third r)).s, ((letAt f (third r)).p : Int), handOf r, ((k + i : Nat) : Int))
  | [], k, q => by simp [gotQ]
  | r :: rows, k, q => by
    have ih := mem_gotQ f rows (k + 1) q
    simp only [gotQ]
    constructor
    · intro h
      by_cases c : isGot r = true
      · rw [if_pos c] at h
        rcases List.mem_cons.mp h with h | h
        · exact ⟨0, r, rfl, c, h⟩
        · obtain ⟨i, r', h1, h2, h3⟩ := ih.mp h
          exact ⟨i + 1, r', by simpa using h1, h2, by rw [show k + (i + 1) = k + 1 + i by omega]; exact h3⟩
      · rw [if_neg c] at h
        obtain ⟨i, r', h1, h2, h3⟩ := ih.mp h
        exact ⟨i + 1, r', by simpa using h1, h2, by rw [show k + (i + 1) = k + 1 + i by omega]; exact h3⟩
    · rintro ⟨i, r', h1, h2, h3⟩
      cases i with
      | zero =>
        have : r = r' := by simpa using h1
        subst this
        rw [if_pos h2, h3]
        exact List.mem_cons_self
      | succ i =>
        have := ih.mpr ⟨i, r', by simpa using h1, h2, by rw [show k + 1 + i = k + (i + 1) by omega]; exact h3⟩
        split
        · exact List.mem_cons_of_mem _ this
        · exact this
theorem gotQ_let {hands : Int} {rows : List Row} {f : List Let} (hgo : goL hands 0 [] rows = .ok f) (q : Qd) : q ∈ gotQ f 0 rows ↔ ∃ (l g : Nat) (y : Let), f[l]? = some y ∧ y.g = some g ∧ q = (y.s, (y.p : Int), y.t, (g : Int)) := by
  rw [mem_gotQ]
  constructor
  · rintro ⟨i, r, hr, hg, rfl⟩
    obtain ⟨f1, f2, _, hst, _⟩ := goL_at hgo hr
    cases hst with
    | send => exact absurd (of_decide_eq_true (show decide (wSend = wGot) = true from hg)) ne_sg
    | note => exact absurd (of_decide_eq_true (show decide (wNote = wGot) = true from hg)) ne_ng
    | @got h' l y a hy ht hgn =>
      obtain ⟨l', y', e1, hy', ht', hg'⟩ := got_in hgo hr
      have e1 : l = l' := by omega
      subst e1
      have hla : letAt f (third (.got h' (l : Int))) = y' := by
        show f.getD ((l : Int)).toNat _ = y'
        rw [Int.toNat_natCast, List.getD_eq_getElem?_getD, hy']
        rfl
      refine ⟨l, i, y', hy', hg', ?_⟩
      rw [hla, Nat.zero_add, ht']
      rfl
  · rintro ⟨l, g, y, hy, hg, rfl⟩
    have hr := got_row hgo rows.length f (Nat.le_refl _) (by rw [List.take_length]; exact hgo) l y g hy hg
    have hla : letAt f (third (.got y.t (l : Int))) = y := by
      show f.getD ((l : Int)).toNat _ = y
      rw [Int.toNat_natCast, List.getD_eq_getElem?_getD, hy]
      rfl
    refine ⟨g, _, hr, show decide (wGot = wGot) = true from decide_eq_true rfl, ?_⟩
    rw [hla, Nat.zero_add]
    rfl
/-- the places of the sends -/
theorem send_places {hands : Int} {rows : List Row} {f : List Let} (hgo : goL hands 0 [] rows = .ok f) : ∀ k f1, k ≤ rows.length → goL hands 0 [] (rows.take k) = .ok f1 → ((List.range k).filter fun i => isSend (rows.getD i .emp)).map (fun i : Nat => (i : Int)) = f1.map fun l => (l.p : Int)
  | 0, f1, _, h => by
    simp only [List.take_zero, goL] at h
    cases h
    rfl
  | k + 1, f2, hk, h => by
    obtain ⟨r, hr⟩ : ∃ r, rows[k]? = some r := ⟨_, List.getElem?_eq_getElem (by omega)⟩
    obtain ⟨f1, f2', h1, hst, h2⟩ := goL_at hgo hr
    rw [h2] at h
    cases h
    have ih := send_places hgo k f1 (by omega) h1
    have hD : rows.getD k .emp = r := by rw [List.getD_eq_getElem?_getD, hr]; rfl
    rw [List.range_succ, List.filter_append, List.map_append, ih, List.filter_cons, hD]
    cases hst with
    | send => rw [isSend_s]; simp
    | @got h l y a hy ht hg =>
      rw [isSend_g]
      simp only [Bool.false_eq_true, if_false, List.filter_nil, List.map_nil, List.append_nil]
      apply List.ext_getElem?
      intro i
      rw [List.getElem?_map, List.getElem?_map, List.getElem?_set]
      by_cases e : l = i
      · subst e
        rw [if_pos rfl, if_pos (List.getElem?_eq_some_iff.mp hy).1, hy]
        rfl
      · rw [if_neg e]
    | note => rw [isSend_n]; simp
theorem send_row {hands : Int} {rows : List Row} {f : List Let} (hgo : goL hands 0 [] rows = .ok f) : ∀ k f1, k ≤ rows.length → goL hands 0 [] (rows.take k) = .ok f1 → ∀ (l : Nat) (y : Let), f1[l]? = some y → rows[y.p]? = some (.send y.s y.t)
  | 0, f1, _, h, l, y, hy => by
    simp only [List.take_zero, goL] at h
    cases h
    simp at hy
  | k + 1, f2, hk, h, l, y, hy => by
    obtain ⟨r, hr⟩ : ∃ r, rows[k]? = some r := ⟨_, List.getElem?_eq_getElem (by omega)⟩
    obtain ⟨f1, f2', h1, hst, h2⟩ := goL_at hgo hr
    rw [h2] at h
    cases h
    have ih := send_row hgo k f1 (by omega) h1
    cases hst with
    | @send h' t a b =>
      by_cases c : l < f1.length
      · rw [List.getElem?_append_left c] at hy
        exact ih l y hy
      · rw [List.getElem?_append_right (by omega)] at hy
        rw [List.mem_singleton.mp (List.mem_of_getElem? hy)]
        exact hr
    | @got h' l' y' a hy' ht hg' =>
      by_cases c : l' = l
      · subst c
        rw [List.getElem?_set_self (List.getElem?_eq_some_iff.mp hy').1] at hy
        cases hy
        exact ih l' y' hy'
      · rw [List.getElem?_set_ne c] at hy
        exact ih l y hy
    | note a => exact ih l y hy
end Y

/-! Mk: what is left is a good history, and by it nobody goes back again: plain Lean. -/
namespace Y
open PySem PySem.Spec L2

theorem rank_suc {kept : List Int} {f : List Let} {i : Nat} {l : Let} (h : f[i]? = some l) : rank kept f (i + 1) = rank kept f i + if sentK kept l = true then 1 else 0 := by
  unfold rank
  rw [take_snoc2 h, List.filter_append, List.length_append, List.filter_cons]
  split <;> rfl
/-- ranks are told by what stands ahead -/
theorem rank_same {kept : List Int} {f f' : List Let} : ∀ i, i ≤ f.length → (∀ (j : Nat) (l : Let), j < i → f[j]? = some l → ∃ l', f'[j]? = some l' ∧ sentK kept l' = sentK kept l) → rank kept f i = rank kept f' i
  | 0, _, _ => by rw [rank_zero, rank_zero]
  | i + 1, hi, h => by
    obtain ⟨l, hl⟩ : ∃ l, f[i]? = some l := ⟨_, List.getElem?_eq_getElem (by omega)⟩
    obtain ⟨l', hl', e⟩ := h i l (by omega) hl
    rw [rank_suc hl, rank_suc hl', e, rank_same i (by omega) fun j l hj hl => h j l (by omega) hl]
theorem rank_le {kept : List Int} {f : List Let} {i j : Nat} (hij : i ≤ j) : rank kept f i ≤ rank kept f j := by
  unfold rank
  have e : f.take j = f.take i ++ (f.drop i).take (j - i) := by rw [← List.take_add, show i + (j - i) = j by omega]
  rw [e, List.filter_append, List.length_append]
  omega
/-- letters stay but for their gots -/
theorem goL_same {hands : Int} : ∀ {rows : List Row} {k : Nat} {f f' : List Let}, goL hands k f rows = .ok f' → ∀ (i : Nat) (l : Let), f[i]? = some l → ∃ l', f'[i]? = some l' ∧ l'.s = l.s ∧ l'.t = l.t ∧ l'.p = l.p
  | [], k, f, f', h, i, l, hl => by cases h; exact ⟨l, hl, rfl, rfl, rfl⟩
  | r :: rows, k, f, f', h, i, l, hl => by
    simp only [goL] at h
    split at h
    · cases h
    · rename_i f1 h1
      have st := stepOk_of h1
      cases st with
      | send a b =>
        exact goL_same h i l (by rw [List.getElem?_append_left (List.getElem?_eq_some_iff.mp hl).1]; exact hl)
      | @got h' l' y a hy ht hg =>
        by_cases e : l' = i
        · subst e
          rw [hy] at hl
          cases hl
          obtain ⟨z, z1, z2, z3, z4⟩ := goL_same h l' _ (List.getElem?_set_self (List.getElem?_eq_some_iff.mp hy).1)
          exact ⟨z, z1, z2, z3, z4⟩
        · exact goL_same h i l (by rw [List.getElem?_set_ne e]; exact hl)
      | note a => exact goL_same h i l hl
theorem sentK_same {kept : List Int} {l l' : Let} (h1 : l'.s = l.s) (h2 : l'.p = l.p) : sentK kept l' = sentK kept l := by unfold sentK; rw [h1, h2]
/-- places of the letters lie ahead -/
theorem goL_place {hands : Int} : ∀ {rows : List Row} {k : Nat} {f f' : List Let}, goL hands k f rows = .ok f' → (∀ l ∈ f, l.p < k) → ∀ l ∈ f', l.p < k + rows.length
  | [], k, f, f', h, hf => by cases h; exact hf
  | r :: rows, k, f, f', h, hf => by
    simp only [goL] at h
    split at h
    · cases h
    · rename_i f1 h1
      have st := stepOk_of h1
      have h2 : ∀ l ∈ f1, l.p < k + 1 := by
        cases st with
        | send a b =>
          intro l hl
          rcases List.mem_append.mp hl with hl | hl
          · have := hf l hl; omega
          · rw [List.mem_singleton.mp hl]; simp only; omega
        | @got h' l' y a hy ht hg =>
          intro l hl
          rcases List.mem_or_eq_of_mem_set hl with hl | hl
          · have := hf l hl; omega
          · rw [hl]
            have := hf y (List.mem_of_getElem? hy)
            simp only
            omega
        | note a => intro l hl; have := hf l hl; omega
      have := goL_place h h2
      intro l hl
      have := this l hl
      simp only [List.length_cons]
      omega
/-! ### what is left is good -/
structure Sim (kept : List Int) (f1 g1 : List Let) : Prop where
  len : g1.length = rank kept f1 f1.length
  let_ : ∀ (i : Nat) (l : Let), f1[i]? = some l → sentK kept l = true → ∃ l', g1[rank kept f1 i]? = some l' ∧ l'.t = l.t ∧ (l.g = none → l'.g = none)
theorem left_good {hands : Int} {rows : List Row} {f : List Let} (hgo : goL hands 0 [] rows = .ok f) {kept : List Int} (hs : straysBy f kept = []) : ∀ k f1, k ≤ rows.length → goL hands 0 [] (rows.take k) = .ok f1 → ∃ g1, goL hands 0 [] (leftGo kept f 0 (rows.take k)) = .ok g1 ∧ Sim kept f1 g1
  | 0, f1, _, h => by
    simp only [List.take_zero, goL] at h
    cases h
    exact ⟨[], rfl, rfl, fun i l hl => by simp at hl⟩
  | k + 1, f2, hk, h => by
    obtain ⟨r, hr⟩ : ∃ r, rows[k]? = some r := ⟨_, List.getElem?_eq_getElem (by omega)⟩
    obtain ⟨f1, f2', h1, hst, h2⟩ := goL_at hgo hr
    rw [h2] at h
    cases h
    obtain ⟨g1, hg1, S⟩ := left_good hgo hs k f1 (by omega) h1
    have hl : (rows.take k).length = k := by rw [List.length_take]; omega
    have hrest : goL hands (0 + (rows.take (k + 1)).length) f2 (rows.drop (k + 1)) = .ok f := by
      have e := hgo
      rw [← List.take_append_drop (k + 1) rows] at e
      obtain ⟨f3, h5, h6⟩ := goL_split e
      rw [h2] at h5
      cases h5
      exact h6
    rw [take_snoc2 hr, leftGo_snoc, hl]
    have stay : Sim kept f2 g1 → ¬ ((k : Nat) : Int) < at0 kept (handOf r) → ∃ g2, goL hands 0 [] (leftGo kept f 0 (rows.take k) ++ if ((k : Nat) : Int) < at0 kept (handOf r) then [anew kept f r] else []) = .ok g2 ∧ Sim kept f2 g2 := fun s c => by
      rw [if_neg c, List.append_nil]
      exact ⟨g1, hg1, s⟩
    have move : ∀ g2, stepL hands (0 + (leftGo kept f 0 (rows.take k)).length) g1 (anew kept f r) = .ok g2 → Sim kept f2 g2 → ((k : Nat) : Int) < at0 kept (handOf r) → ∃ g2, goL hands 0 [] (leftGo kept f 0 (rows.take k) ++ if ((k : Nat) : Int) < at0 kept (handOf r) then [anew kept f r] else []) = .ok g2 ∧ Sim kept f2 g2 := fun g2 e s c => by
      rw [if_pos c]
      exact ⟨g2, by rw [goL_snoc _ _ _ _ _ _ hg1, e], s⟩
    generalize (leftGo kept f 0 (rows.take k)).length = m at move
    cases hst with
    | @send h t a b =>
      have hrk : ∀ i, i ≤ f1.length → rank kept (f1 ++ [⟨h, t, k, none⟩]) i = rank kept f1 i := fun i hi => (rank_same i hi fun j l hj hl => ⟨l, by rw [List.getElem?_append_left (List.getElem?_eq_some_iff.mp hl).1]; exact hl, rfl⟩).symm
      have hlast : (f1 ++ [(⟨h, t, k, none⟩ : Let)])[f1.length]? = some ⟨h, t, k, none⟩ := by rw [List.getElem?_append_right (Nat.le_refl _), Nat.sub_self]; rfl
      have hlen2 : rank kept (f1 ++ [⟨h, t, k, none⟩]) (f1 ++ [(⟨h, t, k, none⟩ : Let)]).length = rank kept f1 f1.length + if sentK kept ⟨h, t, k, none⟩ = true then 1 else 0 := by
        rw [List.length_append, List.length_singleton, rank_suc hlast, hrk _ (Nat.le_refl _)]
      by_cases c : ((k : Nat) : Int) < at0 kept (handOf (.send h t))
      · have hsk : sentK kept ⟨h, t, k, none⟩ = true := decide_eq_true c
        refine move (g1 ++ [⟨h, t, 0 + m, none⟩]) (by rw [anew_send]; exact stepL_send a b) ⟨?_, fun i l hil hsl => ?_⟩ c
        · rw [hlen2, if_pos hsk, List.length_append, List.length_singleton, S.len]
        · by_cases hi : i < f1.length
          · rw [List.getElem?_append_left hi] at hil
            obtain ⟨l', e1, e2, e3⟩ := S.let_ i l hil hsl
            exact ⟨l', by rw [hrk i (by omega), List.getElem?_append_left (List.getElem?_eq_some_iff.mp e1).1]; exact e1, e2, e3⟩
          · rw [List.getElem?_append_right (by omega)] at hil
            have hi2 : i = f1.length := by
              have := (List.getElem?_eq_some_iff.mp hil).1
              simp at this
              omega
            subst hi2
            rw [Nat.sub_self] at hil
            cases hil
            exact ⟨⟨h, t, 0 + m, none⟩, by rw [hrk _ (Nat.le_refl _), ← S.len, List.getElem?_append_right (Nat.le_refl _), Nat.sub_self]; rfl, rfl, fun _ => rfl⟩
      · have hsk : ¬ sentK kept ⟨h, t, k, none⟩ = true := by rw [show sentK kept ⟨h, t, k, none⟩ = false from decide_eq_false c]; simp
        refine stay ⟨by rw [hlen2, if_neg hsk]; exact S.len, fun i l hil hsl => ?_⟩ c
        by_cases hi : i < f1.length
        · rw [List.getElem?_append_left hi] at hil
          rw [hrk i (by omega)]
          exact S.let_ i l hil hsl
        · rw [List.getElem?_append_right (by omega)] at hil
          rw [List.mem_singleton.mp (List.mem_of_getElem? hil)] at hsl
          exact absurd hsl hsk
    | @got h l y a hy ht hg =>
      have hll := (List.getElem?_eq_some_iff.mp hy).1
      have hrk : ∀ i, i ≤ f1.length → rank kept (f1.set l { y with g := some k }) i = rank kept f1 i := fun i hi => (rank_same i hi fun j l' hj hl' => by
        by_cases e : l = j
        · subst e
          rw [hy] at hl'
          cases hl'
          exact ⟨_, List.getElem?_set_self hll, rfl⟩
        · exact ⟨l', by rw [List.getElem?_set_ne e]; exact hl', rfl⟩).symm
      have hlen2 : rank kept (f1.set l { y with g := some k }) (f1.set l { y with g := some k }).length = rank kept f1 f1.length := by rw [List.length_set]; exact hrk _ (Nat.le_refl _)
      by_cases c : ((k : Nat) : Int) < at0 kept (handOf (.got h l))
      · obtain ⟨y2, z1, z2, z3, z4⟩ := goL_same hrest l _ (List.getElem?_set_self hll)
        have zg : f[l]? = some { y with g := some k } := goL_keep (g := k) hrest (List.getElem?_set_self hll) rfl
        have hsent : sentK kept y = true := by
          have := not_stray hs zg (g := k) rfl (by show ((k : Nat) : Int) < at0 kept y.t; rw [ht]; exact c)
          exact this
        have hrf : rank kept f l = rank kept f1 l := (rank_same l (by omega) fun j l' hj hl' => by
          obtain ⟨w, w1, w2, w3, w4⟩ := goL_same hrest j l' (by rw [List.getElem?_set_ne (by omega)]; exact hl')
          exact ⟨w, w1, sentK_same w2 w4⟩).symm
        obtain ⟨l', e1, e2, e3⟩ := S.let_ l y hy hsent
        refine move (g1.set (rank kept f1 l) { l' with g := some (0 + m) }) ?_ ⟨by rw [hlen2, List.length_set]; exact S.len, fun i x hx hsx => ?_⟩ c
        · rw [anew_got, hrf]
          have := stepL_got (hands := hands) (h := h) (l := ((rank kept f1 l : Nat) : Int)) (k := 0 + m) (f := g1) a (Int.natCast_nonneg _) (y := l') (by rw [Int.toNat_natCast]; exact e1) (by rw [e2]; exact ht) (e3 hg)
          rw [Int.toNat_natCast] at this
          exact this
        · have hil : i < f1.length := by
            have := (List.getElem?_eq_some_iff.mp hx).1
            rw [List.length_set] at this
            exact this
          rw [hrk i (by omega)]
          by_cases e : l = i
          · subst e
            rw [List.getElem?_set_self hll] at hx
            cases hx
            refine ⟨_, List.getElem?_set_self (List.getElem?_eq_some_iff.mp e1).1, e2, fun z => by cases z⟩
          · rw [List.getElem?_set_ne e] at hx
            obtain ⟨x', u1, u2, u3⟩ := S.let_ i x hx hsx
            refine ⟨x', ?_, u2, u3⟩
            rw [List.getElem?_set_ne]
            · exact u1
            · intro z
              rcases Nat.lt_trichotomy l i with q | q | q
              · have := rank_lt hy hsent q; omega
              · exact e q
              · have := rank_lt hx hsx q; omega
      · refine stay ⟨by rw [hlen2]; exact S.len, fun i x hx hsx => ?_⟩ c
        have hil : i < f1.length := by
          have := (List.getElem?_eq_some_iff.mp hx).1
          rw [List.length_set] at this
          exact this
        rw [hrk i (by omega)]
        by_cases e : l = i
        · subst e
          rw [List.getElem?_set_self hll] at hx
          cases hx
          obtain ⟨x', u1, u2, u3⟩ := S.let_ l y hy hsx
          exact ⟨x', u1, u2, fun z => by cases z⟩
        · rw [List.getElem?_set_ne e] at hx
          exact S.let_ i x hx hsx
    | @note h a =>
      by_cases c : ((k : Nat) : Int) < at0 kept (handOf (.note h))
      · exact move g1 (by rw [anew_note]; exact stepL_note a) S c
      · exact stay S c
theorem left_history {hands : Int} {rows : List Row} {f : List Let} (hf : lettersM hands rows = .ok f) {kept : List Int} (hs : straysBy f kept = []) : ∃ g, lettersM hands (leftGo kept f 0 rows) = .ok g := by
  obtain ⟨h1, h2, h3, hgo⟩ := lettersM_ok hf
  obtain ⟨g, hg, _⟩ := left_good hgo hs rows.length f (Nat.le_refl _) (by rw [List.take_length]; exact hgo)
  rw [List.take_length] at hg
  have := leftGo_len kept f rows 0
  refine ⟨g, ?_⟩
  unfold lettersM
  rw [if_neg (by omega), if_neg (by omega)]
  exact hg
/-! ### nobody goes back again -/
theorem handOf_anew (kept : List Int) (f : List Let) (r : Row) : handOf (anew kept f r) = handOf r := by
  cases r with
  | emp => rfl
  | mk w ns =>
    show handOf (if w = wGot then Row.got (ns.getD 0 0) ((rank kept f (ns.getD 1 0).toNat : Nat) : Int) else .mk w ns) = ns.getD 0 0
    split
    · rfl
    · rfl
theorem notes_mem {h : Int} : ∀ {rows : List Row} {k : Nat} {i : Nat}, rows[i]? = some (.note h) → ((k + i : Nat) : Int) + 1 ∈ notes h k rows
  | [], k, i, e => by simp at e
  | r :: rows, k, 0, e => by
    have e : r = .note h := by simpa using e
    simp only [notes]
    rw [if_pos e]
    exact List.mem_cons_self
  | r :: rows, k, i + 1, e => by
    have := notes_mem (k := k + 1) (i := i) (rows := rows) (h := h) (by simpa using e)
    rw [show k + 1 + i = k + (i + 1) by omega] at this
    simp only [notes]
    split
    · exact List.mem_cons_of_mem _ this
    · exact this
theorem mem_notes {h : Int} : ∀ {rows : List Row} {k : Nat} {x : Int}, x ∈ notes h k rows → ∃ i, rows[i]? = some (.note h) ∧ x = ((k + i : Nat) : Int) + 1
  | [], k, x, e => by simp [notes] at e
  | r :: rows, k, x, e => by
    simp only [notes] at e
    have tail : x ∈ notes h (k + 1) rows → ∃ i, (r :: rows)[i]? = some (.note h) ∧ x = ((k + i : Nat) : Int) + 1 := fun e => by
      obtain ⟨i, h1, h2⟩ := mem_notes e
      exact ⟨i + 1, by simpa using h1, by rw [h2, show k + 1 + i = k + (i + 1) by omega]⟩
    split at e
    · rename_i hr
      rcases List.mem_cons.mp e with e | e
      · exact ⟨0, by rw [hr]; rfl, e⟩
      · exact tail e
    · exact tail e
/-- a hand that fell: behind each of its rows that are left there is a note of its, or the row is one -/
theorem left_note {hands : Int} {rows : List Row} {kept : List Int} {f : List Let} {s : Int} (he : at0 kept s ∈ begun rows s) {p : Nat} {x : Row} (hx : (leftGo kept f 0 rows)[p]? = some x) (hsx : handOf x = s) : ∃ q, p ≤ q ∧ (leftGo kept f 0 rows)[q]? = some (.note s) := by
  have hxm := List.mem_of_getElem? hx
  unfold begun at he
  rcases List.mem_cons.mp he with he | he
  · obtain ⟨i, r, h1, h2, h3⟩ := (mem_left kept f rows 0 x).mp hxm
    rw [h3, handOf_anew] at hsx
    rw [hsx, he] at h2
    omega
  · obtain ⟨i, hi, e⟩ := mem_notes he
    rw [Nat.zero_add] at e
    have hil := (List.getElem?_eq_some_iff.mp hi).1
    have e1 : rows = rows.take i ++ .note s :: rows.drop (i + 1) := by
      have := List.take_append_drop i rows
      rw [List.drop_eq_getElem_cons hil] at this
      rw [(List.getElem?_eq_some_iff.mp hi).2] at this
      exact this.symm
    have htl : (rows.take i).length = i := by rw [List.length_take]; omega
    have e2 : leftGo kept f 0 rows = leftGo kept f 0 (rows.take i) ++ (.note s :: leftGo kept f (i + 1) (rows.drop (i + 1))) := by
      conv => lhs; rw [e1]
      rw [leftGo_append, htl, Nat.zero_add]
      simp only [leftGo]
      rw [if_pos (show (i : Int) < at0 kept (handOf (.note s)) by show (i : Int) < at0 kept s; omega), anew_note]
    have hq : (leftGo kept f 0 rows)[(leftGo kept f 0 (rows.take i)).length]? = some (.note s) := by
      rw [e2, List.getElem?_append_right (Nat.le_refl _), Nat.sub_self]
      rfl
    refine ⟨_, Nat.le_of_not_lt fun z => ?_, hq⟩
    rw [e2, List.getElem?_append_right (by omega)] at hx
    obtain ⟨d, hd⟩ : ∃ d, p - (leftGo kept f 0 (rows.take i)).length = d + 1 := ⟨p - (leftGo kept f 0 (rows.take i)).length - 1, by omega⟩
    rw [hd, List.getElem?_cons_succ] at hx
    obtain ⟨j, r, h1, h2, h3⟩ := (mem_left kept f (rows.drop (i + 1)) (i + 1) x).mp (List.mem_of_getElem? hx)
    rw [h3, handOf_anew] at hsx
    rw [hsx] at h2
    omega
theorem begun_last {rows : List Row} {s : Int} {q : Nat} (h : rows[q]? = some (.note s)) {e : Int} (he : (told1 rows s)[(told1 rows s).length - 2]? = some e) : (q : Int) < e := by
  have hm := notes_mem (k := 0) h
  rw [Nat.zero_add] at hm
  obtain ⟨j, hj⟩ := List.getElem?_of_mem hm
  have hjl := (List.getElem?_eq_some_iff.mp hj).1
  have hl : (told1 rows s).length = (notes s 0 rows).length + 2 := by
    unfold told1 begun
    rw [List.length_append, List.length_cons, List.length_singleton]
  have hj2 : (told1 rows s)[j + 1]? = some ((q : Int) + 1) := by
    unfold told1 begun
    rw [List.getElem?_append_left (by rw [List.length_cons]; omega), List.getElem?_cons_succ]
    exact hj
  have := told1_rise rows s (j + 1) _ _ _ (by omega) hj2 he
  omega
/-- the ends of the top line -/
theorem top_end {hands : Int} {rows : List Row} {fallen : List Int} {x : Int} (h0 : 0 ≤ x) (h1 : x < hands) : at0 (endsOf (told hands rows) (topLine hands rows fallen)) x = (told1 rows x).getD ((told1 rows x).length - 1 - (inI x fallen).toNat) 0 := by
  have hi : x.toNat < hands.toNat := by omega
  have e1 := told_get (rows := rows) hi
  have e2 := topLine_get (rows := rows) (fallen := fallen) hi
  rw [show ((x.toNat : Nat) : Int) = x by omega] at e1 e2
  have hl := (told1_len rows x).1
  have hI := inI_le x fallen
  have e3 : (told1 rows x)[((told1 rows x).length : Int).toNat - 1 - (inI x fallen).toNat]? = some ((told1 rows x).getD ((told1 rows x).length - 1 - (inI x fallen).toNat) 0) := by
    rw [Int.toNat_natCast, List.getD_eq_getElem?_getD, List.getElem?_eq_getElem (by omega)]
    rfl
  have e4 := endsOf_get e2 e1 (e := (told1 rows x).getD ((told1 rows x).length - 1 - (inI x fallen).toNat) 0) (by rw [show (((told1 rows x).length : Int) - 1 - inI x fallen).toNat = ((told1 rows x).length : Int).toNat - 1 - (inI x fallen).toNat by omega]; exact e3)
  unfold at0
  rw [List.getD_eq_getElem?_getD, e4]
  rfl
/-- if behind each row of the fallen ones stands a note of theirs, there is no stray -/
theorem no_strays {hands : Int} {rows : List Row} {g : List Let} (hf : lettersM hands rows = .ok g) {fallen : List Int} (hn : ∀ s ∈ fallen, ∀ (p : Nat) (x : Row), rows[p]? = some x → handOf x = s → ∃ q, p ≤ q ∧ rows[q]? = some (.note s)) : straysBy g (endsOf (told hands rows) (topLine hands rows fallen)) = [] := by
  obtain ⟨_, _, _, hgo⟩ := lettersM_ok hf
  have L := lets_ok hf
  refine idxs_nil.mpr fun i l hl => ?_
  have hlm := List.mem_of_getElem? hl
  obtain ⟨⟨s0, s1⟩, _⟩ := L l hlm
  have hp := goL_place hgo (fun l hl => by cases hl) l hlm
  rw [Nat.zero_add] at hp
  have hr := send_row hgo rows.length g (Nat.le_refl _) (by rw [List.take_length]; exact hgo) i l hl
  have key : (l.p : Int) < at0 (endsOf (told hands rows) (topLine hands rows fallen)) l.s := by
    rw [top_end s0 (by omega)]
    have h2 := (told1_len rows l.s).1
    unfold inI
    by_cases c : l.s ∈ fallen
    · rw [decide_eq_true c, if_pos rfl]
      obtain ⟨q, hq1, hq2⟩ := hn l.s c l.p _ hr rfl
      have e : (told1 rows l.s)[(told1 rows l.s).length - 2]? = some ((told1 rows l.s).getD ((told1 rows l.s).length - 1 - (1 : Int).toNat) 0) := by
        rw [List.getD_eq_getElem?_getD, show (told1 rows l.s).length - 1 - (1 : Int).toNat = (told1 rows l.s).length - 2 by show _ - 1 - 1 = _; omega, List.getElem?_eq_getElem (by omega)]
        rfl
      have := begun_last hq2 e
      omega
    · rw [decide_eq_false c, if_neg (by simp)]
      have := told1_last rows l.s
      rw [List.getD_eq_getElem?_getD, show (told1 rows l.s).length - 1 - (0 : Int).toNat = (told1 rows l.s).length - 1 by show _ - 1 - 0 = _; omega, this]
      show (l.p : Int) < (rows.length : Int)
      omega
  unfold stray
  cases hlg : l.g with
  | none => rfl
  | some g2 =>
    simp only
    rw [Bool.and_eq_false_iff]
    exact .inr (decide_eq_false (by omega))
theorem top_begun {hands : Int} {rows : List Row} {fallen line : List Int} (hok : lineOk (told hands rows) line = true) (hn : noLater line (topLine hands rows fallen) = true) {s : Int} (hs : s ∈ fallen) (h0 : 0 ≤ s) (h1 : s < hands) : at0 (endsOf (told hands rows) line) s ∈ begun rows s := by
  have htl := told_len hands rows
  obtain ⟨n, own, e1, e2, e3, e4⟩ := kept_at2 hok h0 (by rw [htl]; omega)
  have hi : s.toNat < hands.toNat := by omega
  have e5 := told_get (rows := rows) hi
  have e6 := topLine_get (rows := rows) (fallen := fallen) hi
  rw [show ((s.toNat : Nat) : Int) = s by omega] at e5 e6
  rw [e5] at e2
  cases e2
  have hl := (lineOk_iff.mp hok).1
  have := (noLater_iff (by rw [hl, htl, topLine_len])).mp hn _ _ _ e1 e6
  unfold inI at this
  rw [decide_eq_true hs, if_pos rfl] at this
  have h2 : (told1 rows s).length = (begun rows s).length + 1 := by unfold told1; rw [List.length_append, List.length_singleton]
  unfold told1 at e4
  rw [List.getElem?_append_left (by omega)] at e4
  exact List.mem_of_getElem? e4
/-- the law's last two answers -/
theorem left_again {hands : Int} {rows : List Row} {f : List Let} (hf : lettersM hands rows = .ok f) {fallen line : List Int} (hok : lineOk (told hands rows) line = true) (hn : noLater line (topLine hands rows fallen) = true) (hfo : handsOk hands fallen = true) (hs : straysBy f (endsOf (told hands rows) line) = []) :
    lastM hands (leftGo (endsOf (told hands rows) line) f 0 rows) [] = .ok (nowM (told hands (leftGo (endsOf (told hands rows) line) f 0 rows))) ∧ stepsM hands (leftGo (endsOf (told hands rows) line) f 0 rows) fallen = .ok [] := by
  obtain ⟨g, hg⟩ := left_history hf hs
  have hfa : ∀ s ∈ fallen, 0 ≤ s ∧ s < hands := fun s hs => by
    unfold handsOk at hfo
    rw [List.all_eq_true] at hfo
    exact needHand_ok.mp (of_decide_eq_true (hfo s hs))
  have n1 := no_strays hg (fallen := []) (fun s hs => by cases hs)
  have n2 := no_strays hg (fallen := fallen) (fun s hs' p x hx hsx => left_note (hands := hands) (top_begun hok hn hs' (hfa s hs').1 (hfa s hs').2) hx hsx)
  generalize leftGo (endsOf (told hands rows) line) f 0 rows = left at hg n1 n2
  have T := told_ok hands left
  have L : LetsOk (told hands left).length g := by rw [told_len]; exact lets_ok hg
  constructor
  · unfold lastM
    rw [hg]
    simp only
    rw [if_pos (show handsOk hands [] = true from rfl), fallM_done T L n1]
    congr 1
    unfold topLine nowM told
    rw [List.map_map]
    refine List.map_congr_left fun h _ => ?_
    show _ - inI h [] = _
    unfold inI
    rw [decide_eq_false (by simp), if_neg (by simp)]
    simp
  · unfold stepsM
    rw [hg]
    simp only
    rw [if_pos hfo, fallM_done T L n2]
end Y

/-! Ml: what is left, by the places that are kept: plain Lean. -/
namespace Y
open PySem PySem.Spec L2

def rowAt (rows : List Row) (i : Nat) : Row := rows.getD i .emp
theorem rowAt_eq {rows : List Row} {i : Nat} {r : Row} (h : rows[i]? = some r) : rowAt rows i = r := by unfold rowAt; rw [List.getD_eq_getElem?_getD, h]; rfl
def keptQ (kept : List Int) (rows : List Row) (i : Nat) : Bool := decide ((i : Int) < at0 kept (handOf (rowAt rows i)))
def keptP (kept : List Int) (rows : List Row) (n : Nat) : List Nat := (List.range n).filter (keptQ kept rows)
theorem filter_range_take (q : Nat → Bool) : ∀ (n k j : Nat), ((List.range n).filter q)[k]? = some j → ((List.range n).filter q).take k = (List.range j).filter q ∧ q j = true ∧ j < n
  | 0, k, j, h => by simp at h
  | n + 1, k, j, h => by
    rw [List.range_succ, List.filter_append] at h ⊢
    by_cases c : k < ((List.range n).filter q).length
    · rw [List.getElem?_append_left c] at h
      obtain ⟨a, b, d⟩ := filter_range_take q n k j h
      rw [List.take_append_of_le_length (by omega)]
      exact ⟨a, b, by omega⟩
    · rw [List.getElem?_append_right (by omega)] at h
      by_cases hq : q n = true
      · rw [List.filter_cons, if_pos hq] at h ⊢
        have hk : k - ((List.range n).filter q).length = 0 := by
          have := (List.getElem?_eq_some_iff.mp h).1
          simp at this
          omega
        rw [hk] at h
        have : n = j := by simpa using h
        subst this
        refine ⟨?_, hq, by omega⟩
        rw [List.take_append_of_le_length (by omega), List.take_of_length_le (by omega)]
      · rw [List.filter_cons, if_neg hq] at h
        simp at h
theorem left_keptP (kept : List Int) (f : List Let) (rows : List Row) : ∀ k, k ≤ rows.length → leftGo kept f 0 (rows.take k) = (keptP kept rows k).map fun i => anew kept f (rowAt rows i)
  | 0, _ => by simp [leftGo, keptP]
  | k + 1, hk => by
    obtain ⟨r, hr⟩ : ∃ r, rows[k]? = some r := ⟨_, List.getElem?_eq_getElem (by omega)⟩
    have hl : (rows.take k).length = k := by rw [List.length_take]; omega
    rw [take_snoc2 hr, leftGo_snoc, hl, left_keptP kept f rows k (by omega)]
    unfold keptP
    rw [List.range_succ, List.filter_append, List.map_append]
    congr 1
    have e := rowAt_eq hr
    rw [List.filter_cons]
    by_cases c : ((k : Nat) : Int) < at0 kept (handOf r)
    · rw [if_pos c, if_pos (by unfold keptQ; rw [e]; exact decide_eq_true c)]
      simp [e]
    · rw [if_neg c, if_neg (by unfold keptQ; rw [e, decide_eq_false c]; simp)]
      simp
theorem left_all (kept : List Int) (f : List Let) (rows : List Row) : leftGo kept f 0 rows = (keptP kept rows rows.length).map fun i => anew kept f (rowAt rows i) := by
  have := left_keptP kept f rows rows.length (Nat.le_refl _)
  rw [List.take_length] at this
  exact this
def sendQ (rows : List Row) (i : Nat) : Bool := isSend (rowAt rows i)
/-- the kept sends are the letters whose sends are kept -/
theorem kept_sends {hands : Int} {rows : List Row} {f : List Let} (hgo : goL hands 0 [] rows = .ok f) (kept : List Int) : ∀ k f1, k ≤ rows.length → goL hands 0 [] (rows.take k) = .ok f1 → (keptP kept rows k).filter (sendQ rows) = (f1.filter (sentK kept)).map Let.p
  | 0, f1, _, h => by
    simp only [List.take_zero, goL] at h
    cases h
    rfl
  | k + 1, f2, hk, h => by
    obtain ⟨r, hr⟩ : ∃ r, rows[k]? = some r := ⟨_, List.getElem?_eq_getElem (by omega)⟩
    obtain ⟨f1, f2', h1, hst, h2⟩ := goL_at hgo hr
    rw [h2] at h
    cases h
    have ih := kept_sends hgo kept k f1 (by omega) h1
    have e := rowAt_eq hr
    unfold keptP at ih ⊢
    rw [List.range_succ, List.filter_append, List.filter_append, ih]
    have none_ : isSend r = false → (([k].filter (keptQ kept rows)).filter (sendQ rows)) = [] := fun hs => by
      rw [List.filter_eq_nil_iff]
      intro x hx
      have := List.mem_singleton.mp (List.mem_filter.mp hx).1
      subst this
      unfold sendQ
      rw [e, hs]
      simp
    cases hst with
    | @send h t a b =>
      rw [List.filter_append, List.map_append]
      congr 1
      rw [List.filter_cons, List.filter_cons]
      by_cases c : ((k : Nat) : Int) < at0 kept h
      · rw [if_pos (show keptQ kept rows k = true by unfold keptQ; rw [e]; exact decide_eq_true c), if_pos (show sentK kept ⟨h, t, k, none⟩ = true from decide_eq_true c), List.filter_cons, if_pos (by unfold sendQ; rw [e]; exact isSend_s h t)]
        rfl
      · rw [if_neg (show ¬ keptQ kept rows k = true by unfold keptQ; rw [e]; exact fun z => c (of_decide_eq_true z)), if_neg (show ¬ sentK kept ⟨h, t, k, none⟩ = true by rw [show sentK kept ⟨h, t, k, none⟩ = false from decide_eq_false c]; simp)]
        rfl
    | @got h l y a hy ht hg =>
      rw [none_ (isSend_g h l), List.append_nil]
      have : ∀ (f1 : List Let) (l : Nat), f1[l]? = some y → ((f1.set l { y with g := some k }).filter (sentK kept)).map Let.p = (f1.filter (sentK kept)).map Let.p := by
        intro f1
        induction f1 with
        | nil => intro l h; simp at h
        | cons x f1 ih =>
          intro l h
          cases l with
          | zero =>
            have : x = y := by simpa using h
            subst this
            rw [List.set_cons_zero, List.filter_cons, List.filter_cons]
            have es : sentK kept { x with g := some k } = sentK kept x := rfl
            rw [es]
            split <;> rfl
          | succ l =>
            have ih := ih l (by simpa using h)
            rw [List.set_cons_succ, List.filter_cons, List.filter_cons]
            split
            · rw [List.map_cons, List.map_cons, ih]
            · exact ih
      rw [this f1 l hy]
    | note a => rw [none_ (isSend_n _), List.append_nil]
theorem filter_at {α : Type} {q : α → Bool} : ∀ {xs : List α} {i : Nat} {x : α}, xs[i]? = some x → q x = true → (xs.filter q)[((xs.take i).filter q).length]? = some x
  | [], i, x, h, _ => by simp at h
  | y :: xs, 0, x, h, hq => by
    have : y = x := by simpa using h
    subst this
    rw [List.filter_cons, if_pos hq]
    rfl
  | y :: xs, i + 1, x, h, hq => by
    have ih := filter_at (q := q) (xs := xs) (i := i) (by simpa using h) hq
    rw [List.take_succ_cons, List.filter_cons, List.filter_cons]
    split
    · rw [List.length_cons, List.getElem?_cons_succ]; exact ih
    · exact ih
/-- numbers anew, by places -/
def dFr : Nat → List Nat → List (Int × Int)
  | _, [] => []
  | c, q :: Q => ((q : Int), (c : Int)) :: dFr (c + 1) Q
theorem dFr_snoc : ∀ (Q : List Nat) (q c : Nat), dFr c (Q ++ [q]) = dFr c Q ++ [((q : Int), ((c + Q.length : Nat) : Int))]
  | [], q, c => rfl
  | x :: Q, q, c => by
    simp only [List.cons_append, dFr, dFr_snoc Q q (c + 1), List.length_cons]
    rw [show c + 1 + Q.length = c + (Q.length + 1) by omega]
theorem dFr_len : ∀ (Q : List Nat) (c : Nat), (dFr c Q).length = Q.length
  | [], c => rfl
  | x :: Q, c => by simp [dFr, dFr_len Q]
theorem dFr_key : ∀ (Q : List Nat) (c : Nat) (e : Int × Int), e ∈ dFr c Q → ∃ q ∈ Q, e.1 = (q : Int)
  | [], c, e, h => by simp [dFr] at h
  | x :: Q, c, e, h => by
    simp only [dFr] at h
    rcases List.mem_cons.mp h with rfl | h
    · exact ⟨x, List.mem_cons_self, rfl⟩
    · obtain ⟨q, h1, h2⟩ := dFr_key Q _ e h
      exact ⟨q, List.mem_cons_of_mem _ h1, h2⟩
theorem dFr_val : ∀ (Q : List Nat) (c i q : Nat), Q.Nodup → Q[i]? = some q → valV (dkvs (dFr c Q)) (Sum.inl (q : Int)) = some (V.int ((c + i : Nat) : Int))
  | [], c, i, q, _, h => by simp at h
  | x :: Q, c, 0, q, _, h => by
    have : x = q := by simpa using h
    subst this
    exact valV_pos rfl
  | x :: Q, c, i + 1, q, hn, h => by
    obtain ⟨a, b⟩ := List.nodup_cons.mp hn
    have h : Q[i]? = some q := by simpa using h
    have ih := dFr_val Q (c + 1) i q b h
    rw [show c + 1 + i = c + (i + 1) by omega] at ih
    rw [← ih]
    refine valV_neg fun z => a ?_
    have e := Sum.inl.inj z
    have : x = q := by omega
    subst this
    exact List.mem_of_getElem? h
theorem dFr_put (Q : List Nat) {j : Nat} (h : j ∉ Q) (w : Int) : putK (dkvs (dFr 0 Q)) (Sum.inl (j : Int)) (.int w) = dkvs (dFr 0 Q) ++ [(Sum.inl (j : Int), V.int w)] := by
  unfold putK
  rw [if_neg]
  intro z
  rw [List.any_eq_true] at z
  obtain ⟨e, he, hk⟩ := z
  obtain ⟨e', he', rfl⟩ := List.mem_map.mp he
  obtain ⟨q, h1, h2⟩ := dFr_key Q 0 e' he'
  have h3 := Sum.inl.inj (of_decide_eq_true hk)
  have : q = j := by omega
  subst this
  exact h h1
theorem nodup_filter {α : Type} (q : α → Bool) {xs : List α} (h : xs.Nodup) : (xs.filter q).Nodup := List.Pairwise.sublist List.filter_sublist h
theorem keptP_nodup (kept : List Int) (rows : List Row) (n : Nat) : (keptP kept rows n).Nodup := nodup_filter _ List.nodup_range
/-- the number of a letter's send, at its got -/
theorem got_number {hands : Int} {rows : List Row} {f : List Let} (hgo : goL hands 0 [] rows = .ok f) {kept : List Int} (hs : straysBy f kept = []) {j : Nat} {h : Int} {l : Nat} (hr : rows[j]? = some (.got h (l : Int))) (hk : (j : Int) < at0 kept h) :
    ∃ y, f[l]? = some y ∧ valV (dkvs (dFr 0 ((keptP kept rows j).filter (sendQ rows)))) (Sum.inl (y.p : Int)) = some (V.int ((rank kept f l : Nat) : Int)) := by
  obtain ⟨f1, f2, h1, hst, h2⟩ := goL_at hgo hr
  obtain ⟨l', y', e1, hy', ht', hg'⟩ := got_in hgo hr
  have e1 : l = l' := by omega
  subst e1
  have hjl := (List.getElem?_eq_some_iff.mp hr).1
  have hsent := not_stray hs hy' hg' (by rw [ht']; exact hk)
  have hrest : goL hands (0 + (rows.take j).length) f1 (rows.drop j) = .ok f := by
    have e := hgo
    rw [← List.take_append_drop j rows] at e
    obtain ⟨f3, h5, h6⟩ := goL_split e
    rw [h1] at h5
    cases h5
    exact h6
  obtain ⟨y, hy⟩ : ∃ y, f1[l]? = some y := by
    generalize hrow : Row.got h (l : Int) = r at hst
    cases hst with
    | send => simp at hrow; exact absurd hrow.1 ne_gs
    | note => simp at hrow
    | @got h' l2 y a hy ht hg =>
      simp only [Row.mk.injEq, List.cons.injEq, true_and, and_true] at hrow
      have : l = l2 := by omega
      subst this
      exact ⟨y, hy⟩
  obtain ⟨z, z1, z2, z3, z4⟩ := goL_same hrest l y hy
  rw [hy'] at z1
  cases z1
  have hsy : sentK kept y = true := by rw [← sentK_same z2 z4]; exact hsent
  have hrank : rank kept f1 l = rank kept f l := rank_same l (by have := (List.getElem?_eq_some_iff.mp hy).1; omega) fun i x hi hx => by
    obtain ⟨w, w1, w2, w3, w4⟩ := goL_same hrest i x hx
    exact ⟨w, w1, sentK_same w2 w4⟩
  refine ⟨y', hy', ?_⟩
  have hks := kept_sends hgo kept j f1 (by omega) h1
  have hat := filter_at (q := sentK kept) hy hsy
  have hat2 : (((keptP kept rows j).filter (sendQ rows)))[rank kept f1 l]? = some y.p := by
    rw [hks, List.getElem?_map]
    unfold rank
    rw [hat]
    rfl
  have := dFr_val _ 0 _ _ (nodup_filter _ (keptP_nodup kept rows j)) hat2
  rw [Nat.zero_add, hrank] at this
  rw [z4]
  exact this
end Y

namespace Y
open PySem PySem.Spec L2
local macro_rules | `(tactic| walk_at "y1") => `(tactic| first
  | (fail_if_success (with_reducible show SX _ (tSeq (tIfS _ _ _) _) _ _ _)); (with_reducible refine sx_seq ?_)
  | with_reducible refine sx_asg ?_
  | with_reducible refine sx_if ?_
  | with_reducible refine sx_ret ?_
  | with_reducible refine sx_retN ?_
  | with_reducible refine sx_next ?_
  | with_reducible refine sx_app ?_
  | with_reducible refine sx_clear ?_
  | with_reducible refine sx_setL ?_
  | with_reducible refine sx_dput ?_
  | with_reducible refine sx_drop ?_
  | with_reducible refine eg_var (by with_unfolding_all rfl) ?_
  | with_reducible refine eg_int ?_
  | with_reducible refine eg_bl ?_
  | with_reducible refine eg_str ?_
  | with_reducible refine eg_non ?_
  | with_reducible refine eg_raw ?_
  | with_reducible refine eg_op ?_
  | with_reducible refine eg_cb ?_
  | with_reducible refine eg_tup ?_
  | with_reducible refine eg_isN ?_
  | with_reducible refine eg_notN ?_
  | with_reducible refine eg_and ?_
  | with_reducible refine eg_or ?_
  | with_reducible refine eg_not ?_
  | with_reducible refine eg_dnew ?_
  | with_reducible refine eg_dget ?_
  | with_reducible refine eg_dnotin ?_
  | with_reducible refine eg_un ?_
  | with_reducible refine eg_partsNot ?_
  | with_reducible refine eg_partsIx ?_
  | with_reducible refine et_test ?_
  | with_reducible refine et_B ?_
  | with_reducible refine et_not ?_
  | with_reducible refine et_and ?_
  | with_reducible refine et_or ?_
  | with_reducible refine et_yes ?_
  | with_reducible refine ea_nil ?_
  | with_reducible refine ea_cons ?_
  | with_reducible refine el_lst ?_
  | with_reducible refine el_slL ?_
  | with_reducible refine el_op ?_
  | with_reducible refine el_cb ?_
  | with_reducible refine el_lstRev ?_
  | with_reducible refine el_rng ?_
  | with_reducible refine eo_none ?_
  | with_reducible refine eo_some ?_
  | with_reducible refine sr_list ?_
  | with_reducible refine sr_rng ?_
  | with_reducible refine sr_enum ?_
  | with_reducible refine eb_add ?_
  | with_reducible refine eb_sub ?_
  | with_reducible refine eb_fdivL (by decide) (by decide) ?_
  | with_reducible refine eb_mulL (by decide) (by decide) ?_
  | with_reducible refine eb_mulR (by decide) (by decide) ?_
  | with_reducible refine eb_powL (by decide) (by decide) (by decide) ?_
  | with_reducible refine eb_mod (by decide) ?_
  | with_reducible refine eb_lt ?_
  | with_reducible refine eb_le ?_
  | with_reducible refine eb_gt ?_
  | with_reducible refine eb_ge ?_
  | with_reducible refine eb_eqI ?_
  | with_reducible refine eb_neI ?_
  | with_reducible refine eb_eqB ?_)
local macro_rules | `(tactic| walk_at "y1") => `(tactic| first
  | with_reducible refine call_cell ?_
  | with_reducible refine Exists.intro _ (Exists.intro _ (Exists.intro _ (And.intro (Eq.refl [A.raw (V.ref _), A.dat (PyData.int _)]) (And.intro (by assumption) (And.intro (by first | decide | omega) ?_))))))
local macro_rules | `(tactic| walk_at "y") => `(tactic| (repeat' (walk_at "y1")))
local macro_rules | `(tactic| walk_at "yi") => `(tactic| ((repeat' (walk_at "y1")); (with_reducible refine sx_seq ?_); (repeat' (walk_at "y1"))))


/-! ### _law_line_told -/
def R_l_line_told (ds : List PyData) (r : Res Er) : Prop := ∃ (ns : List Int) (n : Nat), ds = [dI ns, .int n] ∧ ns.length = n ∧ n ≤ 1000000 ∧ r = .ok (.bool true)
abbrev sp_l_line_told (K : PySem.W.Frag) (C : Er → Addr) : Sp := Pr C R_l_line_told
theorem len_l_line_told {ds : List PyData} {r : Res Er} (h : R_l_line_told ds r) : ds.length = 2 := by
  obtain ⟨_, _, rfl, _⟩ := h; rfl
theorem wk_l_line_told (K : PySem.W.Frag) (C : Er → Addr) (H : Hp) (ds : List PyData) (r : Res Er) (h : R_l_line_told ds r) : SX H (t_l_line_told K (sp_l_whole K C)) (entry ds 1) [] (HandR r) := by
  obtain ⟨ns, n, rfl, hn, hz, rfl⟩ := h
  have e0 : entry [dI ns, .int n] 1 = [some (.arg (dI ns)), some (.dat (.int n)), none] := by
    unfold entry
    rw [List.map_cons, List.map_cons, ent_I]
    rfl
  rw [e0]
  unfold t_l_line_told
  walk_at "yi"
  refine ec_isi (d := dI ns) (.arg _) kb_list ?_
  refine ⟨_, rfl, ?_⟩
  simp only [Bool.not_true, Bool.false_eq_true, if_false]
  walk_at "y"
  refine ec_len (itm_aI ns) ?_
  walk_at "y"
  refine ⟨false, by rw [List.length_map, hn]; simp, fun z => (by cases z), fun _ => ?_⟩
  walk_at "y"
  refine el_dat (el_lcL ns (fun n => .dat (.int n)) (by omega) (fun _ => true) (fun n => .int n) ?_ ?_ ?_)
  · walk_at "y"
    exact ⟨rfl, itm_aI ns, fun _ => itm_aI ns⟩
  · rintro x hx ω' ⟨acc, rfl⟩
    refine ⟨?_, fun _ => ?_⟩
    · walk_at "y"
      refine call_whole ?_
      walk_at "y"
      refine ⟨.int x, .cons (.dat _) .nil, fun kv => by simp, ?_⟩
      exact ⟨_, rfl, rfl, rfl⟩
    · walk_at "y"
      exact ⟨rfl, rfl⟩
  rw [filter_yes]
  refine ⟨_, rfl, ?_⟩
  walk_at "y"
  refine ec_len (itm_dI ns) ?_
  walk_at "y"
  rw [List.length_map, hn, decide_eq_true rfl]
  exact .dat _
/-! ### _law_line_by (k12) -/
def R_l_line_by_12 (ds : List PyData) (r : Res Er) : Prop := ∃ (c hands : Int) (rows : List Row) (fallen : List Int), ds = [.int c, dT (told hands rows), dI fallen] ∧ hands ≤ 40 ∧ rows.length ≤ 1000 ∧ r = .ok (dI (line9 c hands rows (topLine hands rows fallen)))
abbrev sp_l_line_by_12 (K : PySem.W.Frag) (C : Er → Addr) : Sp := Pr C R_l_line_by_12
theorem len_l_line_by_12 {ds : List PyData} {r : Res Er} (h : R_l_line_by_12 ds r) : ds.length = 3 := by
  obtain ⟨_, _, _, _, rfl, _⟩ := h; rfl
theorem wk_l_line_by_12 (K : PySem.W.Frag) (C : Er → Addr) (H : Hp) (ds : List PyData) (r : Res Er) (h : R_l_line_by_12 ds r) : SX H (t_l_line_by_12 K) (entry ds 5) [] (HandR r) := by
  obtain ⟨c, hands, rows, fallen, rfl, hh, hrl, rfl⟩ := h
  show SX H (t_l_line_by_12 K) [some (.dat (.int c)), some (.arg (dT (told hands rows))), some (.arg (dI fallen)), none, none, none, none, none] [] _
  have htop := fun (i : Nat) (hi : i < hands.toNat) => topLine_get (rows := rows) (fallen := fallen) hi
  unfold line9
  generalize topLine hands rows fallen = top at htop
  unfold t_l_line_by_12
  walk_at "y"
  refine el_own (el_lst ?_)
  walk_at "y"
  refine ⟨szOk (by decide), ?_⟩
  walk_at "y"
  refine sx_forP (xs := List.range hands.toNat) (it := fun _ c => .dat (.int (c : Nat))) (fun pre δ ω => ∃ u v w, δ = [some (.dat (.int c)), some (.arg (dT (told hands rows))), some (.arg (dI fallen)), some (.ptr 0), u, v, w, none] ∧ ω = [oI (pre.map fun h : Nat => if num9 c rows h < top.getD h 0 then num9 c rows h else top.getD h 0)]) ?_ ?_ ?_
  · walk_at "y"
    refine ec_len (itm_T _) ?_
    walk_at "y"
    rw [List.length_map, told_len]
    exact ⟨_, rfl, by omega, map_idx _ _, ⟨_, _, _, rfl, rfl⟩, fun _ _ _ _ => trivial⟩
  · rintro pre x post δ ω e ⟨u, v, w, rfl, rfl⟩
    obtain ⟨rfl, hpl⟩ := range_mid e
    have ho := told_get (rows := rows) hpl
    have hl := (told1_len rows ((pre.length : Nat) : Int)).1
    have hl2 := (told1_len rows ((pre.length : Nat) : Int)).2
    have own : ∀ {ω : Om}, Itm K H ω (.arg (dT (told hands rows))) ((told hands rows).map fun o => .arg (dI o)) := itm_T _
    have htD : top.getD pre.length 0 = ((told1 rows ((pre.length : Nat) : Int)).length : Int) - 1 - inI ((pre.length : Nat) : Int) fallen := by rw [List.getD_eq_getElem?_getD, htop _ hpl]; rfl
    refine ⟨_, gx_name, ?_⟩
    have fin' : ∀ (P : Post) (w2 : Option A) (m : Int), m = num9 c rows pre.length → P.nx = (fun δ ω => ∃ u v w, δ = [some (.dat (.int c)), some (.arg (dT (told hands rows))), some (.arg (dI fallen)), some (.ptr 0), u, v, w, none] ∧ ω = [oI ((pre ++ [pre.length]).map fun h : Nat => if num9 c rows h < top.getD h 0 then num9 c rows h else top.getD h 0)]) → SX H (tDrop (tBM K "list" rAppend (tVar 3) (tCons (tCB rMin2 (tCons (tOp rSub (tOp rSub (tCB (rLenU K) (tCons (tOp (rIx K) (tVar 1) (tVar 4)) tNil)) (tC (.int 1))) (tCB rInt1 (tCons (tOp (rInU K) (tVar 4) (tVar 2)) tNil))) (tCons (tVar 5) tNil))) tNil)))
        [some (.dat (.int c)), some (.arg (dT (told hands rows))), some (.arg (dI fallen)), some (.ptr 0), some (.dat (.int (pre.length : Nat))), some (.dat (.int m)), w2, none] [oI (pre.map fun h : Nat => if num9 c rows h < top.getD h 0 then num9 c rows h else top.getD h 0)] P := by
      rintro P w2 m rfl hP
      walk_at "y"
      refine ⟨0, _, rfl, rfl, ?_⟩
      walk_at "y"
      refine eb_ixUL own (at_T ho) ?_
      walk_at "y"
      refine ec_len (itm_aI _) ?_
      walk_at "y"
      rw [List.length_map]
      refine eb_in (ns := fallen) (itm_aI fallen) ?_
      walk_at "y"
      refine ec_intB ?_
      walk_at "y"
      refine ec_min ?_
      walk_at "y"
      refine ⟨_, _, rfl, rfl, szLt (by rw [List.length_map, List.length_map]; omega), ?_⟩
      rw [hP]
      refine ⟨_, _, _, rfl, ?_⟩
      refine congrArg (fun o : Ob => [o]) ?_
      rw [List.map_append, oI_snoc, List.map_cons, List.map_nil, htD]
      rfl
    walk_at "y"
    refine eb_ixUL own (at_T ho) ?_
    walk_at "y"
    refine ec_len (itm_aI _) ?_
    rw [List.length_map]
    refine eb_mod (by omega) ?_
    walk_at "yi"
    refine ⟨_, rfl, fun h1 => ?_, fun h1 => ?_⟩
    · have h1 := of_decide_eq_true h1
      walk_at "y"
      refine eb_ixUL own (at_T ho) ?_
      refine eg_un (r := rNeg) (g := fun i => .int (-i)) ?_
      walk_at "y"
      refine ⟨1, .int (-1), rfl, fl_int _, ?_⟩
      refine eb_ixUL (itm_aI _) (c := .dat (.int (rows.length : Nat))) (at_last (by rw [List.length_map, List.getElem?_map, told1_last]; rfl)) ?_
      walk_at "y"
      refine eb_mod (by omega) ?_
      walk_at "y"
      refine el_dat (el_lcL (told1 rows (pre.length : Nat)) (fun n => .dat (.int n)) (by omega) (fun x => decide (x ≤ c / 2 % ((rows.length : Int) + 1))) (fun x => .int x) ?_ ?_ ?_)
      · walk_at "y"
        refine eb_ixUL own (at_T ho) ?_
        exact ⟨rfl, itm_aI _, fun _ => itm_aI _⟩
      · rintro y hy ω' ⟨acc, rfl⟩
        refine ⟨?_, fun _ => ?_⟩
        · walk_at "y"
          exact ⟨_, rfl, rfl, rfl⟩
        · walk_at "y"
          exact ⟨rfl, rfl⟩
      refine ⟨_, rfl, ?_⟩
      walk_at "y"
      refine ec_len (itm_dI _) ?_
      refine eg_int ?_
      refine eb_sub ?_
      refine fin' _ _ _ ?_ ?_
      · rw [List.length_map, num9, if_pos h1]
      · rfl
    · have h1 := of_decide_eq_false h1
      refine sx_next ?_
      refine fin' _ _ _ ?_ ?_
      · rw [num9, if_neg h1]
      · rfl
  · rintro δ ω ⟨u, v, w, rfl, rfl⟩
    walk_at "y"
    exact fin_I rfl
/-! ### _law_alike (k12) -/
def R_l_alike_12 (ds : List PyData) (r : Res Er) : Prop := ∃ (w : Str) (h : Int) (ms ms' : List Int), ds = [dRow (.mk w (h :: ms)), dRow (.mk w (h :: ms'))] ∧ isWord w = true ∧ ms.length = ms'.length ∧ r = .ok (.bool true)
abbrev sp_l_alike_12 (K : PySem.W.Frag) (C : Er → Addr) : Sp := Pr C R_l_alike_12
theorem len_l_alike_12 {ds : List PyData} {r : Res Er} (h : R_l_alike_12 ds r) : ds.length = 2 := by
  obtain ⟨_, _, _, _, rfl, _⟩ := h; rfl
theorem wk_l_alike_12 (K : PySem.W.Frag) (C : Er → Addr) (H : Hp) (ds : List PyData) (r : Res Er) (h : R_l_alike_12 ds r) : SX H (t_l_alike_12 K (sp_l_whole K C)) (entry ds 0) [] (HandR r) := by
  obtain ⟨w, h, ms, ms', rfl, hw, hl, rfl⟩ := h
  have e0 : entry [dRow (.mk w (h :: ms)), dRow (.mk w (h :: ms'))] 0 = [some (.dat (dRow (.mk w (h :: ms)))), some (.dat (dRow (.mk w (h :: ms'))))] := by
    unfold entry
    rw [List.map_cons, List.map_cons, ent_dat (noL_row _), ent_dat (noL_row _)]
    rfl
  rw [e0]
  have a0 : ∀ ns : List Int, atI (PyData.str w :: ns.map .int) 0 = some (.str w) := fun ns => at_cons
  have a1 : ∀ ns : List Int, atI (PyData.str w :: (h :: ns).map .int) 1 = some (.int h) := fun ns => at_ns (ns := h :: ns) (j := 0) rfl
  obtain ⟨z, hz⟩ : ∃ z, (h :: ms)[(h :: ms).length - 1]? = some z := ⟨_, List.getElem?_eq_getElem (by simp)⟩
  have az : atI (PyData.str w :: (h :: ms).map .int) (-1) = some (.int z) := at_last (by
    rw [List.length_cons, List.length_map, Nat.add_sub_cancel]
    rw [List.length_cons, Nat.add_sub_cancel] at hz
    rw [List.length_cons, List.getElem?_cons_succ, List.getElem?_map, hz]
    rfl)
  have sw := sh_word hw
  unfold t_l_alike_12
  walk_at "yi"
  refine ec_isi (d := dRow (.mk w (h :: ms))) (.dat _) kb_tuple ?_
  refine ⟨_, rfl, ?_⟩
  simp only [Bool.not_true, Bool.false_eq_true, if_false]
  walk_at "y"
  refine ec_lenT (.dat (PyData.str w :: (h :: ms).map .int)) ?_
  walk_at "y"
  refine ec_lenT (.dat (PyData.str w :: (h :: ms').map .int)) ?_
  walk_at "y"
  refine ⟨false, by simp [hl], ?_⟩
  simp only [Bool.false_eq_true, if_false]
  walk_at "y"
  refine eb_ixUT (.dat (PyData.str w :: (h :: ms).map .int)) (a0 _) ?_
  walk_at "y"
  refine ec_isi (d := .str w) (.dat _) kb_str ?_
  refine ⟨_, rfl, fun z => (by cases z), fun _ => ?_⟩
  walk_at "y"
  refine eb_ixUT (.dat (PyData.str w :: (h :: ms).map .int)) (a0 _) ?_
  walk_at "y"
  refine eb_ixUT (.dat (PyData.str w :: (h :: ms').map .int)) (a0 _) ?_
  refine eb_eqS sw sw ?_
  rw [decide_eq_true rfl]
  refine ⟨_, rfl, iteT ?_⟩
  walk_at "y"
  refine call_whole ?_
  walk_at "y"
  refine eb_ixUT (.dat (PyData.str w :: (h :: ms).map .int)) (a1 _) ?_
  walk_at "y"
  refine ⟨.int h, .cons (.dat _) .nil, fun kv => by simp, ?_⟩
  refine ⟨true, rfl, iteT ?_⟩
  walk_at "y"
  refine eb_ixUT (.dat (PyData.str w :: (h :: ms).map .int)) (a1 _) ?_
  walk_at "y"
  refine eb_ixUT (.dat (PyData.str w :: (h :: ms').map .int)) (a1 _) ?_
  walk_at "y"
  rw [decide_eq_true rfl]
  refine ⟨_, rfl, iteT ?_⟩
  refine call_whole ?_
  walk_at "y"
  refine eg_un (r := rNeg) (g := fun i => .int (-i)) ?_
  walk_at "y"
  refine ⟨1, .int (-1), rfl, fl_int _, ?_⟩
  refine eb_ixUT (.dat (PyData.str w :: (h :: ms).map .int)) az ?_
  walk_at "y"
  refine ⟨.int z, .cons (.dat _) .nil, fun kv => by simp, ?_⟩
  exact .dat _
end Y

namespace Y
open PySem PySem.Spec L2
local macro_rules | `(tactic| walk_at "y1") => `(tactic| first
  | (fail_if_success (with_reducible show SX _ (tSeq (tIfS _ _ _) _) _ _ _)); (with_reducible refine sx_seq ?_)
  | with_reducible refine sx_asg ?_
  | with_reducible refine sx_if ?_
  | with_reducible refine sx_ret ?_
  | with_reducible refine sx_retN ?_
  | with_reducible refine sx_next ?_
  | with_reducible refine sx_app ?_
  | with_reducible refine sx_clear ?_
  | with_reducible refine sx_setL ?_
  | with_reducible refine sx_dput ?_
  | with_reducible refine sx_drop ?_
  | with_reducible refine eg_var (by with_unfolding_all rfl) ?_
  | with_reducible refine eg_int ?_
  | with_reducible refine eg_bl ?_
  | with_reducible refine eg_str ?_
  | with_reducible refine eg_non ?_
  | with_reducible refine eg_raw ?_
  | with_reducible refine eg_op ?_
  | with_reducible refine eg_cb ?_
  | with_reducible refine eg_tup ?_
  | with_reducible refine eg_isN ?_
  | with_reducible refine eg_notN ?_
  | with_reducible refine eg_and ?_
  | with_reducible refine eg_or ?_
  | with_reducible refine eg_not ?_
  | with_reducible refine eg_dnew ?_
  | with_reducible refine eg_dget ?_
  | with_reducible refine eg_dnotin ?_
  | with_reducible refine eg_un ?_
  | with_reducible refine eg_partsNot ?_
  | with_reducible refine eg_partsIx ?_
  | with_reducible refine et_test ?_
  | with_reducible refine et_B ?_
  | with_reducible refine et_not ?_
  | with_reducible refine et_and ?_
  | with_reducible refine et_or ?_
  | with_reducible refine et_yes ?_
  | with_reducible refine ea_nil ?_
  | with_reducible refine ea_cons ?_
  | with_reducible refine el_lst ?_
  | with_reducible refine el_slL ?_
  | with_reducible refine el_op ?_
  | with_reducible refine el_cb ?_
  | with_reducible refine el_lstRev ?_
  | with_reducible refine el_rng ?_
  | with_reducible refine eo_none ?_
  | with_reducible refine eo_some ?_
  | with_reducible refine sr_list ?_
  | with_reducible refine sr_rng ?_
  | with_reducible refine sr_enum ?_
  | with_reducible refine eb_add ?_
  | with_reducible refine eb_sub ?_
  | with_reducible refine eb_fdivL (by decide) (by decide) ?_
  | with_reducible refine eb_mulL (by decide) (by decide) ?_
  | with_reducible refine eb_mulR (by decide) (by decide) ?_
  | with_reducible refine eb_powL (by decide) (by decide) (by decide) ?_
  | with_reducible refine eb_mod (by decide) ?_
  | with_reducible refine eb_lt ?_
  | with_reducible refine eb_le ?_
  | with_reducible refine eb_gt ?_
  | with_reducible refine eb_ge ?_
  | with_reducible refine eb_eqI ?_
  | with_reducible refine eb_neI ?_
  | with_reducible refine eb_eqB ?_)
local macro_rules | `(tactic| walk_at "y1") => `(tactic| first
  | with_reducible refine call_cell ?_
  | with_reducible refine Exists.intro _ (Exists.intro _ (Exists.intro _ (And.intro (Eq.refl [A.raw (V.ref _), A.dat (PyData.int _)]) (And.intro (by assumption) (And.intro (by first | decide | omega) ?_))))))
local macro_rules | `(tactic| walk_at "y") => `(tactic| (repeat' (walk_at "y1")))
local macro_rules | `(tactic| walk_at "yi") => `(tactic| ((repeat' (walk_at "y1")); (with_reducible refine sx_seq ?_); (repeat' (walk_at "y1"))))


/-! ### _law_left_rightly -/
def R_l_left_rightly (ds : List PyData) (r : Res Er) : Prop := ∃ (hands : Int) (rows : List Row) (f : List Let) (line : List Int), ds = [dRows (leftGo (endsOf (told hands rows) line) f 0 rows), dRows rows, dT (told hands rows), dI line] ∧ lettersM hands rows = .ok f ∧ lineOk (told hands rows) line = true ∧ straysBy f (endsOf (told hands rows) line) = [] ∧ r = .ok (.bool true)
abbrev sp_l_left_rightly (K : PySem.W.Frag) (C : Er → Addr) : Sp := Pr C R_l_left_rightly
theorem len_l_left_rightly {ds : List PyData} {r : Res Er} (h : R_l_left_rightly ds r) : ds.length = 4 := by
  obtain ⟨_, _, _, _, rfl, _⟩ := h; rfl
section
variable {K : PySem.W.Frag} {C : Er → Addr} {H0 : Hp} {δ : Sl} {ω : Om} {E : XK} {ts : TA} {P : A → Om → Prop}
theorem call_alike_12 {w : Str} {h : Int} {ms ms' : List Int} (hw : isWord w = true) (hl : ms.length = ms'.length) (hh : EA H0 ts δ ω fun bs ω1 => RdA ω1 bs [dRow (.mk w (h :: ms)), dRow (.mk w (h :: ms'))] ∧ P (.dat (.bool true)) ω1) : EG H0 (tCall (sp_l_alike_12 K C) [] E ts) δ ω P :=
  eg_call fun σ H vs as S Q q => hh σ H vs as S Q fun bs ω' us H' ⟨hr, hp⟩ hl' S' => q bs ω' us H' ⟨_, _, hr, ⟨w, h, ms, ms', rfl, hw, hl, rfl⟩, hp⟩ hl' S'
end
theorem wk_l_left_rightly (K : PySem.W.Frag) (C : Er → Addr) (H : Hp) (ds : List PyData) (r : Res Er) (h : R_l_left_rightly ds r) : SX H (t_l_left_rightly K (sp_l_alike_12 K C)) (entry ds 7) [] (HandR r) := by
  obtain ⟨hands, rows, f, line, rfl, hf, hok, hs, rfl⟩ := h
  obtain ⟨h1, h2, h3, hgo⟩ := lettersM_ok hf
  have htl := told_len hands rows
  have hll := (lineOk_iff.mp hok).1
  have hka : ∀ x : Int, 0 ≤ x → x < hands → ∃ m own, line[x.toNat]? = some m ∧ (told hands rows)[x.toNat]? = some own ∧ 0 ≤ m ∧ own[m.toNat]? = some (at0 (endsOf (told hands rows) line) x) := fun x x0 x1 => kept_at2 hok x0 (by rw [htl]; omega)
  have hleft := left_all (endsOf (told hands rows) line) f rows
  show SX H (t_l_left_rightly K (sp_l_alike_12 K C)) [some (.arg (dRows (leftGo (endsOf (told hands rows) line) f 0 rows))), some (.arg (dRows rows)), some (.arg (dT (told hands rows))), some (.arg (dI line)), none, none, none, none, none, none, none] [] _
  generalize endsOf (told hands rows) line = kept at hs hka hleft
  generalize told hands rows = t at hok htl hll hka
  generalize hL : leftGo kept f 0 rows = left at hleft
  have htk : ∀ {ω : Om}, Itm K H ω (.arg (dT t)) (t.map fun o => .arg (dI o)) := fun {ω} => itm_T t
  have hPl : (keptP kept rows rows.length).length ≤ rows.length := by
    have := List.length_filter_le (keptQ kept rows) (List.range rows.length)
    rw [List.length_range] at this
    exact this
  have hlefl : left.length = (keptP kept rows rows.length).length := by rw [hleft, List.length_map]
  unfold t_l_left_rightly
  walk_at "y"
  refine el_dat (el_lcR (n := rows.length) (by omega) (keptQ kept rows) (fun i => .int (i : Nat)) ?_ ?_ ?_)
  · walk_at "y"
    refine ec_len (itm_rows rows) ?_
    rw [List.length_map]
    walk_at "y"
    exact ⟨rfl, rfl⟩
  · rintro i hi ω' ⟨acc, rfl⟩
    obtain ⟨r, hr⟩ : ∃ r, rows[i]? = some r := ⟨_, List.getElem?_eq_getElem hi⟩
    obtain ⟨⟨a0, a1⟩, w, ms, hrow⟩ := row_hand hgo hr
    obtain ⟨cs, hc1, hc2⟩ := at_hand hrow
    obtain ⟨m, own, q1, q2, q3, q4⟩ := hka _ a0 a1
    have hat := at_row hr
    have hkq : keptQ kept rows i = decide ((i : Int) < at0 kept (handOf r)) := by unfold keptQ; rw [rowAt_eq hr]
    rw [hc1] at hat
    rw [hkq]
    generalize handOf r = h at a0 a1 hc2 q1 q2 q4
    refine ⟨?_, fun _ => ?_⟩
    · walk_at "y"
      refine eb_ixUL (itm_rows rows) hat ?_
      walk_at "y"
      refine eb_ixUT (.dat _) hc2 ?_
      refine eb_ixUL htk (c := .arg (dI own)) (at_nat a0 (by rw [List.getElem?_map, q2]; rfl)) ?_
      walk_at "y"
      refine eb_ixUL (itm_rows rows) hat ?_
      walk_at "y"
      refine eb_ixUT (.dat _) hc2 ?_
      refine eb_ixUL (itm_aI line) (at_I a0 q1) ?_
      refine eb_ixUL (itm_aI own) (at_I q3 q4) ?_
      walk_at "y"
      exact ⟨_, rfl, rfl, rfl⟩
    · walk_at "y"
      exact ⟨rfl, rfl⟩
  refine ⟨((keptP kept rows rows.length).map fun i : Nat => (i : Int)).map .int, by unfold keptP; simp only [List.map_map]; rfl, ?_⟩
  walk_at "yi"
  refine ec_isi (d := dRows left) (.arg _) kb_list ?_
  refine ⟨_, rfl, ?_⟩
  simp only [Bool.not_true, Bool.false_eq_true, if_false]
  walk_at "y"
  refine ec_len (itm_rows left) ?_
  walk_at "y"
  refine ec_len (itm_dI _) ?_
  refine eb_neI ?_
  refine ⟨false, by rw [List.length_map, List.length_map, List.length_map, hlefl]; simp, fun z => (by cases z), fun _ => ?_⟩
  walk_at "y"
  refine el_dat (el_lcR (n := rows.length) (by omega) (fun i => isSend (rows.getD i .emp)) (fun i => .int (i : Nat)) ?_ ?_ ?_)
  · walk_at "y"
    refine ec_len (itm_rows rows) ?_
    rw [List.length_map]
    walk_at "y"
    exact ⟨rfl, rfl⟩
  · rintro i hi ω' ⟨acc, rfl⟩
    obtain ⟨r, hr⟩ : ∃ r, rows[i]? = some r := ⟨_, List.getElem?_eq_getElem hi⟩
    have hD : rows.getD i .emp = r := by rw [List.getD_eq_getElem?_getD, hr]; rfl
    obtain ⟨w, ms, rfl, hw, _⟩ := row_word (goL_need hgo r (List.mem_of_getElem? hr))
    refine ⟨?_, fun _ => ?_⟩
    · walk_at "y"
      refine eb_ixUL (itm_rows rows) (at_row hr) ?_
      walk_at "y"
      refine eb_ixUT (.dat _) (d := .str w) at_cons ?_
      walk_at "y"
      refine eb_eqS (sh_word hw) shw_send ?_
      exact ⟨_, rfl, by rw [hD]; rfl, rfl⟩
    · walk_at "y"
      exact ⟨rfl, rfl⟩
  have hsp := send_places hgo rows.length f (Nat.le_refl _) (by rw [List.take_length]; exact hgo)
  refine ⟨(f.map fun l => (l.p : Int)).map .int, by rw [← hsp]; simp only [List.map_map]; rfl, ?_⟩
  walk_at "y"
  refine sx_forP (xs := List.range (keptP kept rows rows.length).length) (it := fun _ c => .dat (.int (c : Nat))) (fun pre δ ω => ∃ u v w, δ = [some (.arg (dRows left)), some (.arg (dRows rows)), some (.arg (dT t)), some (.arg (dI line)), some (.dat (dI ((keptP kept rows rows.length).map fun i : Nat => (i : Int)))), some (.dat (dI (f.map fun l => (l.p : Int)))), some (.ptr 0), u, v, w, none] ∧ ω = [.dic (dkv (dFr 0 (((keptP kept rows rows.length).take pre.length).filter (sendQ rows))))]) ?_ ?_ ?_
  · walk_at "y"
    refine ec_len (itm_dI _) ?_
    rw [List.length_map, List.length_map]
    walk_at "y"
    exact ⟨_, rfl, by omega, map_idx _ _, ⟨_, _, _, rfl, rfl⟩, fun _ _ _ _ => trivial⟩
  · rintro pre x post δ ω e ⟨u, v, w, rfl, rfl⟩
    obtain ⟨rfl, hpl⟩ := range_mid e
    obtain ⟨j, hj⟩ : ∃ j, (keptP kept rows rows.length)[pre.length]? = some j := ⟨_, List.getElem?_eq_getElem hpl⟩
    obtain ⟨ht1, ht2, hjl⟩ := filter_range_take (keptQ kept rows) rows.length pre.length j hj
    have ht1 : (keptP kept rows rows.length).take pre.length = keptP kept rows j := ht1
    obtain ⟨r, hr⟩ : ∃ r, rows[j]? = some r := ⟨_, List.getElem?_eq_getElem hjl⟩
    have hrA := rowAt_eq hr
    have hlk : left[pre.length]? = some (anew kept f r) := by rw [hleft, List.getElem?_map, hj, ← hrA]; rfl
    have hjk : (j : Int) < at0 kept (handOf r) := by
      unfold keptQ at ht2
      rw [hrA] at ht2
      exact of_decide_eq_true ht2
    have hPj : ((keptP kept rows rows.length).map fun i : Nat => (i : Int))[((pre.length : Nat) : Int).toNat]? = some (j : Int) := by rw [Int.toNat_natCast, List.getElem?_map, hj]; rfl
    have haj := at_I (Int.natCast_nonneg _) hPj
    have har := at_row hr
    have hal := at_row hlk
    have hsn : ((keptP kept rows rows.length).take (pre ++ [pre.length]).length).filter (sendQ rows) = (keptP kept rows j).filter (sendQ rows) ++ if sendQ rows j = true then [j] else [] := by
      rw [List.length_append, List.length_singleton, take_snoc2 hj, ht1, List.filter_append, List.filter_cons]
      rfl
    have hnot : j ∉ (keptP kept rows j).filter (sendQ rows) := fun z => by
      have := List.mem_range.mp (List.mem_filter.mp (List.mem_filter.mp z).1).1
      omega
    have hQl : ((keptP kept rows j).filter (sendQ rows)).length ≤ rows.length := by
      have a := List.length_filter_le (sendQ rows) (keptP kept rows j)
      have b := List.length_filter_le (keptQ kept rows) (List.range j)
      rw [List.length_range] at b
      unfold keptP at a ⊢
      omega
    have hgn := fun (h : Int) (l : Nat) (hrr : r = .got h (l : Int)) => got_number hgo hs (j := j) (h := h) (l := l) (by rw [← hrr]; exact hr) (by rw [hrr] at hjk; exact hjk)
    refine ⟨_, gx_name, ?_⟩
    rw [hsn, ht1]
    generalize (keptP kept rows j).filter (sendQ rows) = Q at hnot hQl hgn
    have hsq : sendQ rows j = isSend r := by unfold sendQ; rw [hrA]
    rw [hsq]
    clear hsn ht1 hPj
    generalize (keptP kept rows rows.length).map (fun i : Nat => (i : Int)) = PI at haj
    walk_at "y"
    refine eb_ixUL (itm_dI PI) haj ?_
    refine eb_ixUL (itm_rows rows) har ?_
    obtain ⟨f1, f2, _, hst, _⟩ := goL_at hgo hr
    cases hst with
    | @send h tt a b =>
      rw [anew_send] at hal
      rw [isSend_s, if_pos rfl, dFr_snoc, Nat.zero_add]
      walk_at "yi"
      refine call_alike_12 (w := wSend) (h := h) (ms := [tt]) (ms' := [tt]) isW_send rfl ?_
      walk_at "y"
      refine eb_ixUL (itm_rows left) hal ?_
      walk_at "y"
      refine ⟨.cons (.dat _) (.cons (.dat _) .nil), ?_⟩
      refine ⟨_, rfl, fun z => (by cases z), fun _ => ?_⟩
      walk_at "yi"
      refine eb_ixUT (.dat _) (d := .str wSend) at_cons ?_
      walk_at "y"
      refine eb_eqS shw_send shw_send ?_
      refine ⟨_, rfl, fun _ => ?_, fun z => absurd rfl (of_decide_eq_false z)⟩
      walk_at "y"
      refine ec_lenD rfl ?_
      walk_at "y"
      refine eb_ixUL (itm_dI PI) haj ?_
      refine ⟨0, _, (j : Int), _, rfl, rfl, rfl, rfl, szLt (by rw [List.length_map, dFr_len]; omega), ?_⟩
      rw [List.set_cons_zero, List.length_map, dFr_len, dFr_put Q hnot]
      walk_at "y"
      refine eb_ixUL (itm_rows left) hal ?_
      walk_at "y"
      refine eb_ixUT (.dat _) (d := .int tt) (at_ns (ns := [h, tt]) (j := 1) rfl) ?_
      walk_at "y"
      refine eb_ixUT (.dat _) (d := .int tt) (at_ns (ns := [h, tt]) (j := 1) rfl) ?_
      refine eb_neI ?_
      refine ⟨false, by simp, fun z => (by cases z), fun _ => ?_⟩
      walk_at "y"
      refine eb_ixUT (.dat _) (d := .str wSend) at_cons ?_
      walk_at "y"
      refine eb_eqS shw_send shw_got ?_
      refine ⟨_, rfl, fun z => absurd (of_decide_eq_true z) ne_sg, fun _ => ?_⟩
      walk_at "y"
      refine ⟨_, _, _, rfl, ?_⟩
      have : dkv (dFr 0 Q ++ [((j : Int), ((Q.length : Nat) : Int))]) = dkvs (dFr 0 Q) ++ [(Sum.inl (j : Int), V.int ((Q.length : Nat) : Int))] := by
        show List.map _ _ = _
        rw [List.map_append]
        rfl
      rw [this]
    | @note h a =>
      rw [anew_note] at hal
      rw [isSend_n, if_neg (by simp), List.append_nil]
      walk_at "yi"
      refine call_alike_12 (w := wNote) (h := h) (ms := []) (ms' := []) isW_note rfl ?_
      walk_at "y"
      refine eb_ixUL (itm_rows left) hal ?_
      walk_at "y"
      refine ⟨.cons (.dat _) (.cons (.dat _) .nil), ?_⟩
      refine ⟨_, rfl, fun z => (by cases z), fun _ => ?_⟩
      walk_at "yi"
      refine eb_ixUT (.dat _) (d := .str wNote) at_cons ?_
      walk_at "y"
      refine eb_eqS shw_note shw_send ?_
      refine ⟨_, rfl, fun z => absurd (of_decide_eq_true z) ne_ns, fun _ => ?_⟩
      walk_at "y"
      refine eb_ixUT (.dat _) (d := .str wNote) at_cons ?_
      walk_at "y"
      refine eb_eqS shw_note shw_got ?_
      refine ⟨_, rfl, fun z => absurd (of_decide_eq_true z) ne_ng, fun _ => ?_⟩
      walk_at "y"
      exact ⟨_, _, _, rfl, rfl⟩
    | @got h l y a hy ht hg =>
      obtain ⟨y', hy', hval⟩ := hgn h l rfl
      have hsl : (f.map fun l => (l.p : Int))[((l : Nat) : Int).toNat]? = some (y'.p : Int) := by rw [Int.toNat_natCast, List.getElem?_map, hy']; rfl
      rw [anew_got] at hal
      rw [isSend_g, if_neg (by simp), List.append_nil]
      walk_at "yi"
      refine call_alike_12 (w := wGot) (h := h) (ms := [((rank kept f l : Nat) : Int)]) (ms' := [(l : Int)]) isW_got rfl ?_
      walk_at "y"
      refine eb_ixUL (itm_rows left) hal ?_
      walk_at "y"
      refine ⟨.cons (.dat _) (.cons (.dat _) .nil), ?_⟩
      refine ⟨_, rfl, fun z => (by cases z), fun _ => ?_⟩
      walk_at "yi"
      refine eb_ixUT (.dat _) (d := .str wGot) at_cons ?_
      walk_at "y"
      refine eb_eqS shw_got shw_send ?_
      refine ⟨_, rfl, fun z => absurd (of_decide_eq_true z) ne_gs, fun _ => ?_⟩
      walk_at "y"
      refine eb_ixUT (.dat _) (d := .str wGot) at_cons ?_
      walk_at "y"
      refine eb_eqS shw_got shw_got ?_
      refine ⟨_, rfl, fun _ => ?_, fun z => absurd rfl (of_decide_eq_false z)⟩
      walk_at "y"
      refine eb_ixUT (.dat _) (d := .int (l : Int)) (at_ns (ns := [h, (l : Int)]) (j := 1) rfl) ?_
      refine eb_ixUL (itm_dI _) (at_I (Int.natCast_nonneg _) hsl) ?_
      walk_at "y"
      refine ⟨0, _, (y'.p : Int), rfl, rfl, rfl, ?_⟩
      rw [hval]
      refine ⟨false, rfl, ?_⟩
      simp only [Bool.false_eq_true, if_false]
      walk_at "y"
      refine eb_ixUL (itm_rows left) hal ?_
      walk_at "y"
      refine eb_ixUT (.dat _) (d := .int ((rank kept f l : Nat) : Int)) (at_ns (ns := [h, ((rank kept f l : Nat) : Int)]) (j := 1) rfl) ?_
      walk_at "y"
      refine ⟨0, _, (y'.p : Int), _, rfl, rfl, rfl, hval, ?_⟩
      refine eb_neI ?_
      refine ⟨false, by simp, fun z => (by cases z), fun _ => ?_⟩
      walk_at "y"
      exact ⟨_, _, _, rfl, rfl⟩
  · rintro δ ω ⟨u, v, w, rfl, rfl⟩
    walk_at "y"
    exact .dat _
end Y

namespace Y
open PySem PySem.Spec L2
local macro_rules | `(tactic| walk_at "y1") => `(tactic| first
  | (fail_if_success (with_reducible show SX _ (tSeq (tIfS _ _ _) _) _ _ _)); (with_reducible refine sx_seq ?_)
  | with_reducible refine sx_asg ?_
  | with_reducible refine sx_if ?_
  | with_reducible refine sx_ret ?_
  | with_reducible refine sx_retN ?_
  | with_reducible refine sx_next ?_
  | with_reducible refine sx_app ?_
  | with_reducible refine sx_clear ?_
  | with_reducible refine sx_setL ?_
  | with_reducible refine sx_dput ?_
  | with_reducible refine sx_drop ?_
  | with_reducible refine eg_var (by with_unfolding_all rfl) ?_
  | with_reducible refine eg_int ?_
  | with_reducible refine eg_bl ?_
  | with_reducible refine eg_str ?_
  | with_reducible refine eg_non ?_
  | with_reducible refine eg_raw ?_
  | with_reducible refine eg_op ?_
  | with_reducible refine eg_cb ?_
  | with_reducible refine eg_tup ?_
  | with_reducible refine eg_isN ?_
  | with_reducible refine eg_notN ?_
  | with_reducible refine eg_and ?_
  | with_reducible refine eg_or ?_
  | with_reducible refine eg_not ?_
  | with_reducible refine eg_dnew ?_
  | with_reducible refine eg_dget ?_
  | with_reducible refine eg_dnotin ?_
  | with_reducible refine eg_un ?_
  | with_reducible refine eg_partsNot ?_
  | with_reducible refine eg_partsIx ?_
  | with_reducible refine et_test ?_
  | with_reducible refine et_B ?_
  | with_reducible refine et_not ?_
  | with_reducible refine et_and ?_
  | with_reducible refine et_or ?_
  | with_reducible refine et_yes ?_
  | with_reducible refine ea_nil ?_
  | with_reducible refine ea_cons ?_
  | with_reducible refine el_lst ?_
  | with_reducible refine el_slL ?_
  | with_reducible refine el_op ?_
  | with_reducible refine el_cb ?_
  | with_reducible refine el_lstRev ?_
  | with_reducible refine el_rng ?_
  | with_reducible refine eo_none ?_
  | with_reducible refine eo_some ?_
  | with_reducible refine sr_list ?_
  | with_reducible refine sr_rng ?_
  | with_reducible refine sr_enum ?_
  | with_reducible refine eb_add ?_
  | with_reducible refine eb_sub ?_
  | with_reducible refine eb_fdivL (by decide) (by decide) ?_
  | with_reducible refine eb_mulL (by decide) (by decide) ?_
  | with_reducible refine eb_mulR (by decide) (by decide) ?_
  | with_reducible refine eb_powL (by decide) (by decide) (by decide) ?_
  | with_reducible refine eb_mod (by decide) ?_
  | with_reducible refine eb_lt ?_
  | with_reducible refine eb_le ?_
  | with_reducible refine eb_gt ?_
  | with_reducible refine eb_ge ?_
  | with_reducible refine eb_eqI ?_
  | with_reducible refine eb_neI ?_
  | with_reducible refine eb_eqB ?_)
local macro_rules | `(tactic| walk_at "y1") => `(tactic| first
  | with_reducible refine call_cell ?_
  | with_reducible refine Exists.intro _ (Exists.intro _ (Exists.intro _ (And.intro (Eq.refl [A.raw (V.ref _), A.dat (PyData.int _)]) (And.intro (by assumption) (And.intro (by first | decide | omega) ?_))))))
local macro_rules | `(tactic| walk_at "y") => `(tactic| (repeat' (walk_at "y1")))
local macro_rules | `(tactic| walk_at "yi") => `(tactic| ((repeat' (walk_at "y1")); (with_reducible refine sx_seq ?_); (repeat' (walk_at "y1"))))


theorem dat_rowsK (rows : List Row) : (rows.map fun r => A.dat (dRow r)) = (rows.map dRow).map A.dat := by rw [List.map_map]; rfl
section
variable {K : PySem.W.Frag} {C : Er → Addr} {H0 : Hp} {δ : Sl} {ω : Om} {E : XK} {ts : TA} {P : A → Om → Prop}
theorem call_fallen12 {c : Int} {n : Nat} (hn : n ≤ 100000) (h : EA H0 ts δ ω fun bs ω1 => RdA ω1 bs [.int c, .int n] ∧ P (.dat (dI (fallen9 c n))) ω1) : EG H0 (tCall (sp_l_fallen_by_09 K C) [] E ts) δ ω P :=
  eg_call fun σ H vs as S Q q => h σ H vs as S Q fun bs ω' us H' ⟨hr, hp⟩ hl' S' => q bs ω' us H' ⟨_, _, hr, ⟨c, n, rfl, hn, rfl⟩, hp⟩ hl' S'
theorem call_last12 {hands : Int} {rows : List Row} {fallen line : List Int} (hl : lastM hands rows fallen = .ok line) (h : EA H0 ts δ ω fun bs ω1 => RdA ω1 bs [.int hands, dRows rows, dI fallen] ∧ P (.dat (dI line)) ω1) : EG H0 (tCall (sp_last_line K C) [] E ts) δ ω P :=
  call_last_line (EA.imp h fun bs ω1 ⟨a, b⟩ => ⟨a, fun e he => (by rw [hl] at he; cases he), fun k hk => (by rw [hl] at hk; cases hk; exact b)⟩)
theorem call_steps12 {hands : Int} {rows : List Row} {fallen : List Int} {c : List Stp} (hl : stepsM hands rows fallen = .ok c) (h : EA H0 ts δ ω fun bs ω1 => RdA ω1 bs [.int hands, dRows rows, dI fallen] ∧ P (.dat (dStps c)) ω1) : EG H0 (tCall (sp_steps K C) [] E ts) δ ω P :=
  call_steps (EA.imp h fun bs ω1 ⟨a, b⟩ => ⟨a, fun e he => (by rw [hl] at he; cases he), fun k hk => (by rw [hl] at hk; cases hk; exact b)⟩)
theorem call_line_told {ns : List Int} {n : Nat} (hl : ns.length = n) (hn : n ≤ 1000000) (h : EA H0 ts δ ω fun bs ω1 => RdA ω1 bs [dI ns, .int n] ∧ P (.dat (.bool true)) ω1) : EG H0 (tCall (sp_l_line_told K C) [] E ts) δ ω P :=
  eg_call fun σ H vs as S Q q => h σ H vs as S Q fun bs ω' us H' ⟨hr, hp⟩ hl' S' => q bs ω' us H' ⟨_, _, hr, ⟨ns, n, rfl, hl, hn, rfl⟩, hp⟩ hl' S'
theorem call_line_by_12 {c hands : Int} {rows : List Row} {fallen : List Int} (h2 : hands ≤ 40) (h3 : rows.length ≤ 1000) (h : EA H0 ts δ ω fun bs ω1 => RdA ω1 bs [.int c, dT (told hands rows), dI fallen] ∧ P (.dat (dI (line9 c hands rows (topLine hands rows fallen)))) ω1) : EG H0 (tCall (sp_l_line_by_12 K C) [] E ts) δ ω P :=
  eg_call fun σ H vs as S Q q => h σ H vs as S Q fun bs ω' us H' ⟨hr, hp⟩ hl' S' => q bs ω' us H' ⟨_, _, hr, ⟨c, hands, rows, fallen, rfl, h2, h3, rfl⟩, hp⟩ hl' S'
theorem call_left_ok {hands : Int} {rows left : List Row} {line : List Int} (hl : leftM hands rows line = .ok left) (h : EA H0 ts δ ω fun bs ω1 => RdA ω1 bs [.int hands, dRows rows, dI line] ∧ P (.dat (dRows left)) ω1) : EG H0 (tCall (sp_left K C) [] E ts) δ ω P :=
  call_left (EA.imp h fun bs ω1 ⟨a, b⟩ => ⟨a, fun e he => (by rw [hl] at he; cases he), fun k hk => (by rw [hl] at hk; cases hk; exact b)⟩)
theorem call_left_own {hands : Int} {rows left : List Row} {line : List Int} {P : List A → Om → Prop} (hl : leftM hands rows line = .ok left) (h : EA H0 ts δ ω fun bs ω1 => RdA ω1 bs [.int hands, dRows rows, dI line] ∧ P (left.map fun r => .dat (dRow r)) ω1) : EL H0 (tCall (sp_left K C) [] E ts) δ ω P :=
  el_call fun σ H vs as S Q q => h σ H vs as S Q fun bs ω' us H' ⟨hr, hp⟩ hl' S' => q bs ω' us H' ⟨_, _, hr, ⟨hands, rows, line, rfl, rfl⟩, by
    rw [hl]
    exact ⟨left.map dRow, rfl, noLA_rows left, by rw [← dat_rowsK]; exact hp⟩⟩ hl' S'
theorem call_left_rightly {hands : Int} {rows : List Row} {f : List Let} {line : List Int} (hf : lettersM hands rows = .ok f) (hok : lineOk (told hands rows) line = true) (hs : straysBy f (endsOf (told hands rows) line) = []) (h : EA H0 ts δ ω fun bs ω1 => RdA ω1 bs [dRows (leftGo (endsOf (told hands rows) line) f 0 rows), dRows rows, dT (told hands rows), dI line] ∧ P (.dat (.bool true)) ω1) : EG H0 (tCall (sp_l_left_rightly K C) [] E ts) δ ω P :=
  eg_call fun σ H vs as S Q q => h σ H vs as S Q fun bs ω' us H' ⟨hr, hp⟩ hl' S' => q bs ω' us H' ⟨_, _, hr, ⟨hands, rows, f, line, rfl, hf, hok, hs, rfl⟩, hp⟩ hl' S'
end
theorem wk_law_k12 (K : PySem.W.Frag) (C : Er → Addr) (H : Hp) (a : Addr) (ns : List Int) (ds : List PyData) (r : Res Er) (hS : SqL K H a (ns.map V.int)) (h : R_law ns ds r) : SX H (t_law_k12 K (sp_l_cell_at K C) (sp_l_hands_by K C) (sp_l_cells_by K C) (sp_l_rows_by K C) (sp_l_fallen_by_09 K C) (sp_l_ends_by K C) (sp_last_line K C) (sp_l_line_told K C) (sp_l_line_by_12 K C) (sp_l_has_stray K C) (sp_left K C) (sp_l_left_rightly K C) (sp_steps K C)) (some (.raw (.ref a)) :: entry ds 14) [] (HandR r) := by
  obtain ⟨rfl, hn, rfl⟩ := h
  show SX H (t_law_k12 K (sp_l_cell_at K C) (sp_l_hands_by K C) (sp_l_cells_by K C) (sp_l_rows_by K C) (sp_l_fallen_by_09 K C) (sp_l_ends_by K C) (sp_last_line K C) (sp_l_line_told K C) (sp_l_line_by_12 K C) (sp_l_has_stray K C) (sp_left K C) (sp_l_left_rightly K C) (sp_steps K C)) [some (.raw (.ref a)), none, none, none, none, none, none, none, none, none, none, none, none, none, none] [] _
  unfold t_law_k12
  walk_at "y"
  refine call_hands_by ?_
  walk_at "y"
  refine ⟨_, rfl, ?_⟩
  obtain ⟨h1, h2⟩ := handsBy_ok (cellAt ns 0)
  generalize handsBy (cellAt ns 0) = hands at h1 h2
  obtain ⟨n, rfl⟩ : ∃ n : Nat, hands = (n : Int) := ⟨hands.toNat, by omega⟩
  walk_at "y"
  refine call_rows_by ?_
  walk_at "y"
  refine call_cells_by ?_
  walk_at "y"
  have hc := cellsBy_len hn (first := 3)
  generalize cellsBy ns 3 = cells at hc
  refine ⟨cells, n, .cons (.dat _) (.cons (.dat _) .nil), h1, h2, by omega, ?_⟩
  obtain ⟨f, hf⟩ := good_rows h1 h2 (show cells.length ≤ 1000 by omega)
  generalize rowsBy cells n = rows at hf
  obtain ⟨_, _, hrl, hgo⟩ := lettersM_ok hf
  have hne := goL_need hgo
  have sh := shaped_rows hne
  have htl := told_len n rows
  walk_at "y"
  refine call_fallen12 (c := cellAt ns 2) (n := n) (by omega) ?_
  walk_at "y"
  refine ⟨.cons (.dat _) (.cons (.dat _) .nil), ?_⟩
  have hfo := fallen9_ok (cellAt ns 2) n
  generalize fallen9 (cellAt ns 2) n = fallen at hfo
  walk_at "y"
  refine call_ends_by hf ?_
  walk_at "y"
  refine ⟨.cons (.dat _) (.cons (.dat _) .nil), ?_⟩
  have T := told_ok n rows
  have L : LetsOk (told n rows).length f := by rw [told_len]; exact lets_ok hf
  obtain ⟨k1, k2, k3⟩ := fall_ok T L (topLine_ok n rows fallen)
  have hlast : lastM n rows fallen = .ok (fallM f (told n rows) (topLine n rows fallen)).2 := by
    unfold lastM
    rw [hf]
    simp only
    rw [if_pos hfo]
  generalize (fallM f (told n rows) (topLine n rows fallen)).2 = line0 at k1 k2 k3 hlast
  have hl0 : line0.length = n := by rw [(lineOk_iff.mp k1).1, htl]; rfl
  walk_at "y"
  refine ec_own (ecl_list (itm_rowsD rows) ?_)
  walk_at "y"
  refine call_last12 hlast ?_
  walk_at "y"
  refine ec_dat (ecl_list (itm_dI fallen) ?_)
  refine ⟨fallen.map .int, by rw [List.map_map]; rfl, ?_⟩
  walk_at "y"
  refine ⟨.cons (.dat _) (.cons (rd_rows rfl) (.cons (.dat _) .nil)), ?_⟩
  walk_at "yi"
  refine call_line_told hl0 (by omega) ?_
  walk_at "y"
  refine ⟨.cons (.dat _) (.cons (.dat _) .nil), ?_⟩
  refine ⟨_, rfl, fun z => (by cases z), fun _ => ?_⟩
  walk_at "yi"
  refine el_dat (el_lcR (n := n) (by omega) (fun _ => false) (fun i => .int (i : Nat)) ?_ ?_ ?_)
  · walk_at "y"
    exact ⟨rfl, rfl⟩
  · rintro i hi ω' ⟨acc, rfl⟩
    obtain ⟨x, hx⟩ : ∃ x, line0[i]? = some x := ⟨_, List.getElem?_eq_getElem (by omega)⟩
    have ho := told_get (rows := rows) (hands := n) (i := i) (by omega)
    have hxo := (lineOk_iff.mp k1).2 i x _ hx ho
    refine ⟨?_, fun z => (by cases z)⟩
    walk_at "y"
    refine eb_ixUL (itm_dI line0) (at_I (Int.natCast_nonneg _) (by rw [Int.toNat_natCast]; exact hx)) ?_
    walk_at "y"
    refine ⟨_, rfl, ?_⟩
    rw [decide_eq_false (show ¬ x < 0 by omega)]
    simp only [Bool.false_eq_true, if_false]
    walk_at "y"
    refine eb_ixUL (itm_dI line0) (at_I (Int.natCast_nonneg _) (by rw [Int.toNat_natCast]; exact hx)) ?_
    walk_at "y"
    refine eb_ixUL (itm_TD _) (at_T ho) ?_
    walk_at "y"
    refine ec_len (itm_dI _) ?_
    walk_at "y"
    exact ⟨_, rfl, decide_eq_false (by rw [List.length_map]; omega), rfl⟩
  have hnil : (List.range n).filter (fun _ => false) = [] := List.filter_eq_nil_iff.mpr fun _ _ => by simp
  rw [hnil]
  refine ⟨[], rfl, ?_⟩
  walk_at "y"
  refine el_dat (el_lst ?_)
  walk_at "y"
  refine ⟨szOk (by decide), [], rfl, ?_⟩
  refine eb_neD (d := dI []) (e := dI []) (.dat _) (.dat _) (shaped_ints _) (shaped_ints _) ?_
  rw [eqv_dI]
  refine ⟨_, rfl, fun z => (by cases z), fun _ => ?_⟩
  walk_at "y"
  refine call_line_by_12 (c := cellAt ns 2 / 14) (hands := n) (rows := rows) (fallen := fallen) h2 hrl ?_
  walk_at "y"
  refine ⟨.cons (.dat _) (.cons (.dat _) (.cons (.dat _) .nil)), ?_⟩
  obtain ⟨d1, d2⟩ := line9_ok (c := cellAt ns 2 / 14) (hands := n) (rows := rows) (fallen := fallen)
  generalize line9 (cellAt ns 2 / 14) n rows (topLine n rows fallen) = drawn at d1 d2
  walk_at "y"
  refine sx_cut (fun δ ω => ω = [lRows rows] ∧ ∃ line, lineOk (told n rows) line = true ∧ noLater line (topLine n rows fallen) = true ∧ straysBy f (endsOf (told n rows) line) = [] ∧ δ = [some (.raw (.ref a)), some (.dat (.int n)), some (.dat (dRows rows)), some (.dat (dI fallen)), some (.dat (dT (told n rows))), some (.ptr 0), some (.dat (dI line)), some (.dat (dI drawn)), none, none, none, none, none, none, none]) ?_ ?_
  · walk_at "y"
    refine ⟨_, rfl, ?_⟩
    have stay : lineOk (told n rows) line0 = true ∧ noLater line0 (topLine n rows fallen) = true ∧ straysBy f (endsOf (told n rows) line0) = [] := ⟨k1, k3, k2⟩
    by_cases c1 : cellAt ns 2 / 7 % 2 = 1
    · rw [decide_eq_true c1]
      simp only [if_true]
      walk_at "y"
      refine call_has_stray hf d1 ?_
      walk_at "y"
      refine ⟨.cons (.dat _) (.cons (.dat _) (.cons (.dat _) .nil)), ?_⟩
      refine ⟨_, rfl, fun z => ?_, fun z => ?_⟩
      · have hz : straysBy f (endsOf (told n rows) drawn) = [] := by simpa using z
        walk_at "y"
        exact ⟨rfl, drawn, d1, d2, hz, rfl⟩
      · walk_at "y"
        exact ⟨rfl, line0, k1, k3, k2, rfl⟩
    · rw [decide_eq_false c1]
      simp only [Bool.false_eq_true, if_false]
      refine ⟨fun z => (by cases z), fun _ => ?_⟩
      walk_at "y"
      exact ⟨rfl, line0, k1, k3, k2, rfl⟩
  rintro δ ω ⟨rfl, line, hok, hlater, hs, rfl⟩
  clear k1 k2 k3 hlast hl0 d1 d2
  have hkM : keptM n rows line = .ok (endsOf (told n rows) line) := by
    unfold keptM endsM
    rw [hf]
    simp only
    rw [if_pos hok]
  have hleft : leftM n rows line = .ok (leftGo (endsOf (told n rows) line) f 0 rows) := by
    unfold leftM
    rw [hkM, hf]
    simp only
    rw [if_pos hs]
  obtain ⟨hA, hB⟩ := left_again hf hok hlater hfo hs
  obtain ⟨g, hg⟩ := left_history hf hs
  have hright : ∀ {δ : Sl} {ω : Om} {ts : TA} {P : A → Om → Prop}, EA H ts δ ω (fun bs ω1 => RdA ω1 bs [dRows (leftGo (endsOf (told n rows) line) f 0 rows), dRows rows, dT (told n rows), dI line] ∧ P (.dat (.bool true)) ω1) → EG H (tCall (sp_l_left_rightly K C) [] E0 ts) δ ω P := fun hh => call_left_rightly hf hok hs hh
  generalize leftGo (endsOf (told n rows) line) f 0 rows = left at hleft hA hB hg hright
  obtain ⟨_, _, hlz, hgoL⟩ := lettersM_ok hg
  have hneL := goL_need hgoL
  have shL := shaped_rows hneL
  walk_at "y"
  refine ec_own (ecl_list (itm_dI line) ?_)
  walk_at "y"
  refine el_own (call_left_own hleft ?_)
  walk_at "y"
  refine ⟨.cons (.dat _) (.cons (rd_rows rfl) (.cons (rd_dI rfl) .nil)), ?_⟩
  walk_at "yi"
  refine eb_neD (rd_rows rfl) (.dat _) sh sh ?_
  rw [eqv_rows_refl]
  refine ⟨_, rfl, ?_⟩
  simp only [Bool.not_true, Bool.false_eq_true, if_false]
  walk_at "y"
  refine eb_neD (d := dI line) (e := dI line) (rd_dI rfl) (.dat _) (shaped_ints _) (shaped_ints _) ?_
  rw [eqv_dI, decide_eq_true rfl]
  refine ⟨_, rfl, ?_⟩
  simp only [Bool.not_true, Bool.false_eq_true, if_false]
  walk_at "y"
  refine hright ?_
  walk_at "y"
  refine ⟨.cons (rd_rows rfl) (.cons (.dat _) (.cons (.dat _) (.cons (.dat _) .nil))), ?_⟩
  refine ⟨_, rfl, fun z => (by cases z), fun _ => ?_⟩
  walk_at "y"
  refine ec_own (ecl_list (.ptr rfl) ?_)
  walk_at "y"
  refine ⟨2, _, rfl, rfl, ?_⟩
  walk_at "y"
  refine ⟨[.str wNote, .int 0], rfl, szOk (show 2 ≤ 16777216 by decide), ?_⟩
  walk_at "y"
  refine ⟨_, _, rfl, rfl, szLt (by rw [List.length_map]; omega), ?_⟩
  walk_at "y"
  refine call_left_ok hleft ?_
  walk_at "y"
  refine ⟨.cons (.dat _) (.cons (rd_rows rfl) (.cons (rd_dI rfl) .nil)), ?_⟩
  walk_at "yi"
  refine eb_neD (rd_rows rfl) (.dat _) sh sh ?_
  rw [eqv_rows_refl]
  refine ⟨_, rfl, ?_⟩
  simp only [Bool.not_true, Bool.false_eq_true, if_false]
  walk_at "y"
  refine eb_neD (.dat _) (rd_rows (rows := left) rfl) shL shL ?_
  rw [eqv_rows_refl]
  refine ⟨_, rfl, fun z => (by cases z), fun _ => ?_⟩
  walk_at "y"
  refine el_dat (el_lcR (n := n) (by omega) (fun _ => true) (fun i => .int (((told1 left (i : Nat)).length : Int) - 1)) ?_ ?_ ?_)
  · walk_at "y"
    exact ⟨rfl, rfl⟩
  · rintro i hi ω' ⟨acc, rfl⟩
    refine ⟨?_, fun _ => ?_⟩
    · walk_at "y"
      exact ⟨rfl, rfl⟩
    · walk_at "y"
      refine eg_notes (h := ((i : Nat) : Int)) (rows := left) (by omega) hneL (by decide) rfl ?_ (by simp [wipeA_len]) ?_
      · walk_at "y"
        exact ⟨rfl, itm_rowsD left, fun _ => itm_rowsD left⟩
      walk_at "y"
      refine ec_len (.dat _) ?_
      rw [List.length_map, List.length_map, ← notes_count _ left 0]
      walk_at "y"
      refine ⟨?_, rfl⟩
      rw [told1_count]
      congr 2
      omega
  rw [filter_yes]
  have hnow : (List.range n).map (fun i : Nat => PyData.int (((told1 left (i : Nat)).length : Int) - 1)) = (nowM (told n left)).map .int := by
    unfold nowM told
    rw [List.map_map, List.map_map]
    rfl
  refine ⟨_, rfl, ?_⟩
  rw [hnow]
  walk_at "yi"
  refine call_last12 hA ?_
  walk_at "y"
  refine ec_dat (ecl_list (itm_rowsD left) ?_)
  refine ⟨left.map dRow, dat_rowsK left, ?_⟩
  walk_at "y"
  refine el_dat (el_lst ?_)
  walk_at "y"
  refine ⟨szOk (by decide), [], rfl, ?_⟩
  walk_at "y"
  refine ⟨.cons (.dat _) (.cons (.dat _) (.cons (.dat _) .nil)), ?_⟩
  walk_at "y"
  refine eb_neD (d := dI (nowM (told n left))) (e := dI (nowM (told n left))) (.dat _) (.dat _) (shaped_ints _) (shaped_ints _) ?_
  rw [eqv_dI, decide_eq_true rfl]
  refine ⟨_, rfl, fun z => (by cases z), fun _ => ?_⟩
  walk_at "y"
  refine call_steps12 hB ?_
  walk_at "y"
  refine ec_dat (ecl_list (itm_rowsD left) ?_)
  refine ⟨left.map dRow, dat_rowsK left, ?_⟩
  walk_at "y"
  refine ec_dat (ecl_list (itm_dI fallen) ?_)
  refine ⟨fallen.map .int, by rw [List.map_map]; rfl, ?_⟩
  walk_at "y"
  refine ⟨.cons (.dat _) (.cons (.dat _) (.cons (.dat _) .nil)), ?_⟩
  walk_at "y"
  refine el_dat (el_lst ?_)
  walk_at "y"
  refine ⟨szOk (by decide), [], rfl, ?_⟩
  refine eb_eqD (d := dI []) (e := dI []) (.dat _) (.dat _) (shaped_ints _) (shaped_ints _) ?_
  rw [eqv_dI, decide_eq_true rfl]
  exact .dat _
end Y

namespace Row
open PySem PySem.Spec L2 Y
/-! ### the text by places -/
def topS (i : Nat) : Stmt := PySem.Challenge.pw_lastline_k12_whole_left_is_a_history.main.body.getD i (.Pass ⟨0, 0, 0, 0⟩)
abbrev s_need_row : Stmt := topS 14
theorem sc_need_row : FnScope ["row"] ["row"] (defScope s_need_row) := ⟨rfl, rfl, rfl, by decide +kernel, rfl, by decide +kernel, by decide +kernel⟩
abbrev s_need_hand : Stmt := topS 15
theorem sc_need_hand : FnScope ["hands", "hand"] ["hands", "hand"] (defScope s_need_hand) := ⟨rfl, rfl, rfl, by decide +kernel, rfl, by decide +kernel, by decide +kernel⟩
abbrev s_need_letter : Stmt := topS 16
theorem sc_need_letter : FnScope ["found", "hand", "letter"] ["found", "hand", "letter"] (defScope s_need_letter) := ⟨rfl, rfl, rfl, by decide +kernel, rfl, by decide +kernel, by decide +kernel⟩
abbrev s_letters : Stmt := topS 17
theorem sc_letters : FnScope ["hands", "rows", "found", "place", "row"] ["hands", "rows"] (defScope s_letters) := ⟨rfl, rfl, rfl, by decide +kernel, rfl, by decide +kernel, by decide +kernel⟩
abbrev s_ends : Stmt := topS 19
theorem sc_ends : FnScope ["hands", "rows", "found", "place", "row", "hand", "own"] ["hands", "rows"] (defScope s_ends) := ⟨rfl, rfl, rfl, by decide +kernel, rfl, by decide +kernel, by decide +kernel⟩
abbrev s_need_line : Stmt := topS 20
theorem sc_need_line : FnScope ["told", "line", "hand", "number"] ["told", "line"] (defScope s_need_line) := ⟨rfl, rfl, rfl, by decide +kernel, rfl, by decide +kernel, by decide +kernel⟩
abbrev s_ends_of : Stmt := topS 21
theorem sc_ends_of : FnScope ["told", "line", "hand", "number"] ["told", "line"] (defScope s_ends_of) := ⟨rfl, rfl, rfl, by decide +kernel, rfl, by decide +kernel, by decide +kernel⟩
abbrev s_is_stray : Stmt := topS 22
theorem sc_is_stray : FnScope ["letter", "kept"] ["letter", "kept"] (defScope s_is_stray) := ⟨rfl, rfl, rfl, by decide +kernel, rfl, by decide +kernel, by decide +kernel⟩
abbrev s_strays_by : Stmt := topS 23
theorem sc_strays_by : FnScope ["found", "kept", "number", "letter"] ["found", "kept"] (defScope s_strays_by) := ⟨rfl, rfl, rfl, by decide +kernel, rfl, by decide +kernel, by decide +kernel⟩
abbrev s_kept_by : Stmt := topS 24
theorem sc_kept_by : FnScope ["hands", "rows", "line", "told"] ["hands", "rows", "line"] (defScope s_kept_by) := ⟨rfl, rfl, rfl, by decide +kernel, rfl, by decide +kernel, by decide +kernel⟩
abbrev s_new_numbers : Stmt := topS 26
theorem sc_new_numbers : FnScope ["found", "kept", "fresh", "number", "letter"] ["found", "kept"] (defScope s_new_numbers) := ⟨rfl, rfl, rfl, by decide +kernel, rfl, by decide +kernel, by decide +kernel⟩
abbrev s_sound_ends : Stmt := topS 27
theorem sc_sound_ends : FnScope ["hands", "rows", "line", "kept"] ["hands", "rows", "line"] (defScope s_sound_ends) := ⟨rfl, rfl, rfl, by decide +kernel, rfl, by decide +kernel, by decide +kernel⟩
abbrev s_left : Stmt := topS 28
theorem sc_left : FnScope ["hands", "rows", "line", "kept", "fresh", "found", "place", "row"] ["hands", "rows", "line"] (defScope s_left) := ⟨rfl, rfl, rfl, by decide +kernel, rfl, by decide +kernel, by decide +kernel⟩
abbrev s_number_ahead : Stmt := topS 30
theorem sc_number_ahead : FnScope ["own", "place", "found", "number", "end"] ["own", "place"] (defScope s_number_ahead) := ⟨rfl, rfl, rfl, by decide +kernel, rfl, by decide +kernel, by decide +kernel⟩
abbrev s_fall : Stmt := topS 31
theorem sc_fall : FnScope ["found", "told", "line", "taken", "wrong", "letter", "hand"] ["found", "told", "line"] (defScope s_fall) := ⟨rfl, rfl, rfl, by decide +kernel, rfl, by decide +kernel, by decide +kernel⟩
abbrev s_now : Stmt := topS 32
theorem sc_now : FnScope ["told", "own"] ["told"] (defScope s_now) := ⟨rfl, rfl, rfl, by decide +kernel, rfl, by decide +kernel, by decide +kernel⟩
abbrev s_top_line : Stmt := topS 33
theorem sc_top_line : FnScope ["hands", "rows", "fallen", "line", "hand"] ["hands", "rows", "fallen"] (defScope s_top_line) := ⟨rfl, rfl, rfl, by decide +kernel, rfl, by decide +kernel, by decide +kernel⟩
abbrev s_steps : Stmt := topS 34
theorem sc_steps : FnScope ["hands", "rows", "fallen", "line"] ["hands", "rows", "fallen"] (defScope s_steps) := ⟨rfl, rfl, rfl, by decide +kernel, rfl, by decide +kernel, by decide +kernel⟩
abbrev s_last_line : Stmt := topS 35
theorem sc_last_line : FnScope ["hands", "rows", "fallen", "line"] ["hands", "rows", "fallen"] (defScope s_last_line) := ⟨rfl, rfl, rfl, by decide +kernel, rfl, by decide +kernel, by decide +kernel⟩
abbrev s__law_cell_at : Stmt := topS 37
theorem sc__law_cell_at : FnScope ["_law_script", "_law_k"] ["_law_script", "_law_k"] (defScope s__law_cell_at) := ⟨rfl, rfl, rfl, by decide +kernel, rfl, by decide +kernel, by decide +kernel⟩
abbrev s__law_hands_by : Stmt := topS 38
theorem sc__law_hands_by : FnScope ["_law_cell"] ["_law_cell"] (defScope s__law_hands_by) := ⟨rfl, rfl, rfl, by decide +kernel, rfl, by decide +kernel, by decide +kernel⟩
abbrev s__law_cells_by : Stmt := topS 39
theorem sc__law_cells_by : FnScope ["_law_script", "_law_first", "_law_size", "_law_many", "_law_k"] ["_law_script", "_law_first"] (defScope s__law_cells_by) := ⟨rfl, rfl, rfl, by decide +kernel, rfl, by decide +kernel, by decide +kernel⟩
abbrev s__law_rows_by : Stmt := topS 40
theorem sc__law_rows_by : FnScope ["_law_cells", "_law_hands", "_law_rows", "_law_sent", "_law_waits", "_law_cell", "_law_kind", "_law_more", "_law_letter", "_law_one"] ["_law_cells", "_law_hands"] (defScope s__law_rows_by) := ⟨rfl, rfl, rfl, by decide +kernel, rfl, by decide +kernel, by decide +kernel⟩
abbrev s__law_fallen_by : Stmt := topS 41
theorem sc__law_fallen_by : FnScope ["_law_cell", "_law_hands", "_law_hand"] ["_law_cell", "_law_hands"] (defScope s__law_fallen_by) := ⟨rfl, rfl, rfl, by decide +kernel, rfl, by decide +kernel, by decide +kernel⟩
abbrev s__law_whole : Stmt := topS 42
theorem sc__law_whole : FnScope ["_law_found"] ["_law_found"] (defScope s__law_whole) := ⟨rfl, rfl, rfl, by decide +kernel, rfl, by decide +kernel, by decide +kernel⟩
abbrev s__law_line_told : Stmt := topS 43
theorem sc__law_line_told : FnScope ["_law_found", "_law_hands", "_law_one"] ["_law_found", "_law_hands"] (defScope s__law_line_told) := ⟨rfl, rfl, rfl, by decide +kernel, rfl, by decide +kernel, by decide +kernel⟩
abbrev s__law_ends_by : Stmt := topS 44
theorem sc__law_ends_by : FnScope ["_law_rows", "_law_hands", "_law_found", "_law_place", "_law_hand", "_law_own"] ["_law_rows", "_law_hands"] (defScope s__law_ends_by) := ⟨rfl, rfl, rfl, by decide +kernel, rfl, by decide +kernel, by decide +kernel⟩
abbrev s__law_has_stray : Stmt := topS 45
theorem sc__law_has_stray : FnScope ["_law_rows", "_law_told", "_law_line", "_law_sent", "_law_place", "_law_is_kept"] ["_law_rows", "_law_told", "_law_line"] (defScope s__law_has_stray) := ⟨rfl, rfl, rfl, by decide +kernel, rfl, by decide +kernel, by decide +kernel⟩
abbrev s__law_line_by : Stmt := topS 46
theorem sc__law_line_by : FnScope ["_law_cell", "_law_told", "_law_fallen", "_law_line", "_law_hand", "_law_number", "_law_latest", "_law_end"] ["_law_cell", "_law_told", "_law_fallen"] (defScope s__law_line_by) := ⟨rfl, rfl, rfl, by decide +kernel, rfl, by decide +kernel, by decide +kernel⟩
abbrev s__law_alike : Stmt := topS 47
theorem sc__law_alike : FnScope ["_law_row", "_law_old"] ["_law_row", "_law_old"] (defScope s__law_alike) := ⟨rfl, rfl, rfl, by decide +kernel, rfl, by decide +kernel, by decide +kernel⟩
abbrev s__law_left_rightly : Stmt := topS 48
theorem sc__law_left_rightly : FnScope ["_law_found", "_law_rows", "_law_told", "_law_line", "_law_kept", "_law_sends", "_law_fresh", "_law_k", "_law_old", "_law_at", "_law_place"] ["_law_found", "_law_rows", "_law_told", "_law_line"] (defScope s__law_left_rightly) := ⟨rfl, rfl, rfl, by decide +kernel, rfl, by decide +kernel, by decide +kernel⟩
abbrev s_law : Stmt := topS 49
theorem sc_law : FnScope ["_law_script", "_law_hands", "_law_rows", "_law_fallen", "_law_told", "_law_handed", "_law_line", "_law_drawn", "_law_given", "_law_found", "_law_kept", "_law_stays", "_law_hand", "_law_k", "_law_row"] ["_law_script"] (defScope s_law) := ⟨rfl, rfl, rfl, by decide +kernel, rfl, by decide +kernel, by decide +kernel⟩
/-! ### where the top has laid what -/
structure Ad where
  f_need_row : Addr
  d_need_row : FuncData
  f_need_hand : Addr
  d_need_hand : FuncData
  f_need_letter : Addr
  d_need_letter : FuncData
  f_letters : Addr
  d_letters : FuncData
  f_ends : Addr
  d_ends : FuncData
  f_need_line : Addr
  d_need_line : FuncData
  f_ends_of : Addr
  d_ends_of : FuncData
  f_is_stray : Addr
  d_is_stray : FuncData
  f_strays_by : Addr
  d_strays_by : FuncData
  f_kept_by : Addr
  d_kept_by : FuncData
  f_new_numbers : Addr
  d_new_numbers : FuncData
  f_sound_ends : Addr
  d_sound_ends : FuncData
  f_left : Addr
  d_left : FuncData
  f_number_ahead : Addr
  d_number_ahead : FuncData
  f_fall : Addr
  d_fall : FuncData
  f_now : Addr
  d_now : FuncData
  f_top_line : Addr
  d_top_line : FuncData
  f_steps : Addr
  d_steps : FuncData
  f_last_line : Addr
  d_last_line : FuncData
  f__law_cell_at : Addr
  d__law_cell_at : FuncData
  f__law_hands_by : Addr
  d__law_hands_by : FuncData
  f__law_cells_by : Addr
  d__law_cells_by : FuncData
  f__law_rows_by : Addr
  d__law_rows_by : FuncData
  f__law_fallen_by : Addr
  d__law_fallen_by : FuncData
  f__law_whole : Addr
  d__law_whole : FuncData
  f__law_line_told : Addr
  d__law_line_told : FuncData
  f__law_ends_by : Addr
  d__law_ends_by : FuncData
  f__law_has_stray : Addr
  d__law_has_stray : FuncData
  f__law_line_by : Addr
  d__law_line_by : FuncData
  f__law_alike : Addr
  d__law_alike : FuncData
  f__law_left_rightly : Addr
  d__law_left_rightly : FuncData
  f_law : Addr
  d_law : FuncData
  C_LineError : Addr
  C_NoHands : Addr
  C_TooMany : Addr
  C_NoRow : Addr
  C_NoHand : Addr
  C_NoLetter : Addr
  C_GotTwice : Addr
  C_NoLine : Addr
  C_Unsound : Addr
  a_PARTS : Addr
structure Tx (K : PySem.W.Frag) (mg : Str → Option Value) (w : World) (a : Ad) : Prop where
  F_need_row : Fun K "need_row" "need_row" s_need_row a.f_need_row a.d_need_row
  b_need_row : Binds K a.d_need_row ["row"] []
  g_need_row : mg "need_row" = some (.ref a.f_need_row)
  F_need_hand : Fun K "need_hand" "need_hand" s_need_hand a.f_need_hand a.d_need_hand
  b_need_hand : Binds K a.d_need_hand ["hands", "hand"] []
  g_need_hand : mg "need_hand" = some (.ref a.f_need_hand)
  F_need_letter : Fun K "need_letter" "need_letter" s_need_letter a.f_need_letter a.d_need_letter
  b_need_letter : Binds K a.d_need_letter ["found", "hand", "letter"] []
  g_need_letter : mg "need_letter" = some (.ref a.f_need_letter)
  F_letters : Fun K "letters" "letters" s_letters a.f_letters a.d_letters
  b_letters : Binds K a.d_letters ["hands", "rows"] []
  g_letters : mg "letters" = some (.ref a.f_letters)
  F_ends : Fun K "ends" "ends" s_ends a.f_ends a.d_ends
  b_ends : Binds K a.d_ends ["hands", "rows"] []
  g_ends : mg "ends" = some (.ref a.f_ends)
  F_need_line : Fun K "need_line" "need_line" s_need_line a.f_need_line a.d_need_line
  b_need_line : Binds K a.d_need_line ["told", "line"] []
  g_need_line : mg "need_line" = some (.ref a.f_need_line)
  F_ends_of : Fun K "ends_of" "ends_of" s_ends_of a.f_ends_of a.d_ends_of
  b_ends_of : Binds K a.d_ends_of ["told", "line"] []
  g_ends_of : mg "ends_of" = some (.ref a.f_ends_of)
  F_is_stray : Fun K "is_stray" "is_stray" s_is_stray a.f_is_stray a.d_is_stray
  b_is_stray : Binds K a.d_is_stray ["letter", "kept"] []
  g_is_stray : mg "is_stray" = some (.ref a.f_is_stray)
  F_strays_by : Fun K "strays_by" "strays_by" s_strays_by a.f_strays_by a.d_strays_by
  b_strays_by : Binds K a.d_strays_by ["found", "kept"] []
  g_strays_by : mg "strays_by" = some (.ref a.f_strays_by)
  F_kept_by : Fun K "kept_by" "kept_by" s_kept_by a.f_kept_by a.d_kept_by
  b_kept_by : Binds K a.d_kept_by ["hands", "rows", "line"] []
  g_kept_by : mg "kept_by" = some (.ref a.f_kept_by)
  F_new_numbers : Fun K "new_numbers" "new_numbers" s_new_numbers a.f_new_numbers a.d_new_numbers
  b_new_numbers : Binds K a.d_new_numbers ["found", "kept"] []
  g_new_numbers : mg "new_numbers" = some (.ref a.f_new_numbers)
  F_sound_ends : Fun K "sound_ends" "sound_ends" s_sound_ends a.f_sound_ends a.d_sound_ends
  b_sound_ends : Binds K a.d_sound_ends ["hands", "rows", "line"] []
  g_sound_ends : mg "sound_ends" = some (.ref a.f_sound_ends)
  F_left : Fun K "left" "left" s_left a.f_left a.d_left
  b_left : Binds K a.d_left ["hands", "rows", "line"] []
  g_left : mg "left" = some (.ref a.f_left)
  F_number_ahead : Fun K "number_ahead" "number_ahead" s_number_ahead a.f_number_ahead a.d_number_ahead
  b_number_ahead : Binds K a.d_number_ahead ["own", "place"] []
  g_number_ahead : mg "number_ahead" = some (.ref a.f_number_ahead)
  F_fall : Fun K "fall" "fall" s_fall a.f_fall a.d_fall
  b_fall : Binds K a.d_fall ["found", "told", "line"] []
  g_fall : mg "fall" = some (.ref a.f_fall)
  F_now : Fun K "now" "now" s_now a.f_now a.d_now
  b_now : Binds K a.d_now ["told"] []
  g_now : mg "now" = some (.ref a.f_now)
  F_top_line : Fun K "top_line" "top_line" s_top_line a.f_top_line a.d_top_line
  b_top_line : Binds K a.d_top_line ["hands", "rows", "fallen"] []
  g_top_line : mg "top_line" = some (.ref a.f_top_line)
  F_steps : Fun K "steps" "steps" s_steps a.f_steps a.d_steps
  b_steps : Binds K a.d_steps ["hands", "rows", "fallen"] []
  g_steps : mg "steps" = some (.ref a.f_steps)
  F_last_line : Fun K "last_line" "last_line" s_last_line a.f_last_line a.d_last_line
  b_last_line : Binds K a.d_last_line ["hands", "rows", "fallen"] []
  g_last_line : mg "last_line" = some (.ref a.f_last_line)
  F__law_cell_at : Fun K "_law_cell_at" "_law_cell_at" s__law_cell_at a.f__law_cell_at a.d__law_cell_at
  b__law_cell_at : Binds K a.d__law_cell_at ["_law_script", "_law_k"] []
  g__law_cell_at : mg "_law_cell_at" = some (.ref a.f__law_cell_at)
  F__law_hands_by : Fun K "_law_hands_by" "_law_hands_by" s__law_hands_by a.f__law_hands_by a.d__law_hands_by
  b__law_hands_by : Binds K a.d__law_hands_by ["_law_cell"] []
  g__law_hands_by : mg "_law_hands_by" = some (.ref a.f__law_hands_by)
  F__law_cells_by : Fun K "_law_cells_by" "_law_cells_by" s__law_cells_by a.f__law_cells_by a.d__law_cells_by
  b__law_cells_by : Binds K a.d__law_cells_by ["_law_script", "_law_first"] []
  g__law_cells_by : mg "_law_cells_by" = some (.ref a.f__law_cells_by)
  F__law_rows_by : Fun K "_law_rows_by" "_law_rows_by" s__law_rows_by a.f__law_rows_by a.d__law_rows_by
  b__law_rows_by : Binds K a.d__law_rows_by ["_law_cells", "_law_hands"] []
  g__law_rows_by : mg "_law_rows_by" = some (.ref a.f__law_rows_by)
  F__law_fallen_by : Fun K "_law_fallen_by" "_law_fallen_by" s__law_fallen_by a.f__law_fallen_by a.d__law_fallen_by
  b__law_fallen_by : Binds K a.d__law_fallen_by ["_law_cell", "_law_hands"] []
  g__law_fallen_by : mg "_law_fallen_by" = some (.ref a.f__law_fallen_by)
  F__law_whole : Fun K "_law_whole" "_law_whole" s__law_whole a.f__law_whole a.d__law_whole
  b__law_whole : Binds K a.d__law_whole ["_law_found"] []
  g__law_whole : mg "_law_whole" = some (.ref a.f__law_whole)
  F__law_line_told : Fun K "_law_line_told" "_law_line_told" s__law_line_told a.f__law_line_told a.d__law_line_told
  b__law_line_told : Binds K a.d__law_line_told ["_law_found", "_law_hands"] []
  g__law_line_told : mg "_law_line_told" = some (.ref a.f__law_line_told)
  F__law_ends_by : Fun K "_law_ends_by" "_law_ends_by" s__law_ends_by a.f__law_ends_by a.d__law_ends_by
  b__law_ends_by : Binds K a.d__law_ends_by ["_law_rows", "_law_hands"] []
  g__law_ends_by : mg "_law_ends_by" = some (.ref a.f__law_ends_by)
  F__law_has_stray : Fun K "_law_has_stray" "_law_has_stray" s__law_has_stray a.f__law_has_stray a.d__law_has_stray
  b__law_has_stray : Binds K a.d__law_has_stray ["_law_rows", "_law_told", "_law_line"] []
  g__law_has_stray : mg "_law_has_stray" = some (.ref a.f__law_has_stray)
  F__law_line_by : Fun K "_law_line_by" "_law_line_by" s__law_line_by a.f__law_line_by a.d__law_line_by
  b__law_line_by : Binds K a.d__law_line_by ["_law_cell", "_law_told", "_law_fallen"] []
  g__law_line_by : mg "_law_line_by" = some (.ref a.f__law_line_by)
  F__law_alike : Fun K "_law_alike" "_law_alike" s__law_alike a.f__law_alike a.d__law_alike
  b__law_alike : Binds K a.d__law_alike ["_law_row", "_law_old"] []
  g__law_alike : mg "_law_alike" = some (.ref a.f__law_alike)
  F__law_left_rightly : Fun K "_law_left_rightly" "_law_left_rightly" s__law_left_rightly a.f__law_left_rightly a.d__law_left_rightly
  b__law_left_rightly : Binds K a.d__law_left_rightly ["_law_found", "_law_rows", "_law_told", "_law_line"] []
  g__law_left_rightly : mg "_law_left_rightly" = some (.ref a.f__law_left_rightly)
  F_law : Fun K "law" "law" s_law a.f_law a.d_law
  b_law : Binds K a.d_law ["_law_script"] []
  g_law : mg "law" = some (.ref a.f_law)
  n_bool : mg "bool" = none
  n_enumerate : mg "enumerate" = none
  n_int : mg "int" = none
  n_isinstance : mg "isinstance" = none
  n_len : mg "len" = none
  n_list : mg "list" = none
  n_min : mg "min" = none
  n_range : mg "range" = none
  n_str : mg "str" = none
  n_tuple : mg "tuple" = none
  m_HANDS : ∃ t, mg "HANDS" = some (.int 40 t)
  m_ROWS : ∃ t, mg "ROWS" = some (.int 1000 t)
  g_PARTS : mg "PARTS" = some (.ref a.a_PARTS)
  parts : PartsOk K w a.a_PARTS
  g_LineError : mg "LineError" = some (.ref a.C_LineError)
  g_NoHands : mg "NoHands" = some (.ref a.C_NoHands)
  g_TooMany : mg "TooMany" = some (.ref a.C_TooMany)
  g_NoRow : mg "NoRow" = some (.ref a.C_NoRow)
  g_NoHand : mg "NoHand" = some (.ref a.C_NoHand)
  g_NoLetter : mg "NoLetter" = some (.ref a.C_NoLetter)
  g_GotTwice : mg "GotTwice" = some (.ref a.C_GotTwice)
  g_NoLine : mg "NoLine" = some (.ref a.C_NoLine)
  g_Unsound : mg "Unsound" = some (.ref a.C_Unsound)
  x_GotTwice : PySem.W.excIn K a.C_GotTwice [.type "ValueError", .type "Exception", .type "BaseException", .type "object"] "ValueError.__new__" = true
  k_GotTwice : PySem.W.keepIn K (.ref a.C_GotTwice) = true
  bs_GotTwice : PySem.W.subIn K (.ref a.C_GotTwice) (.type "BaseException") = some true
  tp_GotTwice : PySem.W.typeIn K (.ref a.C_GotTwice) = some (.type "type")
  x_NoHand : PySem.W.excIn K a.C_NoHand [.type "ValueError", .type "Exception", .type "BaseException", .type "object"] "ValueError.__new__" = true
  k_NoHand : PySem.W.keepIn K (.ref a.C_NoHand) = true
  bs_NoHand : PySem.W.subIn K (.ref a.C_NoHand) (.type "BaseException") = some true
  tp_NoHand : PySem.W.typeIn K (.ref a.C_NoHand) = some (.type "type")
  x_NoHands : PySem.W.excIn K a.C_NoHands [.type "ValueError", .type "Exception", .type "BaseException", .type "object"] "ValueError.__new__" = true
  k_NoHands : PySem.W.keepIn K (.ref a.C_NoHands) = true
  bs_NoHands : PySem.W.subIn K (.ref a.C_NoHands) (.type "BaseException") = some true
  tp_NoHands : PySem.W.typeIn K (.ref a.C_NoHands) = some (.type "type")
  x_NoLetter : PySem.W.excIn K a.C_NoLetter [.type "ValueError", .type "Exception", .type "BaseException", .type "object"] "ValueError.__new__" = true
  k_NoLetter : PySem.W.keepIn K (.ref a.C_NoLetter) = true
  bs_NoLetter : PySem.W.subIn K (.ref a.C_NoLetter) (.type "BaseException") = some true
  tp_NoLetter : PySem.W.typeIn K (.ref a.C_NoLetter) = some (.type "type")
  x_NoLine : PySem.W.excIn K a.C_NoLine [.type "ValueError", .type "Exception", .type "BaseException", .type "object"] "ValueError.__new__" = true
  k_NoLine : PySem.W.keepIn K (.ref a.C_NoLine) = true
  bs_NoLine : PySem.W.subIn K (.ref a.C_NoLine) (.type "BaseException") = some true
  tp_NoLine : PySem.W.typeIn K (.ref a.C_NoLine) = some (.type "type")
  x_NoRow : PySem.W.excIn K a.C_NoRow [.type "ValueError", .type "Exception", .type "BaseException", .type "object"] "ValueError.__new__" = true
  k_NoRow : PySem.W.keepIn K (.ref a.C_NoRow) = true
  bs_NoRow : PySem.W.subIn K (.ref a.C_NoRow) (.type "BaseException") = some true
  tp_NoRow : PySem.W.typeIn K (.ref a.C_NoRow) = some (.type "type")
  x_TooMany : PySem.W.excIn K a.C_TooMany [.type "ValueError", .type "Exception", .type "BaseException", .type "object"] "ValueError.__new__" = true
  k_TooMany : PySem.W.keepIn K (.ref a.C_TooMany) = true
  bs_TooMany : PySem.W.subIn K (.ref a.C_TooMany) (.type "BaseException") = some true
  tp_TooMany : PySem.W.typeIn K (.ref a.C_TooMany) = some (.type "type")
  x_Unsound : PySem.W.excIn K a.C_Unsound [.type "ValueError", .type "Exception", .type "BaseException", .type "object"] "ValueError.__new__" = true
  k_Unsound : PySem.W.keepIn K (.ref a.C_Unsound) = true
  bs_Unsound : PySem.W.subIn K (.ref a.C_Unsound) (.type "BaseException") = some true
  tp_Unsound : PySem.W.typeIn K (.ref a.C_Unsound) = some (.type "type")
def Ad.C (a : Ad) : Er → Addr
  | .NoHands => a.C_NoHands
  | .TooMany => a.C_TooMany
  | .NoRow => a.C_NoRow
  | .NoHand => a.C_NoHand
  | .NoLetter => a.C_NoLetter
  | .GotTwice => a.C_GotTwice
  | .NoLine => a.C_NoLine
  | .Unsound => a.C_Unsound
section
variable {P : Program} {w : World} {K : PySem.W.Frag} {mg : Str → Option Value} {base : Heap} {a : Ad}
theorem dv_need_row (T : Tx K mg w a)  (cdv : Value) (A : Around) (outer : List PySem.Env) (s : Shared) (H : Hp) (E : XK) (hr : Room 0 (A.deeper (PyProof.Rows.envOfC "need_row" (defScope s_need_row) s.heap.objs.size a.f_need_row cdv))) :
    PSs (cxOf (L2.CX P w) P w K mg base ["row"] "need_row" (defScope s_need_row) a.f_need_row cdv A outer s H E) (defBody s_need_row) (t_need_row K E  a.C_NoRow) := by
  exact (pss_cons (ps_if (PW.pt (pw_or (pt_cmpR (op_eqD hr.units) (pe_callB call_lenU (by rfl) T.n_len PySem.boot_len (pa_cons (pv 0) pa_nil)) pe_int (nomark _)) (pw_or1 (pt_partsNot T.parts (by rfl) T.g_PARTS (pe_ix ix_seq (pv 0) pe_int (fun _ _ => rfl)) mono_ix)))) (pss_one (ps_raise rfl (takes_of rfl rfl rfl rfl) (pmk_own PySem.F.excBase_ValueError (T.x_NoRow) T.g_NoRow T.k_NoRow (raises_own T.bs_NoRow T.tp_NoRow) (by rfl)))) pss_nil) (pss_one (ps_if (pt_cmpR (op_neD hr.units) (pe_callB call_lenU (by rfl) T.n_len PySem.boot_len (pa_cons (pv 0) pa_nil)) (pe_partsIx T.parts (by rfl) T.g_PARTS (pe_ix ix_seq (pv 0) pe_int (fun _ _ => rfl)) mono_ix) (nomark _)) (pss_one (ps_raise rfl (takes_of rfl rfl rfl rfl) (pmk_own PySem.F.excBase_ValueError (T.x_NoRow) T.g_NoRow T.k_NoRow (raises_own T.bs_NoRow T.tp_NoRow) (by rfl)))) pss_nil)))
theorem ok_need_row (T : Tx K mg w a) : FnOk P w K mg base (L2.CX P w) 1 a.f_need_row a.d_need_row ["row"] (sp_need_row K a.C) :=
  okR T.F_need_row sc_need_row (fun _ _ h => len_need_row h) 0 rfl (fun E => t_need_row K E  a.C_NoRow) (fun cdv A outer s H E hr => dv_need_row T  cdv A outer s H E hr) (fun H E ds r h he => wk_need_row K a.C H E ds r h he)
theorem dv_need_hand (T : Tx K mg w a)  (cdv : Value) (A : Around) (outer : List PySem.Env) (s : Shared) (H : Hp) (E : XK) (hr : Room 0 (A.deeper (PyProof.Rows.envOfC "need_hand" (defScope s_need_hand) s.heap.objs.size a.f_need_hand cdv))) :
    PSs (cxOf (L2.CX P w) P w K mg base ["hands", "hand"] "need_hand" (defScope s_need_hand) a.f_need_hand cdv A outer s H E) (defBody s_need_hand) (t_need_hand K E  a.C_NoHand) := by
  exact (pss_one (ps_if (PW.pt (pw_or (pt_cmpR op_lt (pv 1) pe_int (nomark _)) (pw_or1 (pt_cmpR op_ge (pv 1) (pv 0) (nomark _))))) (pss_one (ps_raise rfl (takes_of rfl rfl rfl rfl) (pmk_own PySem.F.excBase_ValueError (T.x_NoHand) T.g_NoHand T.k_NoHand (raises_own T.bs_NoHand T.tp_NoHand) (by rfl)))) pss_nil))
theorem ok_need_hand (T : Tx K mg w a) : FnOk P w K mg base (L2.CX P w) 1 a.f_need_hand a.d_need_hand ["hands", "hand"] (sp_need_hand K a.C) :=
  okR T.F_need_hand sc_need_hand (fun _ _ h => len_need_hand h) 0 rfl (fun E => t_need_hand K E  a.C_NoHand) (fun cdv A outer s H E hr => dv_need_hand T  cdv A outer s H E hr) (fun H E ds r h he => wk_need_hand K a.C H E ds r h he)
theorem dv_need_letter (T : Tx K mg w a)  (cdv : Value) (A : Around) (outer : List PySem.Env) (s : Shared) (H : Hp) (E : XK) (hr : Room 0 (A.deeper (PyProof.Rows.envOfC "need_letter" (defScope s_need_letter) s.heap.objs.size a.f_need_letter cdv))) :
    PSs (cxOf (L2.CX P w) P w K mg base ["found", "hand", "letter"] "need_letter" (defScope s_need_letter) a.f_need_letter cdv A outer s H E) (defBody s_need_letter) (t_need_letter K E  a.C_NoLetter a.C_GotTwice) := by
  exact (pss_cons (ps_if (PW.pt (pw_or (pt_cmpR op_lt (pv 2) pe_int (nomark _)) (pw_or1 (pt_cmpR op_ge (pv 2) (pe_callB call_lenU (by rfl) T.n_len PySem.boot_len (pa_cons (pv 0) pa_nil)) (nomark _))))) (pss_one (ps_raise rfl (takes_of rfl rfl rfl rfl) (pmk_own PySem.F.excBase_ValueError (T.x_NoLetter) T.g_NoLetter T.k_NoLetter (raises_own T.bs_NoLetter T.tp_NoLetter) (by rfl)))) pss_nil) (pss_cons (ps_if (pt_cmpR (op_neD hr.units) (pe_ix ix_seq (pe_ix ix_seq (pv 0) (pv 2) (fun _ _ => rfl)) pe_int (fun _ _ => rfl)) (pv 1) (nomark _)) (pss_one (ps_raise rfl (takes_of rfl rfl rfl rfl) (pmk_own PySem.F.excBase_ValueError (T.x_NoLetter) T.g_NoLetter T.k_NoLetter (raises_own T.bs_NoLetter T.tp_NoLetter) (by rfl)))) pss_nil) (pss_one (ps_if (pt_cmp (pc_notN (pe_ix ix_seq (pe_ix ix_seq (pv 0) (pv 2) (fun _ _ => rfl)) pe_int (fun _ _ => rfl)))) (pss_one (ps_raise rfl (takes_of rfl rfl rfl rfl) (pmk_own PySem.F.excBase_ValueError (T.x_GotTwice) T.g_GotTwice T.k_GotTwice (raises_own T.bs_GotTwice T.tp_GotTwice) (by rfl)))) pss_nil))))
theorem ok_need_letter (T : Tx K mg w a) : FnOk P w K mg base (L2.CX P w) 1 a.f_need_letter a.d_need_letter ["found", "hand", "letter"] (sp_need_letter K a.C) :=
  okR T.F_need_letter sc_need_letter (fun _ _ h => len_need_letter h) 0 rfl (fun E => t_need_letter K E  a.C_NoLetter a.C_GotTwice) (fun cdv A outer s H E hr => dv_need_letter T  cdv A outer s H E hr) (fun H E ds r h he => wk_need_letter K a.C H E ds r h he)
theorem dv_letters (T : Tx K mg w a) {s_need_row s_need_hand s_need_letter : Sp} (G_need_row : FnOk P w K mg base (L2.CX P w) 1 a.f_need_row a.d_need_row ["row"] s_need_row) (G_need_hand : FnOk P w K mg base (L2.CX P w) 1 a.f_need_hand a.d_need_hand ["hands", "hand"] s_need_hand) (G_need_letter : FnOk P w K mg base (L2.CX P w) 1 a.f_need_letter a.d_need_letter ["found", "hand", "letter"] s_need_letter) (cdv : Value) (A : Around) (outer : List PySem.Env) (s : Shared) (H : Hp) (E : XK) (hr : Room 1 (A.deeper (PyProof.Rows.envOfC "letters" (defScope s_letters) s.heap.objs.size a.f_letters cdv))) :
    PSs (cxOf (L2.CX P w) P w K mg base ["hands", "rows", "found", "place", "row"] "letters" (defScope s_letters) a.f_letters cdv A outer s H E) (defBody s_letters) (t_letters K E s_need_row s_need_hand s_need_letter a.C_NoHands a.C_TooMany) := by
  exact (pss_cons (ps_if (PW.pt (pw_or (pt_cmpR op_lt (pv 0) pe_int (nomark _)) (pw_or1 (pt_cmpR op_gt (pv 0) (pe_glob (v := .int 40) rfl T.m_HANDS.choose_spec ⟨_, rfl⟩) (nomark _))))) (pss_one (ps_raise rfl (takes_of rfl rfl rfl rfl) (pmk_own PySem.F.excBase_ValueError (T.x_NoHands) T.g_NoHands T.k_NoHands (raises_own T.bs_NoHands T.tp_NoHands) (by rfl)))) pss_nil) (pss_cons (ps_if (pt_cmpR op_gt (pe_callB call_lenU (by rfl) T.n_len PySem.boot_len (pa_cons (pv 1) pa_nil)) (pe_glob (v := .int 1000) rfl T.m_ROWS.choose_spec ⟨_, rfl⟩) (nomark _)) (pss_one (ps_raise rfl (takes_of rfl rfl rfl rfl) (pmk_own PySem.F.excBase_ValueError (T.x_TooMany) T.g_TooMany T.k_TooMany (raises_own T.bs_TooMany T.tp_TooMany) (by rfl)))) pss_nil) (pss_cons (ps_set (i := 2) sc_letters.nd rfl (Or.inl rfl) (pe_lst pa_nil)) (pss_cons (ps_for (passes_of rfl) rfl (pi_enum (by rfl) T.n_enumerate (pa_cons (pv 1) pa_nil)) (pg_tup rfl (pgs_cons (pg_name (i := 3) sc_letters.nd rfl (Or.inl rfl)) (pgs_cons (pg_name (i := 4) sc_letters.nd rfl (Or.inl rfl)) pgs_nil))) (pss_cons (ps_expr (pe_call G_need_row (hr.mono (by decide)) (by rfl) T.g_need_row T.F_need_row.kp T.b_need_row .nil (passes_call (takes_of rfl rfl rfl rfl) (fun _ _ _ _ h => h)) (pa_cons (pv 4) pa_nil))) (pss_cons (ps_expr (pe_call G_need_hand (hr.mono (by decide)) (by rfl) T.g_need_hand T.F_need_hand.kp T.b_need_hand .nil (passes_call (takes_of rfl rfl rfl rfl) (fun _ _ _ _ h => h)) (pa_cons (pv 0) (pa_cons (pe_ix ix_seq (pv 4) pe_int (fun _ _ => rfl)) pa_nil)))) (pss_cons (ps_if (pt_cmpR (op_eqD hr.units) (pe_ix ix_seq (pv 4) pe_int (fun _ _ => rfl)) pe_str (nomark _)) (pss_cons (ps_expr (pe_call G_need_hand (hr.mono (by decide)) (by rfl) T.g_need_hand T.F_need_hand.kp T.b_need_hand .nil (passes_call (takes_of rfl rfl rfl rfl) (fun _ _ _ _ h => h)) (pa_cons (pv 0) (pa_cons (pe_ix ix_seq (pv 4) pe_int (fun _ _ => rfl)) pa_nil)))) (pss_one (ps_expr (pe_bm PySem.F.plainAttrs_list PySem.F.slot_list_append PySem.F.type_list_append mt_append (pv 2) (pa_cons (pe_tup (pa_cons (pe_ix ix_seq (pv 4) pe_int (fun _ _ => rfl)) (pa_cons (pe_ix ix_seq (pv 4) pe_int (fun _ _ => rfl)) (pa_cons (pv 3) (pa_cons pe_non pa_nil))))) pa_nil))))) pss_nil) (pss_one (ps_if (pt_cmpR (op_eqD hr.units) (pe_ix ix_seq (pv 4) pe_int (fun _ _ => rfl)) pe_str (nomark _)) (pss_cons (ps_expr (pe_call G_need_letter (hr.mono (by decide)) (by rfl) T.g_need_letter T.F_need_letter.kp T.b_need_letter .nil (passes_call (takes_of rfl rfl rfl rfl) (fun _ _ _ _ h => h)) (pa_cons (pv 2) (pa_cons (pe_ix ix_seq (pv 4) pe_int (fun _ _ => rfl)) (pa_cons (pe_ix ix_seq (pv 4) pe_int (fun _ _ => rfl)) pa_nil))))) (pss_one (ps_asg (pe_op op_addU (pe_slice sl_U (pe_ix ix_seq (pv 2) (pe_ix ix_seq (pv 4) pe_int (fun _ _ => rfl)) (fun _ _ => rfl)) po_none (po_some pe_int)) (pe_tup (pa_cons (pv 3) pa_nil))) (pg_sub (pv 2) (pe_ix ix_seq (pv 4) pe_int (fun _ _ => rfl)) set_list)))) pss_nil)))))) (pss_one (ps_ret (pv 2)))))))
theorem ok_letters (T : Tx K mg w a) : FnOk P w K mg base (L2.CX P w) 2 a.f_letters a.d_letters ["hands", "rows"] (sp_letters K a.C) :=
  okR T.F_letters sc_letters (fun _ _ h => len_letters h) 3 rfl (fun E => t_letters K E (sp_need_row K a.C) (sp_need_hand K a.C) (sp_need_letter K a.C) a.C_NoHands a.C_TooMany) (fun cdv A outer s H E hr => dv_letters T (ok_need_row T) (ok_need_hand T) (ok_need_letter T) cdv A outer s H E hr) (fun H E ds r h he => wk_letters K a.C H E ds r h he)
theorem dv_ends (T : Tx K mg w a) {s_letters : Sp} (G_letters : FnOk P w K mg base (L2.CX P w) 2 a.f_letters a.d_letters ["hands", "rows"] s_letters) (cdv : Value) (A : Around) (outer : List PySem.Env) (s : Shared) (H : Hp) (E : XK) (hr : Room 2 (A.deeper (PyProof.Rows.envOfC "ends" (defScope s_ends) s.heap.objs.size a.f_ends cdv))) :
    PSs (cxOf (L2.CX P w) P w K mg base ["hands", "rows", "found", "place", "row", "hand", "own"] "ends" (defScope s_ends) a.f_ends cdv A outer s H E) (defBody s_ends) (t_ends K E s_letters ) := by
  exact (pss_cons (ps_expr (pe_call G_letters (hr.mono (by decide)) (by rfl) T.g_letters T.F_letters.kp T.b_letters .nil (passes_call (takes_of rfl rfl rfl rfl) (fun _ _ _ _ h => h)) (pa_cons (pv 0) (pa_cons (pv 1) pa_nil)))) (pss_cons (ps_setLc (i := 2) (own := [("hand", 5)]) rfl sc_ends.nd rfl rfl (sw_true rfl rfl rfl (by decide +kernel)) (pi_range1 (by rfl) T.n_range (pa_cons (pv 0) pa_nil)) (blkOk_by (N := ["hands", "rows", "found", "place", "row", "hand", "own"]) (sc := (defScope s_ends)) (own := [("hand", 5)]) (by decide +kernel)) (fun _ _ _ _ _ => (pg_name (i := 5) sc_ends.nd rfl (Or.inl rfl))) (fun _ _ _ _ _ => pts_nil) (fun _ _ _ _ _ => (pe_lst (pa_cons pe_int pa_nil)))) (pss_cons (ps_for (passes_of rfl) rfl (pi_enum (by rfl) T.n_enumerate (pa_cons (pv 1) pa_nil)) (pg_tup rfl (pgs_cons (pg_name (i := 3) sc_ends.nd rfl (Or.inl rfl)) (pgs_cons (pg_name (i := 4) sc_ends.nd rfl (Or.inl rfl)) pgs_nil))) (pss_one (ps_if (pt_cmpR (op_eqD hr.units) (pe_ix ix_seq (pv 4) pe_int (fun _ _ => rfl)) pe_str (nomark _)) (pss_one (ps_expr (pe_bm PySem.F.plainAttrs_list PySem.F.slot_list_append PySem.F.type_list_append mt_append (pe_ix ix_seq (pv 2) (pe_ix ix_seq (pv 4) pe_int (fun _ _ => rfl)) (fun _ _ => rfl)) (pa_cons (pe_op op_addU (pv 3) pe_int) pa_nil)))) pss_nil))) (pss_one (ps_ret (pe_lc (own := [("own", 6)]) rfl sc_ends.nd (pi_list (pv 2)) (blkOk_by (N := ["hands", "rows", "found", "place", "row", "hand", "own"]) (sc := (defScope s_ends)) (own := [("own", 6)]) (by decide +kernel)) (fun _ _ _ _ _ => (pg_name (i := 6) sc_ends.nd rfl (Or.inl rfl))) (fun _ _ _ _ _ => pts_nil) (fun _ _ _ _ _ => (pe_op op_addU (pv 6) (pe_lst (pa_cons (pe_callB call_lenU (by rfl) T.n_len PySem.boot_len (pa_cons (pv 1) pa_nil)) pa_nil))))))))))
theorem ok_ends (T : Tx K mg w a) : FnOk P w K mg base (L2.CX P w) 3 a.f_ends a.d_ends ["hands", "rows"] (sp_ends K a.C) :=
  okR T.F_ends sc_ends (fun _ _ h => len_ends h) 5 rfl (fun E => t_ends K E (sp_letters K a.C) ) (fun cdv A outer s H E hr => dv_ends T (ok_letters T) cdv A outer s H E hr) (fun H E ds r h he => wk_ends K a.C H E ds r h he)
theorem dv_need_line (T : Tx K mg w a)  (cdv : Value) (A : Around) (outer : List PySem.Env) (s : Shared) (H : Hp) (E : XK) (hr : Room 0 (A.deeper (PyProof.Rows.envOfC "need_line" (defScope s_need_line) s.heap.objs.size a.f_need_line cdv))) :
    PSs (cxOf (L2.CX P w) P w K mg base ["told", "line", "hand", "number"] "need_line" (defScope s_need_line) a.f_need_line cdv A outer s H E) (defBody s_need_line) (t_need_line K E  a.C_NoLine) := by
  exact (pss_cons (ps_if (pt_cmpR (op_neD hr.units) (pe_callB call_lenU (by rfl) T.n_len PySem.boot_len (pa_cons (pv 1) pa_nil)) (pe_callB call_lenU (by rfl) T.n_len PySem.boot_len (pa_cons (pv 0) pa_nil)) (nomark _)) (pss_one (ps_raise rfl (takes_of rfl rfl rfl rfl) (pmk_own PySem.F.excBase_ValueError (T.x_NoLine) T.g_NoLine T.k_NoLine (raises_own T.bs_NoLine T.tp_NoLine) (by rfl)))) pss_nil) (pss_one (ps_for (passes_of rfl) rfl (pi_enum (by rfl) T.n_enumerate (pa_cons (pv 1) pa_nil)) (pg_tup rfl (pgs_cons (pg_name (i := 2) sc_need_line.nd rfl (Or.inl rfl)) (pgs_cons (pg_name (i := 3) sc_need_line.nd rfl (Or.inl rfl)) pgs_nil))) (pss_one (ps_if (PW.pt (pw_or (pt_cmpR op_lt (pv 3) pe_int (nomark _)) (pw_or1 (pt_cmpR op_ge (pv 3) (pe_callB call_lenU (by rfl) T.n_len PySem.boot_len (pa_cons (pe_ix ix_seq (pv 0) (pv 2) (fun _ _ => rfl)) pa_nil)) (nomark _))))) (pss_one (ps_raise rfl (takes_of rfl rfl rfl rfl) (pmk_own PySem.F.excBase_ValueError (T.x_NoLine) T.g_NoLine T.k_NoLine (raises_own T.bs_NoLine T.tp_NoLine) (by rfl)))) pss_nil)))))
theorem ok_need_line (T : Tx K mg w a) : FnOk P w K mg base (L2.CX P w) 1 a.f_need_line a.d_need_line ["told", "line"] (sp_need_line K a.C) :=
  okR T.F_need_line sc_need_line (fun _ _ h => len_need_line h) 2 rfl (fun E => t_need_line K E  a.C_NoLine) (fun cdv A outer s H E hr => dv_need_line T  cdv A outer s H E hr) (fun H E ds r h he => wk_need_line K a.C H E ds r h he)
theorem dv_ends_of (T : Tx K mg w a)  (cdv : Value) (A : Around) (outer : List PySem.Env) (s : Shared) (H : Hp) (E : XK) (hr : Room 0 (A.deeper (PyProof.Rows.envOfC "ends_of" (defScope s_ends_of) s.heap.objs.size a.f_ends_of cdv))) :
    PSs (cxOf CX0 P w K mg base ["told", "line", "hand", "number"] "ends_of" (defScope s_ends_of) a.f_ends_of cdv A outer s H E).nox (defBody s_ends_of) (t_ends_of K  ) := by
  exact (pss_one (ps_ret (pe_lc (own := [("hand", 2), ("number", 3)]) rfl sc_ends_of.nd (pi_enum (by rfl) T.n_enumerate (pa_cons (pv 1) pa_nil)) (blkOk_by (N := ["told", "line", "hand", "number"]) (sc := (defScope s_ends_of)) (own := [("hand", 2), ("number", 3)]) (by decide +kernel)) (fun _ _ _ _ _ => (pg_tup rfl (pgs_cons (pg_name (i := 2) sc_ends_of.nd rfl (Or.inl rfl)) (pgs_cons (pg_name (i := 3) sc_ends_of.nd rfl (Or.inl rfl)) pgs_nil)))) (fun _ _ _ _ _ => pts_nil) (fun _ _ _ _ _ => (pe_ix ix_seq (pe_ix ix_seq (pv 0) (pv 2) (fun _ _ => rfl)) (pv 3) (fun _ _ => rfl))))))
theorem ok_ends_of (T : Tx K mg w a) : FnOk P w K mg base CX0 1 a.f_ends_of a.d_ends_of ["told", "line"] (sp_ends_of K a.C) :=
  okN T.F_ends_of sc_ends_of (fun _ _ h => len_ends_of h) 2 rfl (t_ends_of K  ) (fun cdv A outer s H E hr => dv_ends_of T  cdv A outer s H E hr) (fun H ds r h => wk_ends_of K a.C H ds r h)
theorem dv_is_stray (T : Tx K mg w a)  (cdv : Value) (A : Around) (outer : List PySem.Env) (s : Shared) (H : Hp) (E : XK) (hr : Room 0 (A.deeper (PyProof.Rows.envOfC "is_stray" (defScope s_is_stray) s.heap.objs.size a.f_is_stray cdv))) :
    PSs (cxOf CX0 P w K mg base ["letter", "kept"] "is_stray" (defScope s_is_stray) a.f_is_stray cdv A outer s H E).nox (defBody s_is_stray) (t_is_stray K  ) := by
  exact (pss_cons (ps_if (pt_cmp (pc_isN (pe_ix ix_seq (pv 0) pe_int (fun _ _ => rfl)))) (pss_one (ps_ret pe_bl)) pss_nil) (pss_one (ps_ret (pe_and (pe_cmpR op_lt (pe_ix ix_seq (pv 0) pe_int (fun _ _ => rfl)) (pe_ix ix_seq (pv 1) (pe_ix ix_seq (pv 0) pe_int (fun _ _ => rfl)) (fun _ _ => rfl)) (nomark _)) (pe_one (pe_cmpR op_ge (pe_ix ix_seq (pv 0) pe_int (fun _ _ => rfl)) (pe_ix ix_seq (pv 1) (pe_ix ix_seq (pv 0) pe_int (fun _ _ => rfl)) (fun _ _ => rfl)) (nomark _)))))))
theorem ok_is_stray (T : Tx K mg w a) : FnOk P w K mg base CX0 1 a.f_is_stray a.d_is_stray ["letter", "kept"] (sp_is_stray K a.C) :=
  okN T.F_is_stray sc_is_stray (fun _ _ h => len_is_stray h) 0 rfl (t_is_stray K  ) (fun cdv A outer s H E hr => dv_is_stray T  cdv A outer s H E hr) (fun H ds r h => wk_is_stray K a.C H ds r h)
theorem dv_strays_by (T : Tx K mg w a) {s_is_stray : Sp} (G_is_stray : FnOk P w K mg base CX0 1 a.f_is_stray a.d_is_stray ["letter", "kept"] s_is_stray) (cdv : Value) (A : Around) (outer : List PySem.Env) (s : Shared) (H : Hp) (E : XK) (hr : Room 1 (A.deeper (PyProof.Rows.envOfC "strays_by" (defScope s_strays_by) s.heap.objs.size a.f_strays_by cdv))) :
    PSs (cxOf CX0 P w K mg base ["found", "kept", "number", "letter"] "strays_by" (defScope s_strays_by) a.f_strays_by cdv A outer s H E).nox (defBody s_strays_by) (t_strays_by K s_is_stray ) := by
  exact (pss_one (ps_ret (pe_lc (own := [("number", 2), ("letter", 3)]) rfl sc_strays_by.nd (pi_enum (by rfl) T.n_enumerate (pa_cons (pv 0) pa_nil)) (blkOk_by (N := ["found", "kept", "number", "letter"]) (sc := (defScope s_strays_by)) (own := [("number", 2), ("letter", 3)]) (by decide +kernel)) (fun _ _ _ _ _ => (pg_tup rfl (pgs_cons (pg_name (i := 2) sc_strays_by.nd rfl (Or.inl rfl)) (pgs_cons (pg_name (i := 3) sc_strays_by.nd rfl (Or.inl rfl)) pgs_nil)))) (fun _ _ _ _ _ => (pts_one (pt_val (pe_call G_is_stray (hr.mono (by decide)) (by rfl) T.g_is_stray T.F_is_stray.kp T.b_is_stray .nil L2.pass0 (pa_cons (pv 3) (pa_cons (pv 1) pa_nil)))))) (fun _ _ _ _ _ => (pv 2)))))
theorem ok_strays_by (T : Tx K mg w a) : FnOk P w K mg base CX0 2 a.f_strays_by a.d_strays_by ["found", "kept"] (sp_strays_by K a.C) :=
  okN T.F_strays_by sc_strays_by (fun _ _ h => len_strays_by h) 2 rfl (t_strays_by K (sp_is_stray K a.C) ) (fun cdv A outer s H E hr => dv_strays_by T (ok_is_stray T) cdv A outer s H E hr) (fun H ds r h => wk_strays_by K a.C H ds r h)
theorem dv_kept_by (T : Tx K mg w a) {s_ends s_need_line s_ends_of : Sp} (G_ends : FnOk P w K mg base (L2.CX P w) 3 a.f_ends a.d_ends ["hands", "rows"] s_ends) (G_need_line : FnOk P w K mg base (L2.CX P w) 1 a.f_need_line a.d_need_line ["told", "line"] s_need_line) (G_ends_of : FnOk P w K mg base CX0 1 a.f_ends_of a.d_ends_of ["told", "line"] s_ends_of) (cdv : Value) (A : Around) (outer : List PySem.Env) (s : Shared) (H : Hp) (E : XK) (hr : Room 3 (A.deeper (PyProof.Rows.envOfC "kept_by" (defScope s_kept_by) s.heap.objs.size a.f_kept_by cdv))) :
    PSs (cxOf (L2.CX P w) P w K mg base ["hands", "rows", "line", "told"] "kept_by" (defScope s_kept_by) a.f_kept_by cdv A outer s H E) (defBody s_kept_by) (t_kept_by K E s_ends s_need_line s_ends_of ) := by
  exact (pss_cons (ps_set (i := 3) sc_kept_by.nd rfl (Or.inl rfl) (pe_call G_ends (hr.mono (by decide)) (by rfl) T.g_ends T.F_ends.kp T.b_ends .nil (passes_call (takes_of rfl rfl rfl rfl) (fun _ _ _ _ h => h)) (pa_cons (pv 0) (pa_cons (pv 1) pa_nil)))) (pss_cons (ps_expr (pe_call G_need_line (hr.mono (by decide)) (by rfl) T.g_need_line T.F_need_line.kp T.b_need_line .nil (passes_call (takes_of rfl rfl rfl rfl) (fun _ _ _ _ h => h)) (pa_cons (pv 3) (pa_cons (pv 2) pa_nil)))) (pss_one (ps_ret (pe_call G_ends_of (hr.mono (by decide)) (by rfl) T.g_ends_of T.F_ends_of.kp T.b_ends_of .nil L2.pass0 (pa_cons (pv 3) (pa_cons (pv 2) pa_nil)))))))
theorem ok_kept_by (T : Tx K mg w a) : FnOk P w K mg base (L2.CX P w) 4 a.f_kept_by a.d_kept_by ["hands", "rows", "line"] (sp_kept_by K a.C) :=
  okR T.F_kept_by sc_kept_by (fun _ _ h => len_kept_by h) 1 rfl (fun E => t_kept_by K E (sp_ends K a.C) (sp_need_line K a.C) (sp_ends_of K a.C) ) (fun cdv A outer s H E hr => dv_kept_by T (ok_ends T) (ok_need_line T) (ok_ends_of T) cdv A outer s H E hr) (fun H E ds r h he => wk_kept_by K a.C H E ds r h he)
theorem dv_new_numbers (T : Tx K mg w a)  (cdv : Value) (A : Around) (outer : List PySem.Env) (s : Shared) (H : Hp) (E : XK) (hr : Room 0 (A.deeper (PyProof.Rows.envOfC "new_numbers" (defScope s_new_numbers) s.heap.objs.size a.f_new_numbers cdv))) :
    PSs (cxOf CX0 P w K mg base ["found", "kept", "fresh", "number", "letter"] "new_numbers" (defScope s_new_numbers) a.f_new_numbers cdv A outer s H E).nox (defBody s_new_numbers) (t_new_numbers K  ) := by
  exact (pss_cons (ps_set (i := 2) sc_new_numbers.nd rfl (Or.inl rfl) pe_dnewK) (pss_cons (ps_for PassesOwn.never rfl (pi_enum (by rfl) T.n_enumerate (pa_cons (pv 0) pa_nil)) (pg_tup rfl (pgs_cons (pg_name (i := 3) sc_new_numbers.nd rfl (Or.inl rfl)) (pgs_cons (pg_name (i := 4) sc_new_numbers.nd rfl (Or.inl rfl)) pgs_nil))) (pss_one (ps_if (pt_cmpR op_lt (pe_ix ix_seq (pv 4) pe_int (fun _ _ => rfl)) (pe_ix ix_seq (pv 1) (pe_ix ix_seq (pv 4) pe_int (fun _ _ => rfl)) (fun _ _ => rfl)) (nomark _)) (pss_one (ps_dput (hu_of hr) (pv 2) (pv 3) (pe_callB call_lenU (by rfl) T.n_len PySem.boot_len (pa_cons (pv 2) pa_nil)) rfl)) pss_nil))) (pss_one (ps_ret (pv 2)))))
theorem ok_new_numbers (T : Tx K mg w a) : FnOk P w K mg base CX0 1 a.f_new_numbers a.d_new_numbers ["found", "kept"] (sp_new_numbers K a.C) :=
  okD T.F_new_numbers sc_new_numbers (fun _ _ h => len_new_numbers h) 3 rfl (t_new_numbers K  ) (fun cdv A outer s H E hr => dv_new_numbers T  cdv A outer s H E hr) (fun H ds r h => wk_new_numbers K a.C H ds r h)
theorem dv_sound_ends (T : Tx K mg w a) {s_kept_by s_letters s_strays_by : Sp} (G_kept_by : FnOk P w K mg base (L2.CX P w) 4 a.f_kept_by a.d_kept_by ["hands", "rows", "line"] s_kept_by) (G_letters : FnOk P w K mg base (L2.CX P w) 2 a.f_letters a.d_letters ["hands", "rows"] s_letters) (G_strays_by : FnOk P w K mg base CX0 2 a.f_strays_by a.d_strays_by ["found", "kept"] s_strays_by) (cdv : Value) (A : Around) (outer : List PySem.Env) (s : Shared) (H : Hp) (E : XK) (hr : Room 4 (A.deeper (PyProof.Rows.envOfC "sound_ends" (defScope s_sound_ends) s.heap.objs.size a.f_sound_ends cdv))) :
    PSs (cxOf (L2.CX P w) P w K mg base ["hands", "rows", "line", "kept"] "sound_ends" (defScope s_sound_ends) a.f_sound_ends cdv A outer s H E) (defBody s_sound_ends) (t_sound_ends K E s_kept_by s_letters s_strays_by a.C_Unsound) := by
  exact (pss_cons (ps_set (i := 3) sc_sound_ends.nd rfl (Or.inl rfl) (pe_call G_kept_by (hr.mono (by decide)) (by rfl) T.g_kept_by T.F_kept_by.kp T.b_kept_by .nil (passes_call (takes_of rfl rfl rfl rfl) (fun _ _ _ _ h => h)) (pa_cons (pv 0) (pa_cons (pv 1) (pa_cons (pv 2) pa_nil))))) (pss_cons (ps_if (pt_cmpR (op_neD hr.units) (pe_call G_strays_by (hr.mono (by decide)) (by rfl) T.g_strays_by T.F_strays_by.kp T.b_strays_by .nil L2.pass0 (pa_cons (pe_call G_letters (hr.mono (by decide)) (by rfl) T.g_letters T.F_letters.kp T.b_letters .nil (passes_call (takes_of rfl rfl rfl rfl) (fun _ _ _ _ h => h)) (pa_cons (pv 0) (pa_cons (pv 1) pa_nil))) (pa_cons (pv 3) pa_nil))) (pe_lst pa_nil) (nomark _)) (pss_one (ps_raise rfl (takes_of rfl rfl rfl rfl) (pmk_own PySem.F.excBase_ValueError (T.x_Unsound) T.g_Unsound T.k_Unsound (raises_own T.bs_Unsound T.tp_Unsound) (by rfl)))) pss_nil) (pss_one (ps_ret (pv 3)))))
theorem ok_sound_ends (T : Tx K mg w a) : FnOk P w K mg base (L2.CX P w) 5 a.f_sound_ends a.d_sound_ends ["hands", "rows", "line"] (sp_sound_ends K a.C) :=
  okR T.F_sound_ends sc_sound_ends (fun _ _ h => len_sound_ends h) 1 rfl (fun E => t_sound_ends K E (sp_kept_by K a.C) (sp_letters K a.C) (sp_strays_by K a.C) a.C_Unsound) (fun cdv A outer s H E hr => dv_sound_ends T (ok_kept_by T) (ok_letters T) (ok_strays_by T) cdv A outer s H E hr) (fun H E ds r h he => wk_sound_ends K a.C H E ds r h he)
theorem dv_left (T : Tx K mg w a) {s_sound_ends s_letters s_new_numbers : Sp} (G_sound_ends : FnOk P w K mg base (L2.CX P w) 5 a.f_sound_ends a.d_sound_ends ["hands", "rows", "line"] s_sound_ends) (G_letters : FnOk P w K mg base (L2.CX P w) 2 a.f_letters a.d_letters ["hands", "rows"] s_letters) (G_new_numbers : FnOk P w K mg base CX0 1 a.f_new_numbers a.d_new_numbers ["found", "kept"] s_new_numbers) (cdv : Value) (A : Around) (outer : List PySem.Env) (s : Shared) (H : Hp) (E : XK) (hr : Room 5 (A.deeper (PyProof.Rows.envOfC "left" (defScope s_left) s.heap.objs.size a.f_left cdv))) :
    PSs (cxOf (L2.CX P w) P w K mg base ["hands", "rows", "line", "kept", "fresh", "found", "place", "row"] "left" (defScope s_left) a.f_left cdv A outer s H E) (defBody s_left) (t_left K E s_sound_ends s_letters s_new_numbers ) := by
  exact (pss_cons (ps_set (i := 3) sc_left.nd rfl (Or.inl rfl) (pe_call G_sound_ends (hr.mono (by decide)) (by rfl) T.g_sound_ends T.F_sound_ends.kp T.b_sound_ends .nil (passes_call (takes_of rfl rfl rfl rfl) (fun _ _ _ _ h => h)) (pa_cons (pv 0) (pa_cons (pv 1) (pa_cons (pv 2) pa_nil))))) (pss_cons (ps_set (i := 4) sc_left.nd rfl (Or.inl rfl) (pe_call G_new_numbers (hr.mono (by decide)) (by rfl) T.g_new_numbers T.F_new_numbers.kp T.b_new_numbers .nil L2.pass0 (pa_cons (pe_call G_letters (hr.mono (by decide)) (by rfl) T.g_letters T.F_letters.kp T.b_letters .nil (passes_call (takes_of rfl rfl rfl rfl) (fun _ _ _ _ h => h)) (pa_cons (pv 0) (pa_cons (pv 1) pa_nil))) (pa_cons (pv 3) pa_nil)))) (pss_cons (ps_set (i := 5) sc_left.nd rfl (Or.inl rfl) (pe_lst pa_nil)) (pss_cons (ps_for (passes_of rfl) rfl (pi_enum (by rfl) T.n_enumerate (pa_cons (pv 1) pa_nil)) (pg_tup rfl (pgs_cons (pg_name (i := 6) sc_left.nd rfl (Or.inl rfl)) (pgs_cons (pg_name (i := 7) sc_left.nd rfl (Or.inl rfl)) pgs_nil))) (pss_one (ps_if (pt_cmpR op_lt (pv 6) (pe_ix ix_seq (pv 3) (pe_ix ix_seq (pv 7) pe_int (fun _ _ => rfl)) (fun _ _ => rfl)) (nomark _)) (pss_cons (ps_if (pt_cmpR (op_eqD hr.units) (pe_ix ix_seq (pv 7) pe_int (fun _ _ => rfl)) pe_str (nomark _)) (pss_one (ps_set (i := 7) sc_left.nd rfl (Or.inl rfl) (pe_tup (pa_cons pe_str (pa_cons (pe_ix ix_seq (pv 7) pe_int (fun _ _ => rfl)) (pa_cons (pe_dget (hu_of hr) (pv 4) (pe_ix ix_seq (pv 7) pe_int (fun _ _ => rfl)) (fun _ _ => rfl)) pa_nil)))))) pss_nil) (pss_one (ps_expr (pe_bm PySem.F.plainAttrs_list PySem.F.slot_list_append PySem.F.type_list_append mt_append (pv 5) (pa_cons (pv 7) pa_nil))))) pss_nil))) (pss_one (ps_ret (pv 5)))))))
theorem ok_left (T : Tx K mg w a) : FnOk P w K mg base (L2.CX P w) 6 a.f_left a.d_left ["hands", "rows", "line"] (sp_left K a.C) :=
  okR T.F_left sc_left (fun _ _ h => len_left h) 5 rfl (fun E => t_left K E (sp_sound_ends K a.C) (sp_letters K a.C) (sp_new_numbers K a.C) ) (fun cdv A outer s H E hr => dv_left T (ok_sound_ends T) (ok_letters T) (ok_new_numbers T) cdv A outer s H E hr) (fun H E ds r h he => wk_left K a.C H E ds r h he)
theorem dv_number_ahead (T : Tx K mg w a)  (cdv : Value) (A : Around) (outer : List PySem.Env) (s : Shared) (H : Hp) (E : XK) (hr : Room 0 (A.deeper (PyProof.Rows.envOfC "number_ahead" (defScope s_number_ahead) s.heap.objs.size a.f_number_ahead cdv))) :
    PSs (cxOf CX0 P w K mg base ["own", "place", "found", "number", "end"] "number_ahead" (defScope s_number_ahead) a.f_number_ahead cdv A outer s H E).nox (defBody s_number_ahead) (t_number_ahead K  ) := by
  exact (pss_cons (ps_set (i := 2) sc_number_ahead.nd rfl (Or.inl rfl) pe_int) (pss_cons (ps_for PassesOwn.never rfl (pi_enum (by rfl) T.n_enumerate (pa_cons (pv 0) pa_nil)) (pg_tup rfl (pgs_cons (pg_name (i := 3) sc_number_ahead.nd rfl (Or.inl rfl)) (pgs_cons (pg_name (i := 4) sc_number_ahead.nd rfl (Or.inl rfl)) pgs_nil))) (pss_one (ps_if (pt_cmpR op_le (pv 4) (pv 1) (nomark _)) (pss_one (ps_set (i := 2) sc_number_ahead.nd rfl (Or.inl rfl) (pv 3))) pss_nil))) (pss_one (ps_ret (pv 2)))))
theorem ok_number_ahead (T : Tx K mg w a) : FnOk P w K mg base CX0 1 a.f_number_ahead a.d_number_ahead ["own", "place"] (sp_number_ahead K a.C) :=
  okN T.F_number_ahead sc_number_ahead (fun _ _ h => len_number_ahead h) 3 rfl (t_number_ahead K  ) (fun cdv A outer s H E hr => dv_number_ahead T  cdv A outer s H E hr) (fun H ds r h => wk_number_ahead K a.C H ds r h)
theorem dv_fall (T : Tx K mg w a) {s_ends_of s_strays_by s_number_ahead : Sp} (G_ends_of : FnOk P w K mg base CX0 1 a.f_ends_of a.d_ends_of ["told", "line"] s_ends_of) (G_strays_by : FnOk P w K mg base CX0 2 a.f_strays_by a.d_strays_by ["found", "kept"] s_strays_by) (G_number_ahead : FnOk P w K mg base CX0 1 a.f_number_ahead a.d_number_ahead ["own", "place"] s_number_ahead) (cdv : Value) (A : Around) (outer : List PySem.Env) (s : Shared) (H : Hp) (E : XK) (hr : Room 2 (A.deeper (PyProof.Rows.envOfC "fall" (defScope s_fall) s.heap.objs.size a.f_fall cdv))) :
    PSs (cxOf CX0 P w K mg base ["found", "told", "line", "taken", "wrong", "letter", "hand"] "fall" (defScope s_fall) a.f_fall cdv A outer s H E).nox (defBody s_fall) (t_fall K s_ends_of s_strays_by s_number_ahead ) := by
  exact (pss_cons (ps_set (i := 2) sc_fall.nd rfl (Or.inl rfl) (pe_callTy (call_listU rfl) (by rfl) T.n_list (by decide +kernel) (pa_cons (pv 2) pa_nil))) (pss_cons (ps_set (i := 3) sc_fall.nd rfl (Or.inl rfl) (pe_lst pa_nil)) (pss_cons (ps_set (i := 4) sc_fall.nd rfl (Or.inl rfl) (pe_call G_strays_by (hr.mono (by decide)) (by rfl) T.g_strays_by T.F_strays_by.kp T.b_strays_by .nil L2.pass0 (pa_cons (pv 0) (pa_cons (pe_call G_ends_of (hr.mono (by decide)) (by rfl) T.g_ends_of T.F_ends_of.kp T.b_ends_of .nil L2.pass0 (pa_cons (pv 1) (pa_cons (pv 2) pa_nil))) pa_nil)))) (pss_cons (ps_while PassesOwn.never (pt_cmpR (op_neD hr.units) (pv 4) (pe_lst pa_nil) (nomark _)) (pss_cons (ps_set (i := 5) sc_fall.nd rfl (Or.inl rfl) (pe_ix ix_seq (pv 4) pe_int (fun _ _ => rfl))) (pss_cons (ps_set (i := 6) sc_fall.nd rfl (Or.inl rfl) (pe_ix ix_seq (pe_ix ix_seq (pv 0) (pv 5) (fun _ _ => rfl)) pe_int (fun _ _ => rfl))) (pss_cons (ps_asg (pe_call G_number_ahead (hr.mono (by decide)) (by rfl) T.g_number_ahead T.F_number_ahead.kp T.b_number_ahead .nil L2.pass0 (pa_cons (pe_ix ix_seq (pv 1) (pv 6) (fun _ _ => rfl)) (pa_cons (pe_ix ix_seq (pe_ix ix_seq (pv 0) (pv 5) (fun _ _ => rfl)) pe_int (fun _ _ => rfl)) pa_nil))) (pg_sub (pv 2) (pv 6) set_list)) (pss_cons (ps_expr (pe_bm PySem.F.plainAttrs_list PySem.F.slot_list_append PySem.F.type_list_append mt_append (pv 3) (pa_cons (pe_tup (pa_cons (pv 5) (pa_cons (pv 6) (pa_cons (pe_ix ix_seq (pv 2) (pv 6) (fun _ _ => rfl)) pa_nil)))) pa_nil))) (pss_one (ps_set (i := 4) sc_fall.nd rfl (Or.inl rfl) (pe_call G_strays_by (hr.mono (by decide)) (by rfl) T.g_strays_by T.F_strays_by.kp T.b_strays_by .nil L2.pass0 (pa_cons (pv 0) (pa_cons (pe_call G_ends_of (hr.mono (by decide)) (by rfl) T.g_ends_of T.F_ends_of.kp T.b_ends_of .nil L2.pass0 (pa_cons (pv 1) (pa_cons (pv 2) pa_nil))) pa_nil)))))))))) (pss_one (ps_ret (pe_tup (pa_cons (pv 3) (pa_cons (pv 2) pa_nil)))))))))
theorem ok_fall (T : Tx K mg w a) : FnOk P w K mg base CX0 3 a.f_fall a.d_fall ["found", "told", "line"] (sp_fall K a.C) :=
  okN0 T.F_fall sc_fall (fun _ _ h => len_fall h) 4 rfl (t_fall K (sp_ends_of K a.C) (sp_strays_by K a.C) (sp_number_ahead K a.C) ) (fun cdv A outer s H E hr => dv_fall T (ok_ends_of T) (ok_strays_by T) (ok_number_ahead T) cdv A outer s H E hr) (fun H ds r h => wk_fall K a.C H ds r h)
theorem dv_now (T : Tx K mg w a)  (cdv : Value) (A : Around) (outer : List PySem.Env) (s : Shared) (H : Hp) (E : XK) (hr : Room 0 (A.deeper (PyProof.Rows.envOfC "now" (defScope s_now) s.heap.objs.size a.f_now cdv))) :
    PSs (cxOf CX0 P w K mg base ["told", "own"] "now" (defScope s_now) a.f_now cdv A outer s H E).nox (defBody s_now) (t_now K  ) := by
  exact (pss_one (ps_ret (pe_lc (own := [("own", 1)]) rfl sc_now.nd (pi_list (pv 0)) (blkOk_by (N := ["told", "own"]) (sc := (defScope s_now)) (own := [("own", 1)]) (by decide +kernel)) (fun _ _ _ _ _ => (pg_name (i := 1) sc_now.nd rfl (Or.inl rfl))) (fun _ _ _ _ _ => pts_nil) (fun _ _ _ _ _ => (pe_op op_sub (pe_callB call_lenU (by rfl) T.n_len PySem.boot_len (pa_cons (pv 1) pa_nil)) pe_int)))))
theorem ok_now (T : Tx K mg w a) : FnOk P w K mg base CX0 1 a.f_now a.d_now ["told"] (sp_now K a.C) :=
  okN T.F_now sc_now (fun _ _ h => len_now h) 1 rfl (t_now K  ) (fun cdv A outer s H E hr => dv_now T  cdv A outer s H E hr) (fun H ds r h => wk_now K a.C H ds r h)
theorem dv_top_line (T : Tx K mg w a) {s_ends s_now s_need_hand : Sp} (G_ends : FnOk P w K mg base (L2.CX P w) 3 a.f_ends a.d_ends ["hands", "rows"] s_ends) (G_now : FnOk P w K mg base CX0 1 a.f_now a.d_now ["told"] s_now) (G_need_hand : FnOk P w K mg base (L2.CX P w) 1 a.f_need_hand a.d_need_hand ["hands", "hand"] s_need_hand) (cdv : Value) (A : Around) (outer : List PySem.Env) (s : Shared) (H : Hp) (E : XK) (hr : Room 3 (A.deeper (PyProof.Rows.envOfC "top_line" (defScope s_top_line) s.heap.objs.size a.f_top_line cdv))) :
    PSs (cxOf (L2.CX P w) P w K mg base ["hands", "rows", "fallen", "line", "hand"] "top_line" (defScope s_top_line) a.f_top_line cdv A outer s H E) (defBody s_top_line) (t_top_line K E s_ends s_now s_need_hand ) := by
  exact (pss_cons (ps_set (i := 3) sc_top_line.nd rfl (Or.inr rfl) (pe_call G_now (hr.mono (by decide)) (by rfl) T.g_now T.F_now.kp T.b_now .nil L2.pass0 (pa_cons (pe_call G_ends (hr.mono (by decide)) (by rfl) T.g_ends T.F_ends.kp T.b_ends .nil (passes_call (takes_of rfl rfl rfl rfl) (fun _ _ _ _ h => h)) (pa_cons (pv 0) (pa_cons (pv 1) pa_nil))) pa_nil))) (pss_cons (ps_for (passes_of rfl) rfl (pi_list (pv 2)) (pg_name (i := 4) sc_top_line.nd rfl (Or.inl rfl)) (pss_one (ps_expr (pe_call G_need_hand (hr.mono (by decide)) (by rfl) T.g_need_hand T.F_need_hand.kp T.b_need_hand .nil (passes_call (takes_of rfl rfl rfl rfl) (fun _ _ _ _ h => h)) (pa_cons (pv 0) (pa_cons (pv 4) pa_nil)))))) (pss_one (ps_ret (pe_lc (own := [("hand", 4)]) rfl sc_top_line.nd (pi_range1 (by rfl) T.n_range (pa_cons (pv 0) pa_nil)) (blkOk_by (N := ["hands", "rows", "fallen", "line", "hand"]) (sc := (defScope s_top_line)) (own := [("hand", 4)]) (by decide +kernel)) (fun _ _ _ _ _ => (pg_name (i := 4) sc_top_line.nd rfl (Or.inl rfl))) (fun _ _ _ _ _ => pts_nil) (fun _ _ _ _ _ => (pe_op op_sub (pe_ix ix_seq (pv 3) (pv 4) (fun _ _ => rfl)) (pe_callTy call_int1 (by rfl) T.n_int (by decide +kernel) (pa_cons (pe_cmpR (op_inU (Room.u65 hr)) (pv 4) (pv 2) (by rfl)) pa_nil)))))))))
theorem ok_top_line (T : Tx K mg w a) : FnOk P w K mg base (L2.CX P w) 4 a.f_top_line a.d_top_line ["hands", "rows", "fallen"] (sp_top_line K a.C) :=
  okR T.F_top_line sc_top_line (fun _ _ h => len_top_line h) 2 rfl (fun E => t_top_line K E (sp_ends K a.C) (sp_now K a.C) (sp_need_hand K a.C) ) (fun cdv A outer s H E hr => dv_top_line T (ok_ends T) (ok_now T) (ok_need_hand T) cdv A outer s H E hr) (fun H E ds r h he => wk_top_line K a.C H E ds r h he)
theorem dv_steps (T : Tx K mg w a) {s_top_line s_ends s_letters s_fall : Sp} (G_top_line : FnOk P w K mg base (L2.CX P w) 4 a.f_top_line a.d_top_line ["hands", "rows", "fallen"] s_top_line) (G_ends : FnOk P w K mg base (L2.CX P w) 3 a.f_ends a.d_ends ["hands", "rows"] s_ends) (G_letters : FnOk P w K mg base (L2.CX P w) 2 a.f_letters a.d_letters ["hands", "rows"] s_letters) (G_fall : FnOk P w K mg base CX0 3 a.f_fall a.d_fall ["found", "told", "line"] s_fall) (cdv : Value) (A : Around) (outer : List PySem.Env) (s : Shared) (H : Hp) (E : XK) (hr : Room 4 (A.deeper (PyProof.Rows.envOfC "steps" (defScope s_steps) s.heap.objs.size a.f_steps cdv))) :
    PSs (cxOf (L2.CX P w) P w K mg base ["hands", "rows", "fallen", "line"] "steps" (defScope s_steps) a.f_steps cdv A outer s H E) (defBody s_steps) (t_steps K E s_top_line s_ends s_letters s_fall ) := by
  exact (pss_cons (ps_set (i := 3) sc_steps.nd rfl (Or.inl rfl) (pe_call G_top_line (hr.mono (by decide)) (by rfl) T.g_top_line T.F_top_line.kp T.b_top_line .nil (passes_call (takes_of rfl rfl rfl rfl) (fun _ _ _ _ h => h)) (pa_cons (pv 0) (pa_cons (pv 1) (pa_cons (pv 2) pa_nil))))) (pss_one (ps_ret (pe_ix ix_seq (pe_call G_fall (hr.mono (by decide)) (by rfl) T.g_fall T.F_fall.kp T.b_fall .nil L2.pass0 (pa_cons (pe_call G_letters (hr.mono (by decide)) (by rfl) T.g_letters T.F_letters.kp T.b_letters .nil (passes_call (takes_of rfl rfl rfl rfl) (fun _ _ _ _ h => h)) (pa_cons (pv 0) (pa_cons (pv 1) pa_nil))) (pa_cons (pe_call G_ends (hr.mono (by decide)) (by rfl) T.g_ends T.F_ends.kp T.b_ends .nil (passes_call (takes_of rfl rfl rfl rfl) (fun _ _ _ _ h => h)) (pa_cons (pv 0) (pa_cons (pv 1) pa_nil))) (pa_cons (pv 3) pa_nil)))) pe_int (fun _ _ => rfl)))))
theorem ok_steps (T : Tx K mg w a) : FnOk P w K mg base (L2.CX P w) 5 a.f_steps a.d_steps ["hands", "rows", "fallen"] (sp_steps K a.C) :=
  okR T.F_steps sc_steps (fun _ _ h => len_steps h) 1 rfl (fun E => t_steps K E (sp_top_line K a.C) (sp_ends K a.C) (sp_letters K a.C) (sp_fall K a.C) ) (fun cdv A outer s H E hr => dv_steps T (ok_top_line T) (ok_ends T) (ok_letters T) (ok_fall T) cdv A outer s H E hr) (fun H E ds r h he => wk_steps K a.C H E ds r h he)
theorem dv_last_line (T : Tx K mg w a) {s_top_line s_ends s_letters s_fall : Sp} (G_top_line : FnOk P w K mg base (L2.CX P w) 4 a.f_top_line a.d_top_line ["hands", "rows", "fallen"] s_top_line) (G_ends : FnOk P w K mg base (L2.CX P w) 3 a.f_ends a.d_ends ["hands", "rows"] s_ends) (G_letters : FnOk P w K mg base (L2.CX P w) 2 a.f_letters a.d_letters ["hands", "rows"] s_letters) (G_fall : FnOk P w K mg base CX0 3 a.f_fall a.d_fall ["found", "told", "line"] s_fall) (cdv : Value) (A : Around) (outer : List PySem.Env) (s : Shared) (H : Hp) (E : XK) (hr : Room 4 (A.deeper (PyProof.Rows.envOfC "last_line" (defScope s_last_line) s.heap.objs.size a.f_last_line cdv))) :
    PSs (cxOf (L2.CX P w) P w K mg base ["hands", "rows", "fallen", "line"] "last_line" (defScope s_last_line) a.f_last_line cdv A outer s H E) (defBody s_last_line) (t_last_line K E s_top_line s_ends s_letters s_fall ) := by
  exact (pss_cons (ps_set (i := 3) sc_last_line.nd rfl (Or.inl rfl) (pe_call G_top_line (hr.mono (by decide)) (by rfl) T.g_top_line T.F_top_line.kp T.b_top_line .nil (passes_call (takes_of rfl rfl rfl rfl) (fun _ _ _ _ h => h)) (pa_cons (pv 0) (pa_cons (pv 1) (pa_cons (pv 2) pa_nil))))) (pss_one (ps_ret (pe_ix ix_seq (pe_call G_fall (hr.mono (by decide)) (by rfl) T.g_fall T.F_fall.kp T.b_fall .nil L2.pass0 (pa_cons (pe_call G_letters (hr.mono (by decide)) (by rfl) T.g_letters T.F_letters.kp T.b_letters .nil (passes_call (takes_of rfl rfl rfl rfl) (fun _ _ _ _ h => h)) (pa_cons (pv 0) (pa_cons (pv 1) pa_nil))) (pa_cons (pe_call G_ends (hr.mono (by decide)) (by rfl) T.g_ends T.F_ends.kp T.b_ends .nil (passes_call (takes_of rfl rfl rfl rfl) (fun _ _ _ _ h => h)) (pa_cons (pv 0) (pa_cons (pv 1) pa_nil))) (pa_cons (pv 3) pa_nil)))) pe_int (fun _ _ => rfl)))))
theorem ok_last_line (T : Tx K mg w a) : FnOk P w K mg base (L2.CX P w) 5 a.f_last_line a.d_last_line ["hands", "rows", "fallen"] (sp_last_line K a.C) :=
  okR T.F_last_line sc_last_line (fun _ _ h => len_last_line h) 1 rfl (fun E => t_last_line K E (sp_top_line K a.C) (sp_ends K a.C) (sp_letters K a.C) (sp_fall K a.C) ) (fun cdv A outer s H E hr => dv_last_line T (ok_top_line T) (ok_ends T) (ok_letters T) (ok_fall T) cdv A outer s H E hr) (fun H E ds r h he => wk_last_line K a.C H E ds r h he)
theorem dv__law_cell_at (T : Tx K mg w a)  (cdv : Value) (A : Around) (outer : List PySem.Env) (s : Shared) (H : Hp) (E : XK) (hr : Room 0 (A.deeper (PyProof.Rows.envOfC "_law_cell_at" (defScope s__law_cell_at) s.heap.objs.size a.f__law_cell_at cdv))) :
    PSs (cxOf CX0 P w K mg base ["_law_script", "_law_k"] "_law_cell_at" (defScope s__law_cell_at) a.f__law_cell_at cdv A outer s H E).nox (defBody s__law_cell_at) (t_l_cell_at K  ) := by
  exact (pss_cons (ps_if (pt_cmpR op_lt (pv 1) (pe_callB call_lenU (by rfl) T.n_len PySem.boot_len (pa_cons (pv 0) pa_nil)) (nomark _)) (pss_one (ps_ret (pe_ix ix_seq (pv 0) (pv 1) (fun _ _ => rfl)))) pss_nil) (pss_one (ps_ret pe_int)))
theorem ok__law_cell_at (T : Tx K mg w a) : FnOk P w K mg base CX0 1 a.f__law_cell_at a.d__law_cell_at ["_law_script", "_law_k"] (sp_l_cell_at K a.C) :=
  okS T.F__law_cell_at sc__law_cell_at (fun _ _ _ h => len_l_cell_at h) 0 rfl (t_l_cell_at K  ) (fun cdv A outer s H E hr => dv__law_cell_at T  cdv A outer s H E hr) (fun H b ns ds r hS h => wk_l_cell_at K a.C H b ns ds r hS h)
theorem dv__law_hands_by (T : Tx K mg w a)  (cdv : Value) (A : Around) (outer : List PySem.Env) (s : Shared) (H : Hp) (E : XK) (hr : Room 0 (A.deeper (PyProof.Rows.envOfC "_law_hands_by" (defScope s__law_hands_by) s.heap.objs.size a.f__law_hands_by cdv))) :
    PSs (cxOf CX0 P w K mg base ["_law_cell"] "_law_hands_by" (defScope s__law_hands_by) a.f__law_hands_by cdv A outer s H E).nox (defBody s__law_hands_by) (t_l_hands_by K  ) := by
  exact (pss_cons (ps_if (pt_cmpR (op_eqD hr.units) (pe_op op_mod (pe_op op_fdiv (pv 0) pe_int) pe_int) pe_int (nomark _)) (pss_one (ps_ret (pe_op op_addU pe_int (pe_op op_mod (pe_op op_fdiv (pv 0) pe_int) pe_int)))) pss_nil) (pss_one (ps_ret (pe_op op_addU pe_int (pe_op op_mod (pv 0) pe_int)))))
theorem ok__law_hands_by (T : Tx K mg w a) : FnOk P w K mg base CX0 1 a.f__law_hands_by a.d__law_hands_by ["_law_cell"] (sp_l_hands_by K a.C) :=
  okN T.F__law_hands_by sc__law_hands_by (fun _ _ h => len_l_hands_by h) 0 rfl (t_l_hands_by K  ) (fun cdv A outer s H E hr => dv__law_hands_by T  cdv A outer s H E hr) (fun H ds r h => wk_l_hands_by K a.C H ds r h)
theorem dv__law_cells_by (T : Tx K mg w a) {s__law_cell_at : Sp} (G__law_cell_at : FnOk P w K mg base CX0 1 a.f__law_cell_at a.d__law_cell_at ["_law_script", "_law_k"] s__law_cell_at) (cdv : Value) (A : Around) (outer : List PySem.Env) (s : Shared) (H : Hp) (E : XK) (hr : Room 1 (A.deeper (PyProof.Rows.envOfC "_law_cells_by" (defScope s__law_cells_by) s.heap.objs.size a.f__law_cells_by cdv))) :
    PSs (cxOf CX0 P w K mg base ["_law_script", "_law_first", "_law_size", "_law_many", "_law_k"] "_law_cells_by" (defScope s__law_cells_by) a.f__law_cells_by cdv A outer s H E).nox (defBody s__law_cells_by) (t_l_cells_by K s__law_cell_at ) := by
  exact (pss_cons (ps_set (i := 2) sc__law_cells_by.nd rfl (Or.inr rfl) (pe_call G__law_cell_at (hr.mono (by decide)) (by rfl) T.g__law_cell_at T.F__law_cell_at.kp T.b__law_cell_at .nil L2.pass0 (pa_cons (pv 0) (pa_cons pe_int pa_nil)))) (pss_cons (ps_if (pt_cmpR (op_eqD hr.units) (pe_op op_mod (pv 2) pe_int) pe_int (nomark _)) (pss_cons (ps_set (i := 3) sc__law_cells_by.nd rfl (Or.inl rfl) (pe_op op_addU (pe_op op_mod (pe_op op_fdiv (pv 2) pe_int) pe_int) (pe_op op_mulU pe_int (pe_op op_fdiv (pe_op op_mod (pe_op op_fdiv (pv 2) pe_int) pe_int) pe_int)))) (pss_one (ps_ret (pe_lc (own := [("_law_k", 4)]) rfl sc__law_cells_by.nd (pi_range1 (by rfl) T.n_range (pa_cons (pv 3) pa_nil)) (blkOk_by (N := ["_law_script", "_law_first", "_law_size", "_law_many", "_law_k"]) (sc := (defScope s__law_cells_by)) (own := [("_law_k", 4)]) (by decide +kernel)) (fun _ _ _ _ _ => (pg_name (i := 4) sc__law_cells_by.nd rfl (Or.inl rfl))) (fun _ _ _ _ _ => pts_nil) (fun _ _ _ _ _ => (pe_op op_mod (pe_op op_mulU (pe_op op_addU (pe_op op_fdiv (pv 2) pe_int) (pe_op op_mulU pe_int (pv 4))) pe_int) pe_int)))))) pss_nil) (pss_one (ps_ret (pe_slice sl_U (pv 0) (po_some (pv 1)) (po_some (pe_op op_addU (pv 1) pe_int)))))))
theorem ok__law_cells_by (T : Tx K mg w a) : FnOk P w K mg base CX0 2 a.f__law_cells_by a.d__law_cells_by ["_law_script", "_law_first"] (sp_l_cells_by K a.C) :=
  okS T.F__law_cells_by sc__law_cells_by (fun _ _ _ h => len_l_cells_by h) 3 rfl (t_l_cells_by K (sp_l_cell_at K a.C) ) (fun cdv A outer s H E hr => dv__law_cells_by T (ok__law_cell_at T) cdv A outer s H E hr) (fun H b ns ds r hS h => wk_l_cells_by K a.C H b ns ds r hS h)
theorem dv__law_rows_by (T : Tx K mg w a)  (cdv : Value) (A : Around) (outer : List PySem.Env) (s : Shared) (H : Hp) (E : XK) (hr : Room 0 (A.deeper (PyProof.Rows.envOfC "_law_rows_by" (defScope s__law_rows_by) s.heap.objs.size a.f__law_rows_by cdv))) :
    PSs (cxOf CX0 P w K mg base ["_law_cells", "_law_hands", "_law_rows", "_law_sent", "_law_waits", "_law_cell", "_law_kind", "_law_more", "_law_letter", "_law_one"] "_law_rows_by" (defScope s__law_rows_by) a.f__law_rows_by cdv A outer s H E).nox (defBody s__law_rows_by) (t_l_rows_by K  ) := by
  exact (pss_cons (ps_set (i := 2) sc__law_rows_by.nd rfl (Or.inl rfl) (pe_lst pa_nil)) (pss_cons (ps_set (i := 3) sc__law_rows_by.nd rfl (Or.inl rfl) (pe_lst pa_nil)) (pss_cons (ps_set (i := 4) sc__law_rows_by.nd rfl (Or.inl rfl) (pe_lst pa_nil)) (pss_cons (ps_for PassesOwn.never rfl (pi_list (pv 0)) (pg_name (i := 5) sc__law_rows_by.nd rfl (Or.inl rfl)) (pss_cons (ps_set (i := 6) sc__law_rows_by.nd rfl (Or.inl rfl) (pe_op op_mod (pv 5) pe_int)) (pss_cons (ps_set (i := 7) sc__law_rows_by.nd rfl (Or.inl rfl) (pe_op op_fdiv (pv 5) pe_int)) (pss_one (ps_if (pt_cmpR op_gt (pv 6) pe_int (nomark _)) (pss_one (ps_expr (pe_bm PySem.F.plainAttrs_list PySem.F.slot_list_append PySem.F.type_list_append mt_append (pv 2) (pa_cons (pe_tup (pa_cons pe_str (pa_cons (pe_op op_mod (pv 7) (pv 1)) pa_nil))) pa_nil)))) (pss_one (ps_if (PW.pt (pw_and (pt_cmpR op_gt (pv 6) pe_int (nomark _)) (pw_and1 (pt_cmpR (op_neD hr.units) (pv 4) (pe_lst pa_nil) (nomark _))))) (pss_cons (ps_set (i := 8) sc__law_rows_by.nd rfl (Or.inr rfl) (pe_ix ix_seq (pv 4) (pe_op op_mod (pv 7) (pe_callB call_lenU (by rfl) T.n_len PySem.boot_len (pa_cons (pv 4) pa_nil))) (fun _ _ => rfl))) (pss_cons (ps_setLc (i := 4) (own := [("_law_one", 9)]) rfl sc__law_rows_by.nd rfl rfl (sw_true rfl rfl rfl (by decide +kernel)) (pi_list (pv 4)) (blkOk_by (N := ["_law_cells", "_law_hands", "_law_rows", "_law_sent", "_law_waits", "_law_cell", "_law_kind", "_law_more", "_law_letter", "_law_one"]) (sc := (defScope s__law_rows_by)) (own := [("_law_one", 9)]) (by decide +kernel)) (fun _ _ _ _ _ => (pg_name (i := 9) sc__law_rows_by.nd rfl (Or.inl rfl))) (fun _ _ _ _ _ => (pts_one (pt_cmpR (op_neD hr.units) (pv 9) (pv 8) (nomark _)))) (fun _ _ _ _ _ => (pv 9))) (pss_one (ps_expr (pe_bm PySem.F.plainAttrs_list PySem.F.slot_list_append PySem.F.type_list_append mt_append (pv 2) (pa_cons (pe_tup (pa_cons pe_str (pa_cons (pe_ix ix_seq (pv 3) (pv 8) (fun _ _ => rfl)) (pa_cons (pv 8) pa_nil)))) pa_nil)))))) (pss_cons (ps_expr (pe_bm PySem.F.plainAttrs_list PySem.F.slot_list_append PySem.F.type_list_append mt_append (pv 2) (pa_cons (pe_tup (pa_cons pe_str (pa_cons (pe_op op_mod (pv 7) (pv 1)) (pa_cons (pe_op op_mod (pe_op op_fdiv (pv 7) (pv 1)) (pv 1)) pa_nil)))) pa_nil))) (pss_cons (ps_expr (pe_bm PySem.F.plainAttrs_list PySem.F.slot_list_append PySem.F.type_list_append mt_append (pv 4) (pa_cons (pe_callB call_lenU (by rfl) T.n_len PySem.boot_len (pa_cons (pv 3) pa_nil)) pa_nil))) (pss_one (ps_expr (pe_bm PySem.F.plainAttrs_list PySem.F.slot_list_append PySem.F.type_list_append mt_append (pv 3) (pa_cons (pe_op op_mod (pe_op op_fdiv (pv 7) (pv 1)) (pv 1)) pa_nil))))))))))))) (pss_one (ps_ret (pv 2)))))))
theorem ok__law_rows_by (T : Tx K mg w a) : FnOk P w K mg base CX0 1 a.f__law_rows_by a.d__law_rows_by ["_law_cells", "_law_hands"] (sp_l_rows_by K a.C) :=
  okN T.F__law_rows_by sc__law_rows_by (fun _ _ h => len_l_rows_by h) 8 rfl (t_l_rows_by K  ) (fun cdv A outer s H E hr => dv__law_rows_by T  cdv A outer s H E hr) (fun H ds r h => wk_l_rows_by K a.C H ds r h)
theorem dv__law_fallen_by (T : Tx K mg w a)  (cdv : Value) (A : Around) (outer : List PySem.Env) (s : Shared) (H : Hp) (E : XK) (hr : Room 0 (A.deeper (PyProof.Rows.envOfC "_law_fallen_by" (defScope s__law_fallen_by) s.heap.objs.size a.f__law_fallen_by cdv))) :
    PSs (cxOf CX0 P w K mg base ["_law_cell", "_law_hands", "_law_hand"] "_law_fallen_by" (defScope s__law_fallen_by) a.f__law_fallen_by cdv A outer s H E).nox (defBody s__law_fallen_by) (t_l_fallen_by_09 K  ) := by
  exact (pss_cons (ps_if (pt_cmpR (op_eqD hr.units) (pe_op op_mod (pv 0) pe_int) pe_int (nomark _)) (pss_one (ps_ret (pe_listRg rfl (by rfl) T.n_list (prg_1 (by rfl) T.n_range (pv 1))))) pss_nil) (pss_cons (ps_if (pt_cmpR (op_eqD hr.units) (pe_op op_mod (pv 0) pe_int) pe_int (nomark _)) (pss_one (ps_ret (pe_lst pa_nil))) pss_nil) (pss_one (ps_ret (pe_lc (own := [("_law_hand", 2)]) rfl sc__law_fallen_by.nd (pi_range1 (by rfl) T.n_range (pa_cons (pv 1) pa_nil)) (blkOk_by (N := ["_law_cell", "_law_hands", "_law_hand"]) (sc := (defScope s__law_fallen_by)) (own := [("_law_hand", 2)]) (by decide +kernel)) (fun _ _ _ _ _ => (pg_name (i := 2) sc__law_fallen_by.nd rfl (Or.inl rfl))) (fun _ _ _ _ _ => (pts_one (pt_cmpR (op_eqD hr.units) (pe_op op_mod (pe_op op_mod (pe_op op_mulU (pe_op op_addU (pv 0) (pe_op op_mulU pe_int (pv 2))) pe_int) pe_int) pe_int) pe_int (nomark _)))) (fun _ _ _ _ _ => (pv 2)))))))
theorem ok__law_fallen_by (T : Tx K mg w a) : FnOk P w K mg base CX0 1 a.f__law_fallen_by a.d__law_fallen_by ["_law_cell", "_law_hands"] (sp_l_fallen_by_09 K a.C) :=
  okN T.F__law_fallen_by sc__law_fallen_by (fun _ _ h => len_l_fallen_by_09 h) 1 rfl (t_l_fallen_by_09 K  ) (fun cdv A outer s H E hr => dv__law_fallen_by T  cdv A outer s H E hr) (fun H ds r h => wk_l_fallen_by_09 K a.C H ds r h)
theorem dv__law_whole (T : Tx K mg w a)  (cdv : Value) (A : Around) (outer : List PySem.Env) (s : Shared) (H : Hp) (E : XK) (hr : Room 0 (A.deeper (PyProof.Rows.envOfC "_law_whole" (defScope s__law_whole) s.heap.objs.size a.f__law_whole cdv))) :
    PSs (cxOf CX0 P w K mg base ["_law_found"] "_law_whole" (defScope s__law_whole) a.f__law_whole cdv A outer s H E).nox (defBody s__law_whole) (t_l_whole K  ) := by
  exact (pss_one (ps_ret (pe_and (pe_callB call_isi (by rfl) T.n_isinstance (by decide +kernel) (pa_cons (pv 0) (pa_cons (pe_bltn (v := .ty "int") (by rfl) T.n_int (by decide +kernel) rfl) pa_nil))) (pe_one (pe_not (pe_callB call_isi (by rfl) T.n_isinstance (by decide +kernel) (pa_cons (pv 0) (pa_cons (pe_bltn (v := .ty "bool") (by rfl) T.n_bool (by decide +kernel) rfl) pa_nil))))))))
theorem ok__law_whole (T : Tx K mg w a) : FnOk P w K mg base CX0 1 a.f__law_whole a.d__law_whole ["_law_found"] (sp_l_whole K a.C) :=
  okN T.F__law_whole sc__law_whole (fun _ _ h => len_l_whole h) 0 rfl (t_l_whole K  ) (fun cdv A outer s H E hr => dv__law_whole T  cdv A outer s H E hr) (fun H ds r h => wk_l_whole K a.C H ds r h)
theorem dv__law_line_told (T : Tx K mg w a) {s__law_whole : Sp} (G__law_whole : FnOk P w K mg base CX0 1 a.f__law_whole a.d__law_whole ["_law_found"] s__law_whole) (cdv : Value) (A : Around) (outer : List PySem.Env) (s : Shared) (H : Hp) (E : XK) (hr : Room 1 (A.deeper (PyProof.Rows.envOfC "_law_line_told" (defScope s__law_line_told) s.heap.objs.size a.f__law_line_told cdv))) :
    PSs (cxOf CX0 P w K mg base ["_law_found", "_law_hands", "_law_one"] "_law_line_told" (defScope s__law_line_told) a.f__law_line_told cdv A outer s H E).nox (defBody s__law_line_told) (t_l_line_told K s__law_whole ) := by
  exact (pss_cons (ps_if (PW.pt (pw_or (pt_not (pt_val (pe_callB call_isi (by rfl) T.n_isinstance (by decide +kernel) (pa_cons (pv 0) (pa_cons (pe_bltn (v := .ty "list") (by rfl) T.n_list (by decide +kernel) rfl) pa_nil))))) (pw_or1 (pt_cmpR (op_neD hr.units) (pe_callB call_lenU (by rfl) T.n_len PySem.boot_len (pa_cons (pv 0) pa_nil)) (pv 1) (nomark _))))) (pss_one (ps_ret pe_bl)) pss_nil) (pss_one (ps_ret (pe_cmpR (op_eqD hr.units) (pe_callB call_lenU (by rfl) T.n_len PySem.boot_len (pa_cons (pe_lc (own := [("_law_one", 2)]) rfl sc__law_line_told.nd (pi_list (pv 0)) (blkOk_by (N := ["_law_found", "_law_hands", "_law_one"]) (sc := (defScope s__law_line_told)) (own := [("_law_one", 2)]) (by decide +kernel)) (fun _ _ _ _ _ => (pg_name (i := 2) sc__law_line_told.nd rfl (Or.inl rfl))) (fun _ _ _ _ _ => (pts_one (pt_val (pe_call G__law_whole (hr.mono (by decide)) (by rfl) T.g__law_whole T.F__law_whole.kp T.b__law_whole .nil L2.pass0 (pa_cons (pv 2) pa_nil))))) (fun _ _ _ _ _ => (pv 2))) pa_nil)) (pv 1) (nomark _)))))
theorem ok__law_line_told (T : Tx K mg w a) : FnOk P w K mg base CX0 2 a.f__law_line_told a.d__law_line_told ["_law_found", "_law_hands"] (sp_l_line_told K a.C) :=
  okN T.F__law_line_told sc__law_line_told (fun _ _ h => len_l_line_told h) 1 rfl (t_l_line_told K (sp_l_whole K a.C) ) (fun cdv A outer s H E hr => dv__law_line_told T (ok__law_whole T) cdv A outer s H E hr) (fun H ds r h => wk_l_line_told K a.C H ds r h)
theorem dv__law_ends_by (T : Tx K mg w a)  (cdv : Value) (A : Around) (outer : List PySem.Env) (s : Shared) (H : Hp) (E : XK) (hr : Room 0 (A.deeper (PyProof.Rows.envOfC "_law_ends_by" (defScope s__law_ends_by) s.heap.objs.size a.f__law_ends_by cdv))) :
    PSs (cxOf CX0 P w K mg base ["_law_rows", "_law_hands", "_law_found", "_law_place", "_law_hand", "_law_own"] "_law_ends_by" (defScope s__law_ends_by) a.f__law_ends_by cdv A outer s H E).nox (defBody s__law_ends_by) (t_l_ends_by K  ) := by
  exact (pss_cons (ps_setLc (i := 2) (own := [("_law_hand", 4)]) rfl sc__law_ends_by.nd rfl rfl (sw_true rfl rfl rfl (by decide +kernel)) (pi_range1 (by rfl) T.n_range (pa_cons (pv 1) pa_nil)) (blkOk_by (N := ["_law_rows", "_law_hands", "_law_found", "_law_place", "_law_hand", "_law_own"]) (sc := (defScope s__law_ends_by)) (own := [("_law_hand", 4)]) (by decide +kernel)) (fun _ _ _ _ _ => (pg_name (i := 4) sc__law_ends_by.nd rfl (Or.inl rfl))) (fun _ _ _ _ _ => pts_nil) (fun _ _ _ _ _ => (pe_lst (pa_cons pe_int pa_nil)))) (pss_cons (ps_for PassesOwn.never rfl (pi_range1 (by rfl) T.n_range (pa_cons (pe_callB call_lenU (by rfl) T.n_len PySem.boot_len (pa_cons (pv 0) pa_nil)) pa_nil)) (pg_name (i := 3) sc__law_ends_by.nd rfl (Or.inl rfl)) (pss_one (ps_if (pt_cmpR (op_eqD hr.units) (pe_ix ix_seq (pe_ix ix_seq (pv 0) (pv 3) (fun _ _ => rfl)) pe_int (fun _ _ => rfl)) pe_str (nomark _)) (pss_one (ps_expr (pe_bm PySem.F.plainAttrs_list PySem.F.slot_list_append PySem.F.type_list_append mt_append (pe_ix ix_seq (pv 2) (pe_ix ix_seq (pe_ix ix_seq (pv 0) (pv 3) (fun _ _ => rfl)) pe_int (fun _ _ => rfl)) (fun _ _ => rfl)) (pa_cons (pe_op op_addU (pv 3) pe_int) pa_nil)))) pss_nil))) (pss_one (ps_ret (pe_lc (own := [("_law_own", 5)]) rfl sc__law_ends_by.nd (pi_list (pv 2)) (blkOk_by (N := ["_law_rows", "_law_hands", "_law_found", "_law_place", "_law_hand", "_law_own"]) (sc := (defScope s__law_ends_by)) (own := [("_law_own", 5)]) (by decide +kernel)) (fun _ _ _ _ _ => (pg_name (i := 5) sc__law_ends_by.nd rfl (Or.inl rfl))) (fun _ _ _ _ _ => pts_nil) (fun _ _ _ _ _ => (pe_op op_addU (pv 5) (pe_lst (pa_cons (pe_callB call_lenU (by rfl) T.n_len PySem.boot_len (pa_cons (pv 0) pa_nil)) pa_nil)))))))))
theorem ok__law_ends_by (T : Tx K mg w a) : FnOk P w K mg base CX0 1 a.f__law_ends_by a.d__law_ends_by ["_law_rows", "_law_hands"] (sp_l_ends_by K a.C) :=
  okN T.F__law_ends_by sc__law_ends_by (fun _ _ h => len_l_ends_by h) 4 rfl (t_l_ends_by K  ) (fun cdv A outer s H E hr => dv__law_ends_by T  cdv A outer s H E hr) (fun H ds r h => wk_l_ends_by K a.C H ds r h)
theorem dv__law_has_stray (T : Tx K mg w a)  (cdv : Value) (A : Around) (outer : List PySem.Env) (s : Shared) (H : Hp) (E : XK) (hr : Room 0 (A.deeper (PyProof.Rows.envOfC "_law_has_stray" (defScope s__law_has_stray) s.heap.objs.size a.f__law_has_stray cdv))) :
    PSs (cxOf CX0 P w K mg base ["_law_rows", "_law_told", "_law_line", "_law_sent", "_law_place", "_law_is_kept"] "_law_has_stray" (defScope s__law_has_stray) a.f__law_has_stray cdv A outer s H E).nox (defBody s__law_has_stray) (t_l_has_stray K  ) := by
  exact (pss_cons (ps_set (i := 3) sc__law_has_stray.nd rfl (Or.inl rfl) (pe_lst pa_nil)) (pss_cons (ps_for PassesOwn.never rfl (pi_range1 (by rfl) T.n_range (pa_cons (pe_callB call_lenU (by rfl) T.n_len PySem.boot_len (pa_cons (pv 0) pa_nil)) pa_nil)) (pg_name (i := 4) sc__law_has_stray.nd rfl (Or.inl rfl)) (pss_cons (ps_set (i := 5) sc__law_has_stray.nd rfl (Or.inl rfl) (pe_cmpR op_lt (pv 4) (pe_ix ix_seq (pe_ix ix_seq (pv 1) (pe_ix ix_seq (pe_ix ix_seq (pv 0) (pv 4) (fun _ _ => rfl)) pe_int (fun _ _ => rfl)) (fun _ _ => rfl)) (pe_ix ix_seq (pv 2) (pe_ix ix_seq (pe_ix ix_seq (pv 0) (pv 4) (fun _ _ => rfl)) pe_int (fun _ _ => rfl)) (fun _ _ => rfl)) (fun _ _ => rfl)) (nomark _))) (pss_cons (ps_if (pt_cmpR (op_eqD hr.units) (pe_ix ix_seq (pe_ix ix_seq (pv 0) (pv 4) (fun _ _ => rfl)) pe_int (fun _ _ => rfl)) pe_str (nomark _)) (pss_one (ps_expr (pe_bm PySem.F.plainAttrs_list PySem.F.slot_list_append PySem.F.type_list_append mt_append (pv 3) (pa_cons (pv 5) pa_nil)))) pss_nil) (pss_one (ps_if (PW.pt (pw_and (pt_cmpR (op_eqD hr.units) (pe_ix ix_seq (pe_ix ix_seq (pv 0) (pv 4) (fun _ _ => rfl)) pe_int (fun _ _ => rfl)) pe_str (nomark _)) (pw_and (pt_val (pv 5)) (pw_and1 (pt_not (pt_val (pe_ix ix_seq (pv 3) (pe_ix ix_seq (pe_ix ix_seq (pv 0) (pv 4) (fun _ _ => rfl)) pe_int (fun _ _ => rfl)) (fun _ _ => rfl)))))))) (pss_one (ps_ret pe_bl)) pss_nil))))) (pss_one (ps_ret pe_bl))))
theorem ok__law_has_stray (T : Tx K mg w a) : FnOk P w K mg base CX0 1 a.f__law_has_stray a.d__law_has_stray ["_law_rows", "_law_told", "_law_line"] (sp_l_has_stray K a.C) :=
  okN T.F__law_has_stray sc__law_has_stray (fun _ _ h => len_l_has_stray h) 3 rfl (t_l_has_stray K  ) (fun cdv A outer s H E hr => dv__law_has_stray T  cdv A outer s H E hr) (fun H ds r h => wk_l_has_stray K a.C H ds r h)
theorem dv__law_line_by (T : Tx K mg w a)  (cdv : Value) (A : Around) (outer : List PySem.Env) (s : Shared) (H : Hp) (E : XK) (hr : Room 0 (A.deeper (PyProof.Rows.envOfC "_law_line_by" (defScope s__law_line_by) s.heap.objs.size a.f__law_line_by cdv))) :
    PSs (cxOf CX0 P w K mg base ["_law_cell", "_law_told", "_law_fallen", "_law_line", "_law_hand", "_law_number", "_law_latest", "_law_end"] "_law_line_by" (defScope s__law_line_by) a.f__law_line_by cdv A outer s H E).nox (defBody s__law_line_by) (t_l_line_by_12 K  ) := by
  exact (pss_cons (ps_set (i := 3) sc__law_line_by.nd rfl (Or.inl rfl) (pe_lst pa_nil)) (pss_cons (ps_for PassesOwn.never rfl (pi_range1 (by rfl) T.n_range (pa_cons (pe_callB call_lenU (by rfl) T.n_len PySem.boot_len (pa_cons (pv 1) pa_nil)) pa_nil)) (pg_name (i := 4) sc__law_line_by.nd rfl (Or.inl rfl)) (pss_cons (ps_set (i := 5) sc__law_line_by.nd rfl (Or.inl rfl) (pe_op op_mod (pe_op op_mod (pe_op op_mulU (pe_op op_addU (pv 0) (pe_op op_mulU pe_int (pv 4))) pe_int) pe_int) (pe_callB call_lenU (by rfl) T.n_len PySem.boot_len (pa_cons (pe_ix ix_seq (pv 1) (pv 4) (fun _ _ => rfl)) pa_nil)))) (pss_cons (ps_if (pt_cmpR (op_eqD hr.units) (pe_op op_mod (pv 0) pe_int) pe_int (nomark _)) (pss_cons (ps_set (i := 6) sc__law_line_by.nd rfl (Or.inr rfl) (pe_op op_mod (pe_op op_fdiv (pv 0) pe_int) (pe_op op_addU (pe_ix ix_seq (pe_ix ix_seq (pv 1) (pv 4) (fun _ _ => rfl)) (pe_un un_neg pe_int) (fun _ _ => rfl)) pe_int))) (pss_one (ps_set (i := 5) sc__law_line_by.nd rfl (Or.inl rfl) (pe_op op_sub (pe_callB call_lenU (by rfl) T.n_len PySem.boot_len (pa_cons (pe_lc (own := [("_law_end", 7)]) rfl sc__law_line_by.nd (pi_list (pe_ix ix_seq (pv 1) (pv 4) (fun _ _ => rfl))) (blkOk_by (N := ["_law_cell", "_law_told", "_law_fallen", "_law_line", "_law_hand", "_law_number", "_law_latest", "_law_end"]) (sc := (defScope s__law_line_by)) (own := [("_law_end", 7)]) (by decide +kernel)) (fun _ _ _ _ _ => (pg_name (i := 7) sc__law_line_by.nd rfl (Or.inl rfl))) (fun _ _ _ _ _ => (pts_one (pt_cmpR op_le (pv 7) (pv 6) (nomark _)))) (fun _ _ _ _ _ => (pv 7))) pa_nil)) pe_int)))) pss_nil) (pss_one (ps_expr (pe_bm PySem.F.plainAttrs_list PySem.F.slot_list_append PySem.F.type_list_append mt_append (pv 3) (pa_cons (pe_callB (call_min2 rfl) (by rfl) T.n_min (by decide +kernel) (pa_cons (pe_op op_sub (pe_op op_sub (pe_callB call_lenU (by rfl) T.n_len PySem.boot_len (pa_cons (pe_ix ix_seq (pv 1) (pv 4) (fun _ _ => rfl)) pa_nil)) pe_int) (pe_callTy call_int1 (by rfl) T.n_int (by decide +kernel) (pa_cons (pe_cmpR (op_inU (Room.u65 hr)) (pv 4) (pv 2) (by rfl)) pa_nil))) (pa_cons (pv 5) pa_nil))) pa_nil))))))) (pss_one (ps_ret (pv 3)))))
theorem ok__law_line_by (T : Tx K mg w a) : FnOk P w K mg base CX0 1 a.f__law_line_by a.d__law_line_by ["_law_cell", "_law_told", "_law_fallen"] (sp_l_line_by_12 K a.C) :=
  okN T.F__law_line_by sc__law_line_by (fun _ _ h => len_l_line_by_12 h) 5 rfl (t_l_line_by_12 K  ) (fun cdv A outer s H E hr => dv__law_line_by T  cdv A outer s H E hr) (fun H ds r h => wk_l_line_by_12 K a.C H ds r h)
theorem dv__law_alike (T : Tx K mg w a) {s__law_whole : Sp} (G__law_whole : FnOk P w K mg base CX0 1 a.f__law_whole a.d__law_whole ["_law_found"] s__law_whole) (cdv : Value) (A : Around) (outer : List PySem.Env) (s : Shared) (H : Hp) (E : XK) (hr : Room 1 (A.deeper (PyProof.Rows.envOfC "_law_alike" (defScope s__law_alike) s.heap.objs.size a.f__law_alike cdv))) :
    PSs (cxOf CX0 P w K mg base ["_law_row", "_law_old"] "_law_alike" (defScope s__law_alike) a.f__law_alike cdv A outer s H E).nox (defBody s__law_alike) (t_l_alike_12 K s__law_whole ) := by
  exact (pss_cons (ps_if (PW.pt (pw_or (pt_not (pt_val (pe_callB call_isi (by rfl) T.n_isinstance (by decide +kernel) (pa_cons (pv 0) (pa_cons (pe_bltn (v := .ty "tuple") (by rfl) T.n_tuple (by decide +kernel) rfl) pa_nil))))) (pw_or (pt_cmpR (op_neD hr.units) (pe_callB call_lenU (by rfl) T.n_len PySem.boot_len (pa_cons (pv 0) pa_nil)) (pe_callB call_lenU (by rfl) T.n_len PySem.boot_len (pa_cons (pv 1) pa_nil)) (nomark _)) (pw_or1 (pt_not (pt_val (pe_callB call_isi (by rfl) T.n_isinstance (by decide +kernel) (pa_cons (pe_ix ix_seq (pv 0) pe_int (fun _ _ => rfl)) (pa_cons (pe_bltn (v := .ty "str") (by rfl) T.n_str (by decide +kernel) rfl) pa_nil))))))))) (pss_one (ps_ret pe_bl)) pss_nil) (pss_one (ps_ret (pe_and (pe_cmpR (op_eqD hr.units) (pe_ix ix_seq (pv 0) pe_int (fun _ _ => rfl)) (pe_ix ix_seq (pv 1) pe_int (fun _ _ => rfl)) (nomark _)) (pe_and (pe_call G__law_whole (hr.mono (by decide)) (by rfl) T.g__law_whole T.F__law_whole.kp T.b__law_whole .nil L2.pass0 (pa_cons (pe_ix ix_seq (pv 0) pe_int (fun _ _ => rfl)) pa_nil)) (pe_and (pe_cmpR (op_eqD hr.units) (pe_ix ix_seq (pv 0) pe_int (fun _ _ => rfl)) (pe_ix ix_seq (pv 1) pe_int (fun _ _ => rfl)) (nomark _)) (pe_one (pe_call G__law_whole (hr.mono (by decide)) (by rfl) T.g__law_whole T.F__law_whole.kp T.b__law_whole .nil L2.pass0 (pa_cons (pe_ix ix_seq (pv 0) (pe_un un_neg pe_int) (fun _ _ => rfl)) pa_nil)))))))))
theorem ok__law_alike (T : Tx K mg w a) : FnOk P w K mg base CX0 2 a.f__law_alike a.d__law_alike ["_law_row", "_law_old"] (sp_l_alike_12 K a.C) :=
  okN T.F__law_alike sc__law_alike (fun _ _ h => len_l_alike_12 h) 0 rfl (t_l_alike_12 K (sp_l_whole K a.C) ) (fun cdv A outer s H E hr => dv__law_alike T (ok__law_whole T) cdv A outer s H E hr) (fun H ds r h => wk_l_alike_12 K a.C H ds r h)
theorem dv__law_left_rightly (T : Tx K mg w a) {s__law_alike : Sp} (G__law_alike : FnOk P w K mg base CX0 2 a.f__law_alike a.d__law_alike ["_law_row", "_law_old"] s__law_alike) (cdv : Value) (A : Around) (outer : List PySem.Env) (s : Shared) (H : Hp) (E : XK) (hr : Room 2 (A.deeper (PyProof.Rows.envOfC "_law_left_rightly" (defScope s__law_left_rightly) s.heap.objs.size a.f__law_left_rightly cdv))) :
    PSs (cxOf CX0 P w K mg base ["_law_found", "_law_rows", "_law_told", "_law_line", "_law_kept", "_law_sends", "_law_fresh", "_law_k", "_law_old", "_law_at", "_law_place"] "_law_left_rightly" (defScope s__law_left_rightly) a.f__law_left_rightly cdv A outer s H E).nox (defBody s__law_left_rightly) (t_l_left_rightly K s__law_alike ) := by
  exact (pss_cons (ps_setLc (i := 4) (own := [("_law_place", 10)]) rfl sc__law_left_rightly.nd rfl rfl (sw_true rfl rfl rfl (by decide +kernel)) (pi_range1 (by rfl) T.n_range (pa_cons (pe_callB call_lenU (by rfl) T.n_len PySem.boot_len (pa_cons (pv 1) pa_nil)) pa_nil)) (blkOk_by (N := ["_law_found", "_law_rows", "_law_told", "_law_line", "_law_kept", "_law_sends", "_law_fresh", "_law_k", "_law_old", "_law_at", "_law_place"]) (sc := (defScope s__law_left_rightly)) (own := [("_law_place", 10)]) (by decide +kernel)) (fun _ _ _ _ _ => (pg_name (i := 10) sc__law_left_rightly.nd rfl (Or.inl rfl))) (fun _ _ _ _ _ => (pts_one (pt_cmpR op_lt (pv 10) (pe_ix ix_seq (pe_ix ix_seq (pv 2) (pe_ix ix_seq (pe_ix ix_seq (pv 1) (pv 10) (fun _ _ => rfl)) pe_int (fun _ _ => rfl)) (fun _ _ => rfl)) (pe_ix ix_seq (pv 3) (pe_ix ix_seq (pe_ix ix_seq (pv 1) (pv 10) (fun _ _ => rfl)) pe_int (fun _ _ => rfl)) (fun _ _ => rfl)) (fun _ _ => rfl)) (nomark _)))) (fun _ _ _ _ _ => (pv 10))) (pss_cons (ps_if (PW.pt (pw_or (pt_not (pt_val (pe_callB call_isi (by rfl) T.n_isinstance (by decide +kernel) (pa_cons (pv 0) (pa_cons (pe_bltn (v := .ty "list") (by rfl) T.n_list (by decide +kernel) rfl) pa_nil))))) (pw_or1 (pt_cmpR (op_neD hr.units) (pe_callB call_lenU (by rfl) T.n_len PySem.boot_len (pa_cons (pv 0) pa_nil)) (pe_callB call_lenU (by rfl) T.n_len PySem.boot_len (pa_cons (pv 4) pa_nil)) (nomark _))))) (pss_one (ps_ret pe_bl)) pss_nil) (pss_cons (ps_setLc (i := 5) (own := [("_law_place", 10)]) rfl sc__law_left_rightly.nd rfl rfl (sw_true rfl rfl rfl (by decide +kernel)) (pi_range1 (by rfl) T.n_range (pa_cons (pe_callB call_lenU (by rfl) T.n_len PySem.boot_len (pa_cons (pv 1) pa_nil)) pa_nil)) (blkOk_by (N := ["_law_found", "_law_rows", "_law_told", "_law_line", "_law_kept", "_law_sends", "_law_fresh", "_law_k", "_law_old", "_law_at", "_law_place"]) (sc := (defScope s__law_left_rightly)) (own := [("_law_place", 10)]) (by decide +kernel)) (fun _ _ _ _ _ => (pg_name (i := 10) sc__law_left_rightly.nd rfl (Or.inl rfl))) (fun _ _ _ _ _ => (pts_one (pt_cmpR (op_eqD hr.units) (pe_ix ix_seq (pe_ix ix_seq (pv 1) (pv 10) (fun _ _ => rfl)) pe_int (fun _ _ => rfl)) pe_str (nomark _)))) (fun _ _ _ _ _ => (pv 10))) (pss_cons (ps_set (i := 6) sc__law_left_rightly.nd rfl (Or.inl rfl) pe_dnewK) (pss_cons (ps_for PassesOwn.never rfl (pi_range1 (by rfl) T.n_range (pa_cons (pe_callB call_lenU (by rfl) T.n_len PySem.boot_len (pa_cons (pv 4) pa_nil)) pa_nil)) (pg_name (i := 7) sc__law_left_rightly.nd rfl (Or.inl rfl)) (pss_cons (ps_set (i := 8) sc__law_left_rightly.nd rfl (Or.inl rfl) (pe_ix ix_seq (pv 1) (pe_ix ix_seq (pv 4) (pv 7) (fun _ _ => rfl)) (fun _ _ => rfl))) (pss_cons (ps_if (pt_not (pt_val (pe_call G__law_alike (hr.mono (by decide)) (by rfl) T.g__law_alike T.F__law_alike.kp T.b__law_alike .nil L2.pass0 (pa_cons (pe_ix ix_seq (pv 0) (pv 7) (fun _ _ => rfl)) (pa_cons (pv 8) pa_nil))))) (pss_one (ps_ret pe_bl)) pss_nil) (pss_cons (ps_if (pt_cmpR (op_eqD hr.units) (pe_ix ix_seq (pv 8) pe_int (fun _ _ => rfl)) pe_str (nomark _)) (pss_cons (ps_dput (hu_of hr) (pv 6) (pe_ix ix_seq (pv 4) (pv 7) (fun _ _ => rfl)) (pe_callB call_lenU (by rfl) T.n_len PySem.boot_len (pa_cons (pv 6) pa_nil)) rfl) (pss_one (ps_if (pt_cmpR (op_neD hr.units) (pe_ix ix_seq (pe_ix ix_seq (pv 0) (pv 7) (fun _ _ => rfl)) pe_int (fun _ _ => rfl)) (pe_ix ix_seq (pv 8) pe_int (fun _ _ => rfl)) (nomark _)) (pss_one (ps_ret pe_bl)) pss_nil))) pss_nil) (pss_one (ps_if (pt_cmpR (op_eqD hr.units) (pe_ix ix_seq (pv 8) pe_int (fun _ _ => rfl)) pe_str (nomark _)) (pss_cons (ps_set (i := 9) sc__law_left_rightly.nd rfl (Or.inl rfl) (pe_ix ix_seq (pv 5) (pe_ix ix_seq (pv 8) pe_int (fun _ _ => rfl)) (fun _ _ => rfl))) (pss_one (ps_if (PW.pt (pw_or (pt_cmp (pc_dnotin (hu_of hr) (pv 9) (pv 6)) (by rfl)) (pw_or1 (pt_cmpR (op_neD hr.units) (pe_ix ix_seq (pe_ix ix_seq (pv 0) (pv 7) (fun _ _ => rfl)) pe_int (fun _ _ => rfl)) (pe_dget (hu_of hr) (pv 6) (pv 9) (fun _ _ => rfl)) (nomark _))))) (pss_one (ps_ret pe_bl)) pss_nil))) pss_nil)))))) (pss_one (ps_ret pe_bl)))))))
theorem ok__law_left_rightly (T : Tx K mg w a) : FnOk P w K mg base CX0 3 a.f__law_left_rightly a.d__law_left_rightly ["_law_found", "_law_rows", "_law_told", "_law_line"] (sp_l_left_rightly K a.C) :=
  okN T.F__law_left_rightly sc__law_left_rightly (fun _ _ h => len_l_left_rightly h) 7 rfl (t_l_left_rightly K (sp_l_alike_12 K a.C) ) (fun cdv A outer s H E hr => dv__law_left_rightly T (ok__law_alike T) cdv A outer s H E hr) (fun H ds r h => wk_l_left_rightly K a.C H ds r h)
theorem dv_law (T : Tx K mg w a) {s__law_cell_at s__law_hands_by s__law_cells_by s__law_rows_by s__law_fallen_by s__law_ends_by s_last_line s__law_line_told s__law_line_by s__law_has_stray s_left s__law_left_rightly s_steps : Sp} (G__law_cell_at : FnOk P w K mg base CX0 1 a.f__law_cell_at a.d__law_cell_at ["_law_script", "_law_k"] s__law_cell_at) (G__law_hands_by : FnOk P w K mg base CX0 1 a.f__law_hands_by a.d__law_hands_by ["_law_cell"] s__law_hands_by) (G__law_cells_by : FnOk P w K mg base CX0 2 a.f__law_cells_by a.d__law_cells_by ["_law_script", "_law_first"] s__law_cells_by) (G__law_rows_by : FnOk P w K mg base CX0 1 a.f__law_rows_by a.d__law_rows_by ["_law_cells", "_law_hands"] s__law_rows_by) (G__law_fallen_by : FnOk P w K mg base CX0 1 a.f__law_fallen_by a.d__law_fallen_by ["_law_cell", "_law_hands"] s__law_fallen_by) (G__law_ends_by : FnOk P w K mg base CX0 1 a.f__law_ends_by a.d__law_ends_by ["_law_rows", "_law_hands"] s__law_ends_by) (G_last_line : FnOk P w K mg base (L2.CX P w) 5 a.f_last_line a.d_last_line ["hands", "rows", "fallen"] s_last_line) (G__law_line_told : FnOk P w K mg base CX0 2 a.f__law_line_told a.d__law_line_told ["_law_found", "_law_hands"] s__law_line_told) (G__law_line_by : FnOk P w K mg base CX0 1 a.f__law_line_by a.d__law_line_by ["_law_cell", "_law_told", "_law_fallen"] s__law_line_by) (G__law_has_stray : FnOk P w K mg base CX0 1 a.f__law_has_stray a.d__law_has_stray ["_law_rows", "_law_told", "_law_line"] s__law_has_stray) (G_left : FnOk P w K mg base (L2.CX P w) 6 a.f_left a.d_left ["hands", "rows", "line"] s_left) (G__law_left_rightly : FnOk P w K mg base CX0 3 a.f__law_left_rightly a.d__law_left_rightly ["_law_found", "_law_rows", "_law_told", "_law_line"] s__law_left_rightly) (G_steps : FnOk P w K mg base (L2.CX P w) 5 a.f_steps a.d_steps ["hands", "rows", "fallen"] s_steps) (cdv : Value) (A : Around) (outer : List PySem.Env) (s : Shared) (H : Hp) (E : XK) (hr : Room 6 (A.deeper (PyProof.Rows.envOfC "law" (defScope s_law) s.heap.objs.size a.f_law cdv))) :
    PSs (cxOf CX0 P w K mg base ["_law_script", "_law_hands", "_law_rows", "_law_fallen", "_law_told", "_law_handed", "_law_line", "_law_drawn", "_law_given", "_law_found", "_law_kept", "_law_stays", "_law_hand", "_law_k", "_law_row"] "law" (defScope s_law) a.f_law cdv A outer s H E).nox (defBody s_law) (t_law_k12 K s__law_cell_at s__law_hands_by s__law_cells_by s__law_rows_by s__law_fallen_by s__law_ends_by s_last_line s__law_line_told s__law_line_by s__law_has_stray s_left s__law_left_rightly s_steps ) := by
  exact (pss_cons (ps_set (i := 1) sc_law.nd rfl (Or.inl rfl) (pe_call G__law_hands_by (hr.mono (by decide)) (by rfl) T.g__law_hands_by T.F__law_hands_by.kp T.b__law_hands_by .nil L2.pass0 (pa_cons (pe_call G__law_cell_at (hr.mono (by decide)) (by rfl) T.g__law_cell_at T.F__law_cell_at.kp T.b__law_cell_at .nil L2.pass0 (pa_cons (pv 0) (pa_cons pe_int pa_nil))) pa_nil))) (pss_cons (ps_set (i := 2) sc_law.nd rfl (Or.inl rfl) (pe_call G__law_rows_by (hr.mono (by decide)) (by rfl) T.g__law_rows_by T.F__law_rows_by.kp T.b__law_rows_by .nil L2.pass0 (pa_cons (pe_call G__law_cells_by (hr.mono (by decide)) (by rfl) T.g__law_cells_by T.F__law_cells_by.kp T.b__law_cells_by .nil L2.pass0 (pa_cons (pv 0) (pa_cons pe_int pa_nil))) (pa_cons (pv 1) pa_nil)))) (pss_cons (ps_set (i := 3) sc_law.nd rfl (Or.inl rfl) (pe_call G__law_fallen_by (hr.mono (by decide)) (by rfl) T.g__law_fallen_by T.F__law_fallen_by.kp T.b__law_fallen_by .nil L2.pass0 (pa_cons (pe_call G__law_cell_at (hr.mono (by decide)) (by rfl) T.g__law_cell_at T.F__law_cell_at.kp T.b__law_cell_at .nil L2.pass0 (pa_cons (pv 0) (pa_cons pe_int pa_nil))) (pa_cons (pv 1) pa_nil)))) (pss_cons (ps_set (i := 4) sc_law.nd rfl (Or.inr rfl) (pe_call G__law_ends_by (hr.mono (by decide)) (by rfl) T.g__law_ends_by T.F__law_ends_by.kp T.b__law_ends_by .nil L2.pass0 (pa_cons (pv 2) (pa_cons (pv 1) pa_nil)))) (pss_cons (ps_set (i := 5) sc_law.nd rfl (Or.inl rfl) (pe_callTy (call_listU rfl) (by rfl) T.n_list (by decide +kernel) (pa_cons (pv 2) pa_nil))) (pss_cons (ps_set (i := 6) sc_law.nd rfl (Or.inr rfl) (pe_call G_last_line (hr.mono (by decide)) (by rfl) T.g_last_line T.F_last_line.kp T.b_last_line .nil passL (pa_cons (pv 1) (pa_cons (pv 5) (pa_cons (pe_callTy (call_listU rfl) (by rfl) T.n_list (by decide +kernel) (pa_cons (pv 3) pa_nil)) pa_nil))))) (pss_cons (ps_if (pt_not (pt_val (pe_call G__law_line_told (hr.mono (by decide)) (by rfl) T.g__law_line_told T.F__law_line_told.kp T.b__law_line_told .nil L2.pass0 (pa_cons (pv 6) (pa_cons (pv 1) pa_nil))))) (pss_one (ps_ret pe_bl)) pss_nil) (pss_cons (ps_if (pt_cmpR (op_neD hr.units) (pe_lc (own := [("_law_k", 13)]) rfl sc_law.nd (pi_range1 (by rfl) T.n_range (pa_cons (pv 1) pa_nil)) (blkOk_by (N := ["_law_script", "_law_hands", "_law_rows", "_law_fallen", "_law_told", "_law_handed", "_law_line", "_law_drawn", "_law_given", "_law_found", "_law_kept", "_law_stays", "_law_hand", "_law_k", "_law_row"]) (sc := (defScope s_law)) (own := [("_law_k", 13)]) (by decide +kernel)) (fun _ _ _ _ _ => (pg_name (i := 13) sc_law.nd rfl (Or.inl rfl))) (fun _ _ _ _ _ => (pts_one (PW.pt (pw_or (pt_cmpR op_lt (pe_ix ix_seq (pv 6) (pv 13) (fun _ _ => rfl)) pe_int (nomark _)) (pw_or1 (pt_cmpR op_ge (pe_ix ix_seq (pv 6) (pv 13) (fun _ _ => rfl)) (pe_callB call_lenU (by rfl) T.n_len PySem.boot_len (pa_cons (pe_ix ix_seq (pv 4) (pv 13) (fun _ _ => rfl)) pa_nil)) (nomark _))))))) (fun _ _ _ _ _ => (pv 13))) (pe_lst pa_nil) (nomark _)) (pss_one (ps_ret pe_bl)) pss_nil) (pss_cons (ps_set (i := 7) sc_law.nd rfl (Or.inl rfl) (pe_call G__law_line_by (hr.mono (by decide)) (by rfl) T.g__law_line_by T.F__law_line_by.kp T.b__law_line_by .nil L2.pass0 (pa_cons (pe_op op_fdiv (pe_call G__law_cell_at (hr.mono (by decide)) (by rfl) T.g__law_cell_at T.F__law_cell_at.kp T.b__law_cell_at .nil L2.pass0 (pa_cons (pv 0) (pa_cons pe_int pa_nil))) pe_int) (pa_cons (pv 4) (pa_cons (pv 3) pa_nil))))) (pss_cons (ps_if (PW.pt (pw_and (pt_cmpR (op_eqD hr.units) (pe_op op_mod (pe_op op_fdiv (pe_call G__law_cell_at (hr.mono (by decide)) (by rfl) T.g__law_cell_at T.F__law_cell_at.kp T.b__law_cell_at .nil L2.pass0 (pa_cons (pv 0) (pa_cons pe_int pa_nil))) pe_int) pe_int) pe_int (nomark _)) (pw_and1 (pt_not (pt_val (pe_call G__law_has_stray (hr.mono (by decide)) (by rfl) T.g__law_has_stray T.F__law_has_stray.kp T.b__law_has_stray .nil L2.pass0 (pa_cons (pv 2) (pa_cons (pv 4) (pa_cons (pv 7) pa_nil))))))))) (pss_one (ps_set (i := 6) sc_law.nd rfl (Or.inr rfl) (pv 7))) pss_nil) (pss_cons (ps_set (i := 8) sc_law.nd rfl (Or.inl rfl) (pe_callTy (call_listU rfl) (by rfl) T.n_list (by decide +kernel) (pa_cons (pv 6) pa_nil))) (pss_cons (ps_set (i := 9) sc_law.nd rfl (Or.inr rfl) (pe_call G_left (hr.mono (by decide)) (by rfl) T.g_left T.F_left.kp T.b_left .nil passL (pa_cons (pv 1) (pa_cons (pv 5) (pa_cons (pv 8) pa_nil))))) (pss_cons (ps_if (PW.pt (pw_or (pt_cmpR (op_neD hr.units) (pv 5) (pv 2) (nomark _)) (pw_or (pt_cmpR (op_neD hr.units) (pv 8) (pv 6) (nomark _)) (pw_or1 (pt_not (pt_val (pe_call G__law_left_rightly (hr.mono (by decide)) (by rfl) T.g__law_left_rightly T.F__law_left_rightly.kp T.b__law_left_rightly .nil L2.pass0 (pa_cons (pv 9) (pa_cons (pv 2) (pa_cons (pv 4) (pa_cons (pv 6) pa_nil))))))))))) (pss_one (ps_ret pe_bl)) pss_nil) (pss_cons (ps_set (i := 10) sc_law.nd rfl (Or.inl rfl) (pe_callTy (call_listU rfl) (by rfl) T.n_list (by decide +kernel) (pa_cons (pv 9) pa_nil))) (pss_cons (ps_expr (pe_bm PySem.F.plainAttrs_list PySem.F.slot_list_append PySem.F.type_list_append mt_append (pv 9) (pa_cons (pe_tup (pa_cons pe_str (pa_cons pe_int pa_nil))) pa_nil))) (pss_cons (ps_set (i := 9) sc_law.nd rfl (Or.inr rfl) (pe_call G_left (hr.mono (by decide)) (by rfl) T.g_left T.F_left.kp T.b_left .nil passL (pa_cons (pv 1) (pa_cons (pv 5) (pa_cons (pv 8) pa_nil))))) (pss_cons (ps_if (PW.pt (pw_or (pt_cmpR (op_neD hr.units) (pv 5) (pv 2) (nomark _)) (pw_or1 (pt_cmpR (op_neD hr.units) (pv 9) (pv 10) (nomark _))))) (pss_one (ps_ret pe_bl)) pss_nil) (pss_cons (ps_setLc (i := 11) (own := [("_law_hand", 12)]) rfl sc_law.nd rfl rfl (sw_true rfl rfl rfl (by decide +kernel)) (pi_range1 (by rfl) T.n_range (pa_cons (pv 1) pa_nil)) (blkOk_by (N := ["_law_script", "_law_hands", "_law_rows", "_law_fallen", "_law_told", "_law_handed", "_law_line", "_law_drawn", "_law_given", "_law_found", "_law_kept", "_law_stays", "_law_hand", "_law_k", "_law_row"]) (sc := (defScope s_law)) (own := [("_law_hand", 12)]) (by decide +kernel)) (fun _ _ _ _ _ => (pg_name (i := 12) sc_law.nd rfl (Or.inr rfl))) (fun _ _ _ _ _ => pts_nil) (fun _ _ _ _ _ => (pe_op op_addU pe_int (pe_callB call_lenU (by rfl) T.n_len PySem.boot_len (pa_cons (pe_lc (own := [("_law_row", 14)]) rfl sc_law.nd (pi_list (pv 9)) (blkOk_by (N := ["_law_script", "_law_hands", "_law_rows", "_law_fallen", "_law_told", "_law_handed", "_law_line", "_law_drawn", "_law_given", "_law_found", "_law_kept", "_law_stays", "_law_hand", "_law_k", "_law_row"]) (sc := ({ kind := .function, names := [(".0", .local), ("_law_hand", .cell), ("len", .globalImplicit), ("_law_found", .cell)], isGenerator := false, isCoroutine := false, more := [] } : PySem.Scope)) (own := [("_law_row", 14)]) (by decide +kernel)) (fun _ _ _ _ _ => (pg_name (i := 14) sc_law.nd rfl (Or.inl rfl))) (fun _ _ _ _ _ => (pts_one (pt_cmpR (op_eqD hr.units) (pv 14) (pe_tup (pa_cons pe_str (pa_cons (pv 12) pa_nil))) (nomark _)))) (fun _ _ _ _ _ => (pv 14))) pa_nil))))) (pss_cons (ps_if (pt_cmpR (op_neD hr.units) (pe_call G_last_line (hr.mono (by decide)) (by rfl) T.g_last_line T.F_last_line.kp T.b_last_line .nil passL (pa_cons (pv 1) (pa_cons (pe_callTy (call_listU rfl) (by rfl) T.n_list (by decide +kernel) (pa_cons (pv 9) pa_nil)) (pa_cons (pe_lst pa_nil) pa_nil)))) (pv 11) (nomark _)) (pss_one (ps_ret pe_bl)) pss_nil) (pss_one (ps_ret (pe_cmpR (op_eqD hr.units) (pe_call G_steps (hr.mono (by decide)) (by rfl) T.g_steps T.F_steps.kp T.b_steps .nil passL (pa_cons (pv 1) (pa_cons (pe_callTy (call_listU rfl) (by rfl) T.n_list (by decide +kernel) (pa_cons (pv 9) pa_nil)) (pa_cons (pe_callTy (call_listU rfl) (by rfl) T.n_list (by decide +kernel) (pa_cons (pv 3) pa_nil)) pa_nil)))) (pe_lst pa_nil) (nomark _)))))))))))))))))))))))
theorem ok_law (T : Tx K mg w a) : FnOk P w K mg base CX0 7 a.f_law a.d_law ["_law_script"] (sp_law K a.C) :=
  okS T.F_law sc_law (fun _ _ _ h => len_law h) 14 rfl (t_law_k12 K (sp_l_cell_at K a.C) (sp_l_hands_by K a.C) (sp_l_cells_by K a.C) (sp_l_rows_by K a.C) (sp_l_fallen_by_09 K a.C) (sp_l_ends_by K a.C) (sp_last_line K a.C) (sp_l_line_told K a.C) (sp_l_line_by_12 K a.C) (sp_l_has_stray K a.C) (sp_left K a.C) (sp_l_left_rightly K a.C) (sp_steps K a.C) ) (fun cdv A outer s H E hr => dv_law T (ok__law_cell_at T) (ok__law_hands_by T) (ok__law_cells_by T) (ok__law_rows_by T) (ok__law_fallen_by T) (ok__law_ends_by T) (ok_last_line T) (ok__law_line_told T) (ok__law_line_by T) (ok__law_has_stray T) (ok_left T) (ok__law_left_rightly T) (ok_steps T) cdv A outer s H E hr) (fun H b ns ds r hS h => wk_law_k12 K a.C H b ns ds r hS h)
end
/-! ### what the top has written -/
theorem all_mk {l : PySem.W.OpenLaw} {w : World} {K : PySem.W.Frag} {h : Heap} {mg : Str → Option Value} {fa f0 f1 f2 f3 f4 f5 f6 f7 f8 f9 f10 f11 f12 f13 f14 f15 f16 f17 f18 f19 f20 f21 f22 f23 f24 f25 f26 f27 f28 f29 f30 f31 c_LineError c_NoHands c_TooMany c_NoRow c_NoHand c_NoLetter c_GotTwice c_NoLine c_Unsound pD : Addr} (X : K.In h) (G : h.Ns mainGlobals mg) (hfa : mg "law" = some (.ref fa))
    {od0 od1 od2 od3 od4 od5 od6 od7 od8 od9 od10 od11 od12 od13 od14 od15 od16 od17 od18 od19 od20 od21 od22 od23 od24 od25 od26 od27 od28 od29 od30 od31 an0 an1 an2 an3 an4 an5 an6 an7 an8 an9 an10 an11 an12 an13 an14 an15 an16 an17 an18 an19 an20 an21 an22 an23 an24 an25 an26 an27 an28 an29 an30 an31 : Option Addr} {sl0 sl1 sl2 sl3 sl4 sl5 sl6 sl7 sl8 sl9 sl10 sl11 sl12 sl13 sl14 sl15 sl16 sl17 sl18 sl19 sl20 sl21 sl22 sl23 sl24 sl25 sl26 sl27 sl28 sl29 sl30 sl31 : Array (Option Value)} {oc0 kV0 dc0 pm0 cd0 ct0 oc1 kV1 dc1 pm1 cd1 ct1 oc2 kV2 dc2 pm2 cd2 ct2 oc3 kV3 dc3 pm3 cd3 ct3 oc4 kV4 dc4 pm4 cd4 ct4 oc5 kV5 dc5 pm5 cd5 ct5 oc6 kV6 dc6 pm6 cd6 ct6 oc7 kV7 dc7 pm7 cd7 ct7 oc8 kV8 dc8 pm8 cd8 ct8 oc9 kV9 dc9 pm9 cd9 ct9 oc10 kV10 dc10 pm10 cd10 ct10 oc11 kV11 dc11 pm11 cd11 ct11 oc12 kV12 dc12 pm12 cd12 ct12 oc13 kV13 dc13 pm13 cd13 ct13 oc14 kV14 dc14 pm14 cd14 ct14 oc15 kV15 dc15 pm15 cd15 ct15 oc16 kV16 dc16 pm16 cd16 ct16 oc17 kV17 dc17 pm17 cd17 ct17 oc18 kV18 dc18 pm18 cd18 ct18 oc19 kV19 dc19 pm19 cd19 ct19 oc20 kV20 dc20 pm20 cd20 ct20 oc21 kV21 dc21 pm21 cd21 ct21 oc22 kV22 dc22 pm22 cd22 ct22 oc23 kV23 dc23 pm23 cd23 ct23 oc24 kV24 dc24 pm24 cd24 ct24 oc25 kV25 dc25 pm25 cd25 ct25 oc26 kV26 dc26 pm26 cd26 ct26 oc27 kV27 dc27 pm27 cd27 ct27 oc28 kV28 dc28 pm28 cd28 ct28 oc29 kV29 dc29 pm29 cd29 ct29 oc30 kV30 dc30 pm30 cd30 ct30 oc31 kV31 dc31 pm31 cd31 ct31 : Value}
    {t_HANDS : Tok} {t_ROWS : Tok} {h1 h2 h3 : Int} {u1 u2 u3 v1 v2 v3 : Tok} {pN : Nat}
    (a0 : PySem.W.nsIn K mainGlobals "need_row" = some (some (.ref f0))) (l0 : K.lookup f0 = some ⟨oc0, od0, .func (PySem.W.fnOf "need_row" "need_row" (defArgs s_need_row) (defBody s_need_row) (defScope s_need_row) .none kV0 dc0 pm0 an0 cd0 ct0), sl0⟩) (c0 : PySem.W.codeIn K cd0 "need_row" = true) (k0 : PySem.W.keepIn K (.ref f0) = true)
    (a1 : PySem.W.nsIn K mainGlobals "need_hand" = some (some (.ref f1))) (l1 : K.lookup f1 = some ⟨oc1, od1, .func (PySem.W.fnOf "need_hand" "need_hand" (defArgs s_need_hand) (defBody s_need_hand) (defScope s_need_hand) .none kV1 dc1 pm1 an1 cd1 ct1), sl1⟩) (c1 : PySem.W.codeIn K cd1 "need_hand" = true) (k1 : PySem.W.keepIn K (.ref f1) = true)
    (a2 : PySem.W.nsIn K mainGlobals "need_letter" = some (some (.ref f2))) (l2 : K.lookup f2 = some ⟨oc2, od2, .func (PySem.W.fnOf "need_letter" "need_letter" (defArgs s_need_letter) (defBody s_need_letter) (defScope s_need_letter) .none kV2 dc2 pm2 an2 cd2 ct2), sl2⟩) (c2 : PySem.W.codeIn K cd2 "need_letter" = true) (k2 : PySem.W.keepIn K (.ref f2) = true)
    (a3 : PySem.W.nsIn K mainGlobals "letters" = some (some (.ref f3))) (l3 : K.lookup f3 = some ⟨oc3, od3, .func (PySem.W.fnOf "letters" "letters" (defArgs s_letters) (defBody s_letters) (defScope s_letters) .none kV3 dc3 pm3 an3 cd3 ct3), sl3⟩) (c3 : PySem.W.codeIn K cd3 "letters" = true) (k3 : PySem.W.keepIn K (.ref f3) = true)
    (a4 : PySem.W.nsIn K mainGlobals "ends" = some (some (.ref f4))) (l4 : K.lookup f4 = some ⟨oc4, od4, .func (PySem.W.fnOf "ends" "ends" (defArgs s_ends) (defBody s_ends) (defScope s_ends) .none kV4 dc4 pm4 an4 cd4 ct4), sl4⟩) (c4 : PySem.W.codeIn K cd4 "ends" = true) (k4 : PySem.W.keepIn K (.ref f4) = true)
    (a5 : PySem.W.nsIn K mainGlobals "need_line" = some (some (.ref f5))) (l5 : K.lookup f5 = some ⟨oc5, od5, .func (PySem.W.fnOf "need_line" "need_line" (defArgs s_need_line) (defBody s_need_line) (defScope s_need_line) .none kV5 dc5 pm5 an5 cd5 ct5), sl5⟩) (c5 : PySem.W.codeIn K cd5 "need_line" = true) (k5 : PySem.W.keepIn K (.ref f5) = true)
    (a6 : PySem.W.nsIn K mainGlobals "ends_of" = some (some (.ref f6))) (l6 : K.lookup f6 = some ⟨oc6, od6, .func (PySem.W.fnOf "ends_of" "ends_of" (defArgs s_ends_of) (defBody s_ends_of) (defScope s_ends_of) .none kV6 dc6 pm6 an6 cd6 ct6), sl6⟩) (c6 : PySem.W.codeIn K cd6 "ends_of" = true) (k6 : PySem.W.keepIn K (.ref f6) = true)
    (a7 : PySem.W.nsIn K mainGlobals "is_stray" = some (some (.ref f7))) (l7 : K.lookup f7 = some ⟨oc7, od7, .func (PySem.W.fnOf "is_stray" "is_stray" (defArgs s_is_stray) (defBody s_is_stray) (defScope s_is_stray) .none kV7 dc7 pm7 an7 cd7 ct7), sl7⟩) (c7 : PySem.W.codeIn K cd7 "is_stray" = true) (k7 : PySem.W.keepIn K (.ref f7) = true)
    (a8 : PySem.W.nsIn K mainGlobals "strays_by" = some (some (.ref f8))) (l8 : K.lookup f8 = some ⟨oc8, od8, .func (PySem.W.fnOf "strays_by" "strays_by" (defArgs s_strays_by) (defBody s_strays_by) (defScope s_strays_by) .none kV8 dc8 pm8 an8 cd8 ct8), sl8⟩) (c8 : PySem.W.codeIn K cd8 "strays_by" = true) (k8 : PySem.W.keepIn K (.ref f8) = true)
    (a9 : PySem.W.nsIn K mainGlobals "kept_by" = some (some (.ref f9))) (l9 : K.lookup f9 = some ⟨oc9, od9, .func (PySem.W.fnOf "kept_by" "kept_by" (defArgs s_kept_by) (defBody s_kept_by) (defScope s_kept_by) .none kV9 dc9 pm9 an9 cd9 ct9), sl9⟩) (c9 : PySem.W.codeIn K cd9 "kept_by" = true) (k9 : PySem.W.keepIn K (.ref f9) = true)
    (a10 : PySem.W.nsIn K mainGlobals "new_numbers" = some (some (.ref f10))) (l10 : K.lookup f10 = some ⟨oc10, od10, .func (PySem.W.fnOf "new_numbers" "new_numbers" (defArgs s_new_numbers) (defBody s_new_numbers) (defScope s_new_numbers) .none kV10 dc10 pm10 an10 cd10 ct10), sl10⟩) (c10 : PySem.W.codeIn K cd10 "new_numbers" = true) (k10 : PySem.W.keepIn K (.ref f10) = true)
    (a11 : PySem.W.nsIn K mainGlobals "sound_ends" = some (some (.ref f11))) (l11 : K.lookup f11 = some ⟨oc11, od11, .func (PySem.W.fnOf "sound_ends" "sound_ends" (defArgs s_sound_ends) (defBody s_sound_ends) (defScope s_sound_ends) .none kV11 dc11 pm11 an11 cd11 ct11), sl11⟩) (c11 : PySem.W.codeIn K cd11 "sound_ends" = true) (k11 : PySem.W.keepIn K (.ref f11) = true)
    (a12 : PySem.W.nsIn K mainGlobals "left" = some (some (.ref f12))) (l12 : K.lookup f12 = some ⟨oc12, od12, .func (PySem.W.fnOf "left" "left" (defArgs s_left) (defBody s_left) (defScope s_left) .none kV12 dc12 pm12 an12 cd12 ct12), sl12⟩) (c12 : PySem.W.codeIn K cd12 "left" = true) (k12 : PySem.W.keepIn K (.ref f12) = true)
    (a13 : PySem.W.nsIn K mainGlobals "number_ahead" = some (some (.ref f13))) (l13 : K.lookup f13 = some ⟨oc13, od13, .func (PySem.W.fnOf "number_ahead" "number_ahead" (defArgs s_number_ahead) (defBody s_number_ahead) (defScope s_number_ahead) .none kV13 dc13 pm13 an13 cd13 ct13), sl13⟩) (c13 : PySem.W.codeIn K cd13 "number_ahead" = true) (k13 : PySem.W.keepIn K (.ref f13) = true)
    (a14 : PySem.W.nsIn K mainGlobals "fall" = some (some (.ref f14))) (l14 : K.lookup f14 = some ⟨oc14, od14, .func (PySem.W.fnOf "fall" "fall" (defArgs s_fall) (defBody s_fall) (defScope s_fall) .none kV14 dc14 pm14 an14 cd14 ct14), sl14⟩) (c14 : PySem.W.codeIn K cd14 "fall" = true) (k14 : PySem.W.keepIn K (.ref f14) = true)
    (a15 : PySem.W.nsIn K mainGlobals "now" = some (some (.ref f15))) (l15 : K.lookup f15 = some ⟨oc15, od15, .func (PySem.W.fnOf "now" "now" (defArgs s_now) (defBody s_now) (defScope s_now) .none kV15 dc15 pm15 an15 cd15 ct15), sl15⟩) (c15 : PySem.W.codeIn K cd15 "now" = true) (k15 : PySem.W.keepIn K (.ref f15) = true)
    (a16 : PySem.W.nsIn K mainGlobals "top_line" = some (some (.ref f16))) (l16 : K.lookup f16 = some ⟨oc16, od16, .func (PySem.W.fnOf "top_line" "top_line" (defArgs s_top_line) (defBody s_top_line) (defScope s_top_line) .none kV16 dc16 pm16 an16 cd16 ct16), sl16⟩) (c16 : PySem.W.codeIn K cd16 "top_line" = true) (k16 : PySem.W.keepIn K (.ref f16) = true)
    (a17 : PySem.W.nsIn K mainGlobals "steps" = some (some (.ref f17))) (l17 : K.lookup f17 = some ⟨oc17, od17, .func (PySem.W.fnOf "steps" "steps" (defArgs s_steps) (defBody s_steps) (defScope s_steps) .none kV17 dc17 pm17 an17 cd17 ct17), sl17⟩) (c17 : PySem.W.codeIn K cd17 "steps" = true) (k17 : PySem.W.keepIn K (.ref f17) = true)
    (a18 : PySem.W.nsIn K mainGlobals "last_line" = some (some (.ref f18))) (l18 : K.lookup f18 = some ⟨oc18, od18, .func (PySem.W.fnOf "last_line" "last_line" (defArgs s_last_line) (defBody s_last_line) (defScope s_last_line) .none kV18 dc18 pm18 an18 cd18 ct18), sl18⟩) (c18 : PySem.W.codeIn K cd18 "last_line" = true) (k18 : PySem.W.keepIn K (.ref f18) = true)
    (a19 : PySem.W.nsIn K mainGlobals "_law_cell_at" = some (some (.ref f19))) (l19 : K.lookup f19 = some ⟨oc19, od19, .func (PySem.W.fnOf "_law_cell_at" "_law_cell_at" (defArgs s__law_cell_at) (defBody s__law_cell_at) (defScope s__law_cell_at) .none kV19 dc19 pm19 an19 cd19 ct19), sl19⟩) (c19 : PySem.W.codeIn K cd19 "_law_cell_at" = true) (k19 : PySem.W.keepIn K (.ref f19) = true)
    (a20 : PySem.W.nsIn K mainGlobals "_law_hands_by" = some (some (.ref f20))) (l20 : K.lookup f20 = some ⟨oc20, od20, .func (PySem.W.fnOf "_law_hands_by" "_law_hands_by" (defArgs s__law_hands_by) (defBody s__law_hands_by) (defScope s__law_hands_by) .none kV20 dc20 pm20 an20 cd20 ct20), sl20⟩) (c20 : PySem.W.codeIn K cd20 "_law_hands_by" = true) (k20 : PySem.W.keepIn K (.ref f20) = true)
    (a21 : PySem.W.nsIn K mainGlobals "_law_cells_by" = some (some (.ref f21))) (l21 : K.lookup f21 = some ⟨oc21, od21, .func (PySem.W.fnOf "_law_cells_by" "_law_cells_by" (defArgs s__law_cells_by) (defBody s__law_cells_by) (defScope s__law_cells_by) .none kV21 dc21 pm21 an21 cd21 ct21), sl21⟩) (c21 : PySem.W.codeIn K cd21 "_law_cells_by" = true) (k21 : PySem.W.keepIn K (.ref f21) = true)
    (a22 : PySem.W.nsIn K mainGlobals "_law_rows_by" = some (some (.ref f22))) (l22 : K.lookup f22 = some ⟨oc22, od22, .func (PySem.W.fnOf "_law_rows_by" "_law_rows_by" (defArgs s__law_rows_by) (defBody s__law_rows_by) (defScope s__law_rows_by) .none kV22 dc22 pm22 an22 cd22 ct22), sl22⟩) (c22 : PySem.W.codeIn K cd22 "_law_rows_by" = true) (k22 : PySem.W.keepIn K (.ref f22) = true)
    (a23 : PySem.W.nsIn K mainGlobals "_law_fallen_by" = some (some (.ref f23))) (l23 : K.lookup f23 = some ⟨oc23, od23, .func (PySem.W.fnOf "_law_fallen_by" "_law_fallen_by" (defArgs s__law_fallen_by) (defBody s__law_fallen_by) (defScope s__law_fallen_by) .none kV23 dc23 pm23 an23 cd23 ct23), sl23⟩) (c23 : PySem.W.codeIn K cd23 "_law_fallen_by" = true) (k23 : PySem.W.keepIn K (.ref f23) = true)
    (a24 : PySem.W.nsIn K mainGlobals "_law_whole" = some (some (.ref f24))) (l24 : K.lookup f24 = some ⟨oc24, od24, .func (PySem.W.fnOf "_law_whole" "_law_whole" (defArgs s__law_whole) (defBody s__law_whole) (defScope s__law_whole) .none kV24 dc24 pm24 an24 cd24 ct24), sl24⟩) (c24 : PySem.W.codeIn K cd24 "_law_whole" = true) (k24 : PySem.W.keepIn K (.ref f24) = true)
    (a25 : PySem.W.nsIn K mainGlobals "_law_line_told" = some (some (.ref f25))) (l25 : K.lookup f25 = some ⟨oc25, od25, .func (PySem.W.fnOf "_law_line_told" "_law_line_told" (defArgs s__law_line_told) (defBody s__law_line_told) (defScope s__law_line_told) .none kV25 dc25 pm25 an25 cd25 ct25), sl25⟩) (c25 : PySem.W.codeIn K cd25 "_law_line_told" = true) (k25 : PySem.W.keepIn K (.ref f25) = true)
    (a26 : PySem.W.nsIn K mainGlobals "_law_ends_by" = some (some (.ref f26))) (l26 : K.lookup f26 = some ⟨oc26, od26, .func (PySem.W.fnOf "_law_ends_by" "_law_ends_by" (defArgs s__law_ends_by) (defBody s__law_ends_by) (defScope s__law_ends_by) .none kV26 dc26 pm26 an26 cd26 ct26), sl26⟩) (c26 : PySem.W.codeIn K cd26 "_law_ends_by" = true) (k26 : PySem.W.keepIn K (.ref f26) = true)
    (a27 : PySem.W.nsIn K mainGlobals "_law_has_stray" = some (some (.ref f27))) (l27 : K.lookup f27 = some ⟨oc27, od27, .func (PySem.W.fnOf "_law_has_stray" "_law_has_stray" (defArgs s__law_has_stray) (defBody s__law_has_stray) (defScope s__law_has_stray) .none kV27 dc27 pm27 an27 cd27 ct27), sl27⟩) (c27 : PySem.W.codeIn K cd27 "_law_has_stray" = true) (k27 : PySem.W.keepIn K (.ref f27) = true)
    (a28 : PySem.W.nsIn K mainGlobals "_law_line_by" = some (some (.ref f28))) (l28 : K.lookup f28 = some ⟨oc28, od28, .func (PySem.W.fnOf "_law_line_by" "_law_line_by" (defArgs s__law_line_by) (defBody s__law_line_by) (defScope s__law_line_by) .none kV28 dc28 pm28 an28 cd28 ct28), sl28⟩) (c28 : PySem.W.codeIn K cd28 "_law_line_by" = true) (k28 : PySem.W.keepIn K (.ref f28) = true)
    (a29 : PySem.W.nsIn K mainGlobals "_law_alike" = some (some (.ref f29))) (l29 : K.lookup f29 = some ⟨oc29, od29, .func (PySem.W.fnOf "_law_alike" "_law_alike" (defArgs s__law_alike) (defBody s__law_alike) (defScope s__law_alike) .none kV29 dc29 pm29 an29 cd29 ct29), sl29⟩) (c29 : PySem.W.codeIn K cd29 "_law_alike" = true) (k29 : PySem.W.keepIn K (.ref f29) = true)
    (a30 : PySem.W.nsIn K mainGlobals "_law_left_rightly" = some (some (.ref f30))) (l30 : K.lookup f30 = some ⟨oc30, od30, .func (PySem.W.fnOf "_law_left_rightly" "_law_left_rightly" (defArgs s__law_left_rightly) (defBody s__law_left_rightly) (defScope s__law_left_rightly) .none kV30 dc30 pm30 an30 cd30 ct30), sl30⟩) (c30 : PySem.W.codeIn K cd30 "_law_left_rightly" = true) (k30 : PySem.W.keepIn K (.ref f30) = true)
    (a31 : PySem.W.nsIn K mainGlobals "law" = some (some (.ref f31))) (l31 : K.lookup f31 = some ⟨oc31, od31, .func (PySem.W.fnOf "law" "law" (defArgs s_law) (defBody s_law) (defScope s_law) .none kV31 dc31 pm31 an31 cd31 ct31), sl31⟩) (c31 : PySem.W.codeIn K cd31 "law" = true) (k31 : PySem.W.keepIn K (.ref f31) = true)
    (z_bool : PySem.W.nsIn K mainGlobals "bool" = some none)
    (z_enumerate : PySem.W.nsIn K mainGlobals "enumerate" = some none)
    (z_int : PySem.W.nsIn K mainGlobals "int" = some none)
    (z_isinstance : PySem.W.nsIn K mainGlobals "isinstance" = some none)
    (z_len : PySem.W.nsIn K mainGlobals "len" = some none)
    (z_list : PySem.W.nsIn K mainGlobals "list" = some none)
    (z_min : PySem.W.nsIn K mainGlobals "min" = some none)
    (z_range : PySem.W.nsIn K mainGlobals "range" = some none)
    (z_str : PySem.W.nsIn K mainGlobals "str" = some none)
    (z_tuple : PySem.W.nsIn K mainGlobals "tuple" = some none)
    (m_HANDS : PySem.W.nsIn K mainGlobals "HANDS" = some (some (.int 40 t_HANDS)))
    (m_ROWS : PySem.W.nsIn K mainGlobals "ROWS" = some (some (.int 1000 t_ROWS)))
    (pA : PySem.W.nsIn K mainGlobals "PARTS" = some (some (.ref pD))) (pL : K.lookup pD = some ⟨.type "dict", none, .dict #[⟨h1, .str wSend u1, .int 3 v1⟩, ⟨h2, .str wGot u2, .int 3 v2⟩, ⟨h3, .str wNote u3, .int 2 v3⟩] pN, #[]⟩) (pK : PySem.W.KeysLit w.params [⟨h1, .str wSend u1, .int 3 v1⟩, ⟨h2, .str wGot u2, .int 3 v2⟩, ⟨h3, .str wNote u3, .int 2 v3⟩]) (pS : (pD == sysModules) = false)
    (gc_LineError : PySem.W.nsIn K mainGlobals "LineError" = some (some (.ref c_LineError)))
    (gc_NoHands : PySem.W.nsIn K mainGlobals "NoHands" = some (some (.ref c_NoHands)))
    (gc_TooMany : PySem.W.nsIn K mainGlobals "TooMany" = some (some (.ref c_TooMany)))
    (gc_NoRow : PySem.W.nsIn K mainGlobals "NoRow" = some (some (.ref c_NoRow)))
    (gc_NoHand : PySem.W.nsIn K mainGlobals "NoHand" = some (some (.ref c_NoHand)))
    (gc_NoLetter : PySem.W.nsIn K mainGlobals "NoLetter" = some (some (.ref c_NoLetter)))
    (gc_GotTwice : PySem.W.nsIn K mainGlobals "GotTwice" = some (some (.ref c_GotTwice)))
    (gc_NoLine : PySem.W.nsIn K mainGlobals "NoLine" = some (some (.ref c_NoLine)))
    (gc_Unsound : PySem.W.nsIn K mainGlobals "Unsound" = some (some (.ref c_Unsound)))
    (xc_GotTwice : PySem.W.excIn K c_GotTwice [.type "ValueError", .type "Exception", .type "BaseException", .type "object"] "ValueError.__new__" = true) (kc_GotTwice : PySem.W.keepIn K (.ref c_GotTwice) = true) (bc_GotTwice : PySem.W.subIn K (.ref c_GotTwice) (.type "BaseException") = some true) (tc_GotTwice : PySem.W.typeIn K (.ref c_GotTwice) = some (.type "type"))
    (xc_NoHand : PySem.W.excIn K c_NoHand [.type "ValueError", .type "Exception", .type "BaseException", .type "object"] "ValueError.__new__" = true) (kc_NoHand : PySem.W.keepIn K (.ref c_NoHand) = true) (bc_NoHand : PySem.W.subIn K (.ref c_NoHand) (.type "BaseException") = some true) (tc_NoHand : PySem.W.typeIn K (.ref c_NoHand) = some (.type "type"))
    (xc_NoHands : PySem.W.excIn K c_NoHands [.type "ValueError", .type "Exception", .type "BaseException", .type "object"] "ValueError.__new__" = true) (kc_NoHands : PySem.W.keepIn K (.ref c_NoHands) = true) (bc_NoHands : PySem.W.subIn K (.ref c_NoHands) (.type "BaseException") = some true) (tc_NoHands : PySem.W.typeIn K (.ref c_NoHands) = some (.type "type"))
    (xc_NoLetter : PySem.W.excIn K c_NoLetter [.type "ValueError", .type "Exception", .type "BaseException", .type "object"] "ValueError.__new__" = true) (kc_NoLetter : PySem.W.keepIn K (.ref c_NoLetter) = true) (bc_NoLetter : PySem.W.subIn K (.ref c_NoLetter) (.type "BaseException") = some true) (tc_NoLetter : PySem.W.typeIn K (.ref c_NoLetter) = some (.type "type"))
    (xc_NoLine : PySem.W.excIn K c_NoLine [.type "ValueError", .type "Exception", .type "BaseException", .type "object"] "ValueError.__new__" = true) (kc_NoLine : PySem.W.keepIn K (.ref c_NoLine) = true) (bc_NoLine : PySem.W.subIn K (.ref c_NoLine) (.type "BaseException") = some true) (tc_NoLine : PySem.W.typeIn K (.ref c_NoLine) = some (.type "type"))
    (xc_NoRow : PySem.W.excIn K c_NoRow [.type "ValueError", .type "Exception", .type "BaseException", .type "object"] "ValueError.__new__" = true) (kc_NoRow : PySem.W.keepIn K (.ref c_NoRow) = true) (bc_NoRow : PySem.W.subIn K (.ref c_NoRow) (.type "BaseException") = some true) (tc_NoRow : PySem.W.typeIn K (.ref c_NoRow) = some (.type "type"))
    (xc_TooMany : PySem.W.excIn K c_TooMany [.type "ValueError", .type "Exception", .type "BaseException", .type "object"] "ValueError.__new__" = true) (kc_TooMany : PySem.W.keepIn K (.ref c_TooMany) = true) (bc_TooMany : PySem.W.subIn K (.ref c_TooMany) (.type "BaseException") = some true) (tc_TooMany : PySem.W.typeIn K (.ref c_TooMany) = some (.type "type"))
    (xc_Unsound : PySem.W.excIn K c_Unsound [.type "ValueError", .type "Exception", .type "BaseException", .type "object"] "ValueError.__new__" = true) (kc_Unsound : PySem.W.keepIn K (.ref c_Unsound) = true) (bc_Unsound : PySem.W.subIn K (.ref c_Unsound) (.type "BaseException") = some true) (tc_Unsound : PySem.W.typeIn K (.ref c_Unsound) = some (.type "type"))
    : ∃ fd : FuncData, (∀ (s : Shared) (v : Value), BindsTo s fd ⟨[v], []⟩ [("_law_script", v)]) ∧ ∀ base : Heap, K.In base → base.Ns mainGlobals mg → FnOk l.prog w K mg base CX0 7 fa fd ["_law_script"] (spLaw K) := by
  have e := hfa.symm.trans (PySem.W.mg_of X G a31)
  cases e
  have F0 := fun_mk (st := s_need_row) l0 c0 k0
  have b0 := F0.binds (ps := ["row"]) fun _ _ _ _ _ _ us hl => match us, hl with | [_], _ => rfl
  have F1 := fun_mk (st := s_need_hand) l1 c1 k1
  have b1 := F1.binds (ps := ["hands", "hand"]) fun _ _ _ _ _ _ us hl => match us, hl with | [_, _], _ => rfl
  have F2 := fun_mk (st := s_need_letter) l2 c2 k2
  have b2 := F2.binds (ps := ["found", "hand", "letter"]) fun _ _ _ _ _ _ us hl => match us, hl with | [_, _, _], _ => rfl
  have F3 := fun_mk (st := s_letters) l3 c3 k3
  have b3 := F3.binds (ps := ["hands", "rows"]) fun _ _ _ _ _ _ us hl => match us, hl with | [_, _], _ => rfl
  have F4 := fun_mk (st := s_ends) l4 c4 k4
  have b4 := F4.binds (ps := ["hands", "rows"]) fun _ _ _ _ _ _ us hl => match us, hl with | [_, _], _ => rfl
  have F5 := fun_mk (st := s_need_line) l5 c5 k5
  have b5 := F5.binds (ps := ["told", "line"]) fun _ _ _ _ _ _ us hl => match us, hl with | [_, _], _ => rfl
  have F6 := fun_mk (st := s_ends_of) l6 c6 k6
  have b6 := F6.binds (ps := ["told", "line"]) fun _ _ _ _ _ _ us hl => match us, hl with | [_, _], _ => rfl
  have F7 := fun_mk (st := s_is_stray) l7 c7 k7
  have b7 := F7.binds (ps := ["letter", "kept"]) fun _ _ _ _ _ _ us hl => match us, hl with | [_, _], _ => rfl
  have F8 := fun_mk (st := s_strays_by) l8 c8 k8
  have b8 := F8.binds (ps := ["found", "kept"]) fun _ _ _ _ _ _ us hl => match us, hl with | [_, _], _ => rfl
  have F9 := fun_mk (st := s_kept_by) l9 c9 k9
  have b9 := F9.binds (ps := ["hands", "rows", "line"]) fun _ _ _ _ _ _ us hl => match us, hl with | [_, _, _], _ => rfl
  have F10 := fun_mk (st := s_new_numbers) l10 c10 k10
  have b10 := F10.binds (ps := ["found", "kept"]) fun _ _ _ _ _ _ us hl => match us, hl with | [_, _], _ => rfl
  have F11 := fun_mk (st := s_sound_ends) l11 c11 k11
  have b11 := F11.binds (ps := ["hands", "rows", "line"]) fun _ _ _ _ _ _ us hl => match us, hl with | [_, _, _], _ => rfl
  have F12 := fun_mk (st := s_left) l12 c12 k12
  have b12 := F12.binds (ps := ["hands", "rows", "line"]) fun _ _ _ _ _ _ us hl => match us, hl with | [_, _, _], _ => rfl
  have F13 := fun_mk (st := s_number_ahead) l13 c13 k13
  have b13 := F13.binds (ps := ["own", "place"]) fun _ _ _ _ _ _ us hl => match us, hl with | [_, _], _ => rfl
  have F14 := fun_mk (st := s_fall) l14 c14 k14
  have b14 := F14.binds (ps := ["found", "told", "line"]) fun _ _ _ _ _ _ us hl => match us, hl with | [_, _, _], _ => rfl
  have F15 := fun_mk (st := s_now) l15 c15 k15
  have b15 := F15.binds (ps := ["told"]) fun _ _ _ _ _ _ us hl => match us, hl with | [_], _ => rfl
  have F16 := fun_mk (st := s_top_line) l16 c16 k16
  have b16 := F16.binds (ps := ["hands", "rows", "fallen"]) fun _ _ _ _ _ _ us hl => match us, hl with | [_, _, _], _ => rfl
  have F17 := fun_mk (st := s_steps) l17 c17 k17
  have b17 := F17.binds (ps := ["hands", "rows", "fallen"]) fun _ _ _ _ _ _ us hl => match us, hl with | [_, _, _], _ => rfl
  have F18 := fun_mk (st := s_last_line) l18 c18 k18
  have b18 := F18.binds (ps := ["hands", "rows", "fallen"]) fun _ _ _ _ _ _ us hl => match us, hl with | [_, _, _], _ => rfl
  have F19 := fun_mk (st := s__law_cell_at) l19 c19 k19
  have b19 := F19.binds (ps := ["_law_script", "_law_k"]) fun _ _ _ _ _ _ us hl => match us, hl with | [_, _], _ => rfl
  have F20 := fun_mk (st := s__law_hands_by) l20 c20 k20
  have b20 := F20.binds (ps := ["_law_cell"]) fun _ _ _ _ _ _ us hl => match us, hl with | [_], _ => rfl
  have F21 := fun_mk (st := s__law_cells_by) l21 c21 k21
  have b21 := F21.binds (ps := ["_law_script", "_law_first"]) fun _ _ _ _ _ _ us hl => match us, hl with | [_, _], _ => rfl
  have F22 := fun_mk (st := s__law_rows_by) l22 c22 k22
  have b22 := F22.binds (ps := ["_law_cells", "_law_hands"]) fun _ _ _ _ _ _ us hl => match us, hl with | [_, _], _ => rfl
  have F23 := fun_mk (st := s__law_fallen_by) l23 c23 k23
  have b23 := F23.binds (ps := ["_law_cell", "_law_hands"]) fun _ _ _ _ _ _ us hl => match us, hl with | [_, _], _ => rfl
  have F24 := fun_mk (st := s__law_whole) l24 c24 k24
  have b24 := F24.binds (ps := ["_law_found"]) fun _ _ _ _ _ _ us hl => match us, hl with | [_], _ => rfl
  have F25 := fun_mk (st := s__law_line_told) l25 c25 k25
  have b25 := F25.binds (ps := ["_law_found", "_law_hands"]) fun _ _ _ _ _ _ us hl => match us, hl with | [_, _], _ => rfl
  have F26 := fun_mk (st := s__law_ends_by) l26 c26 k26
  have b26 := F26.binds (ps := ["_law_rows", "_law_hands"]) fun _ _ _ _ _ _ us hl => match us, hl with | [_, _], _ => rfl
  have F27 := fun_mk (st := s__law_has_stray) l27 c27 k27
  have b27 := F27.binds (ps := ["_law_rows", "_law_told", "_law_line"]) fun _ _ _ _ _ _ us hl => match us, hl with | [_, _, _], _ => rfl
  have F28 := fun_mk (st := s__law_line_by) l28 c28 k28
  have b28 := F28.binds (ps := ["_law_cell", "_law_told", "_law_fallen"]) fun _ _ _ _ _ _ us hl => match us, hl with | [_, _, _], _ => rfl
  have F29 := fun_mk (st := s__law_alike) l29 c29 k29
  have b29 := F29.binds (ps := ["_law_row", "_law_old"]) fun _ _ _ _ _ _ us hl => match us, hl with | [_, _], _ => rfl
  have F30 := fun_mk (st := s__law_left_rightly) l30 c30 k30
  have b30 := F30.binds (ps := ["_law_found", "_law_rows", "_law_told", "_law_line"]) fun _ _ _ _ _ _ us hl => match us, hl with | [_, _, _, _], _ => rfl
  have F31 := fun_mk (st := s_law) l31 c31 k31
  have b31 := F31.binds (ps := ["_law_script"]) fun _ _ _ _ _ _ us hl => match us, hl with | [_], _ => rfl
  have T : Tx K mg w { f_need_row := _, d_need_row := _, f_need_hand := _, d_need_hand := _, f_need_letter := _, d_need_letter := _, f_letters := _, d_letters := _, f_ends := _, d_ends := _, f_need_line := _, d_need_line := _, f_ends_of := _, d_ends_of := _, f_is_stray := _, d_is_stray := _, f_strays_by := _, d_strays_by := _, f_kept_by := _, d_kept_by := _, f_new_numbers := _, d_new_numbers := _, f_sound_ends := _, d_sound_ends := _, f_left := _, d_left := _, f_number_ahead := _, d_number_ahead := _, f_fall := _, d_fall := _, f_now := _, d_now := _, f_top_line := _, d_top_line := _, f_steps := _, d_steps := _, f_last_line := _, d_last_line := _, f__law_cell_at := _, d__law_cell_at := _, f__law_hands_by := _, d__law_hands_by := _, f__law_cells_by := _, d__law_cells_by := _, f__law_rows_by := _, d__law_rows_by := _, f__law_fallen_by := _, d__law_fallen_by := _, f__law_whole := _, d__law_whole := _, f__law_line_told := _, d__law_line_told := _, f__law_ends_by := _, d__law_ends_by := _, f__law_has_stray := _, d__law_has_stray := _, f__law_line_by := _, d__law_line_by := _, f__law_alike := _, d__law_alike := _, f__law_left_rightly := _, d__law_left_rightly := _, f_law := _, d_law := _, C_LineError := _, C_NoHands := _, C_TooMany := _, C_NoRow := _, C_NoHand := _, C_NoLetter := _, C_GotTwice := _, C_NoLine := _, C_Unsound := _, a_PARTS := _ } := { F_need_row := F0, b_need_row := b0, g_need_row := PySem.W.mg_of X G a0, F_need_hand := F1, b_need_hand := b1, g_need_hand := PySem.W.mg_of X G a1, F_need_letter := F2, b_need_letter := b2, g_need_letter := PySem.W.mg_of X G a2, F_letters := F3, b_letters := b3, g_letters := PySem.W.mg_of X G a3, F_ends := F4, b_ends := b4, g_ends := PySem.W.mg_of X G a4, F_need_line := F5, b_need_line := b5, g_need_line := PySem.W.mg_of X G a5, F_ends_of := F6, b_ends_of := b6, g_ends_of := PySem.W.mg_of X G a6, F_is_stray := F7, b_is_stray := b7, g_is_stray := PySem.W.mg_of X G a7, F_strays_by := F8, b_strays_by := b8, g_strays_by := PySem.W.mg_of X G a8, F_kept_by := F9, b_kept_by := b9, g_kept_by := PySem.W.mg_of X G a9, F_new_numbers := F10, b_new_numbers := b10, g_new_numbers := PySem.W.mg_of X G a10, F_sound_ends := F11, b_sound_ends := b11, g_sound_ends := PySem.W.mg_of X G a11, F_left := F12, b_left := b12, g_left := PySem.W.mg_of X G a12, F_number_ahead := F13, b_number_ahead := b13, g_number_ahead := PySem.W.mg_of X G a13, F_fall := F14, b_fall := b14, g_fall := PySem.W.mg_of X G a14, F_now := F15, b_now := b15, g_now := PySem.W.mg_of X G a15, F_top_line := F16, b_top_line := b16, g_top_line := PySem.W.mg_of X G a16, F_steps := F17, b_steps := b17, g_steps := PySem.W.mg_of X G a17, F_last_line := F18, b_last_line := b18, g_last_line := PySem.W.mg_of X G a18, F__law_cell_at := F19, b__law_cell_at := b19, g__law_cell_at := PySem.W.mg_of X G a19, F__law_hands_by := F20, b__law_hands_by := b20, g__law_hands_by := PySem.W.mg_of X G a20, F__law_cells_by := F21, b__law_cells_by := b21, g__law_cells_by := PySem.W.mg_of X G a21, F__law_rows_by := F22, b__law_rows_by := b22, g__law_rows_by := PySem.W.mg_of X G a22, F__law_fallen_by := F23, b__law_fallen_by := b23, g__law_fallen_by := PySem.W.mg_of X G a23, F__law_whole := F24, b__law_whole := b24, g__law_whole := PySem.W.mg_of X G a24, F__law_line_told := F25, b__law_line_told := b25, g__law_line_told := PySem.W.mg_of X G a25, F__law_ends_by := F26, b__law_ends_by := b26, g__law_ends_by := PySem.W.mg_of X G a26, F__law_has_stray := F27, b__law_has_stray := b27, g__law_has_stray := PySem.W.mg_of X G a27, F__law_line_by := F28, b__law_line_by := b28, g__law_line_by := PySem.W.mg_of X G a28, F__law_alike := F29, b__law_alike := b29, g__law_alike := PySem.W.mg_of X G a29, F__law_left_rightly := F30, b__law_left_rightly := b30, g__law_left_rightly := PySem.W.mg_of X G a30, F_law := F31, b_law := b31, g_law := PySem.W.mg_of X G a31, n_bool := PySem.W.mg_none_of X G z_bool, n_enumerate := PySem.W.mg_none_of X G z_enumerate, n_int := PySem.W.mg_none_of X G z_int, n_isinstance := PySem.W.mg_none_of X G z_isinstance, n_len := PySem.W.mg_none_of X G z_len, n_list := PySem.W.mg_none_of X G z_list, n_min := PySem.W.mg_none_of X G z_min, n_range := PySem.W.mg_none_of X G z_range, n_str := PySem.W.mg_none_of X G z_str, n_tuple := PySem.W.mg_none_of X G z_tuple, m_HANDS := ⟨_, PySem.W.mg_of X G m_HANDS⟩, m_ROWS := ⟨_, PySem.W.mg_of X G m_ROWS⟩, g_PARTS := PySem.W.mg_of X G pA, parts := parts_mk pL pK pS, g_LineError := PySem.W.mg_of X G gc_LineError, g_NoHands := PySem.W.mg_of X G gc_NoHands, g_TooMany := PySem.W.mg_of X G gc_TooMany, g_NoRow := PySem.W.mg_of X G gc_NoRow, g_NoHand := PySem.W.mg_of X G gc_NoHand, g_NoLetter := PySem.W.mg_of X G gc_NoLetter, g_GotTwice := PySem.W.mg_of X G gc_GotTwice, g_NoLine := PySem.W.mg_of X G gc_NoLine, g_Unsound := PySem.W.mg_of X G gc_Unsound, x_GotTwice := xc_GotTwice, k_GotTwice := kc_GotTwice, bs_GotTwice := bc_GotTwice, tp_GotTwice := tc_GotTwice, x_NoHand := xc_NoHand, k_NoHand := kc_NoHand, bs_NoHand := bc_NoHand, tp_NoHand := tc_NoHand, x_NoHands := xc_NoHands, k_NoHands := kc_NoHands, bs_NoHands := bc_NoHands, tp_NoHands := tc_NoHands, x_NoLetter := xc_NoLetter, k_NoLetter := kc_NoLetter, bs_NoLetter := bc_NoLetter, tp_NoLetter := tc_NoLetter, x_NoLine := xc_NoLine, k_NoLine := kc_NoLine, bs_NoLine := bc_NoLine, tp_NoLine := tc_NoLine, x_NoRow := xc_NoRow, k_NoRow := kc_NoRow, bs_NoRow := bc_NoRow, tp_NoRow := tc_NoRow, x_TooMany := xc_TooMany, k_TooMany := kc_TooMany, bs_TooMany := bc_TooMany, tp_TooMany := tc_TooMany, x_Unsound := xc_Unsound, k_Unsound := kc_Unsound, bs_Unsound := bc_Unsound, tp_Unsound := tc_Unsound }
  exact ⟨_, fun s v => .of_eq rfl, fun base _ _ => (ok_law (P := l.prog) (w := w) (base := base) T).imp fun vs H Q E h => law_imp h⟩
end Row
open PySem PySem.W
set_option maxHeartbeats 0 in
theorem PySem.Challenge.cw_lastline_k12_whole_left_is_a_history_holds : PySem.Challenge.rw_lastline_k12_whole_left_is_a_history.Holds := by
  w_on; o_law; k_head; (case hw => w_witness2)
  k_fill
  refine L2.walk_of (l := PySem.Challenge.rw_lastline_k12_whole_left_is_a_history) (n := 63) (k := 7) (x := "_law_script") (CX := fun _ => L2.CX0) (sp := fun w => Y.spLaw _) rfl (by decide) rfl ⟨rfl, by decide, by decide⟩ (fun w h Y => PySem.W.kIn_of Y) ?F (fun _ _ a ns hl _ hS => ⟨a, ns, rfl, hS, hl, fun _ => rfl⟩) (fun _ _ _ _ _ h => h)
  case F =>
    intro w mg fa h KX G hmg
    refine' Row.all_mk KX G hmg ?a0 ?l0 ?c0 ?k0 ?a1 ?l1 ?c1 ?k1 ?a2 ?l2 ?c2 ?k2 ?a3 ?l3 ?c3 ?k3 ?a4 ?l4 ?c4 ?k4 ?a5 ?l5 ?c5 ?k5 ?a6 ?l6 ?c6 ?k6 ?a7 ?l7 ?c7 ?k7 ?a8 ?l8 ?c8 ?k8 ?a9 ?l9 ?c9 ?k9 ?a10 ?l10 ?c10 ?k10 ?a11 ?l11 ?c11 ?k11 ?a12 ?l12 ?c12 ?k12 ?a13 ?l13 ?c13 ?k13 ?a14 ?l14 ?c14 ?k14 ?a15 ?l15 ?c15 ?k15 ?a16 ?l16 ?c16 ?k16 ?a17 ?l17 ?c17 ?k17 ?a18 ?l18 ?c18 ?k18 ?a19 ?l19 ?c19 ?k19 ?a20 ?l20 ?c20 ?k20 ?a21 ?l21 ?c21 ?k21 ?a22 ?l22 ?c22 ?k22 ?a23 ?l23 ?c23 ?k23 ?a24 ?l24 ?c24 ?k24 ?a25 ?l25 ?c25 ?k25 ?a26 ?l26 ?c26 ?k26 ?a27 ?l27 ?c27 ?k27 ?a28 ?l28 ?c28 ?k28 ?a29 ?l29 ?c29 ?k29 ?a30 ?l30 ?c30 ?k30 ?a31 ?l31 ?c31 ?k31 ?z_bool ?z_enumerate ?z_int ?z_isinstance ?z_len ?z_list ?z_min ?z_range ?z_str ?z_tuple ?m_HANDS ?m_ROWS ?pA ?pL ?pK ?pS ?gc_LineError ?gc_NoHands ?gc_TooMany ?gc_NoRow ?gc_NoHand ?gc_NoLetter ?gc_GotTwice ?gc_NoLine ?gc_Unsound ?xc_GotTwice ?kc_GotTwice ?bc_GotTwice ?tc_GotTwice ?xc_NoHand ?kc_NoHand ?bc_NoHand ?tc_NoHand ?xc_NoHands ?kc_NoHands ?bc_NoHands ?tc_NoHands ?xc_NoLetter ?kc_NoLetter ?bc_NoLetter ?tc_NoLetter ?xc_NoLine ?kc_NoLine ?bc_NoLine ?tc_NoLine ?xc_NoRow ?kc_NoRow ?bc_NoRow ?tc_NoRow ?xc_TooMany ?kc_TooMany ?bc_TooMany ?tc_TooMany ?xc_Unsound ?kc_Unsound ?bc_Unsound ?tc_Unsound
    (case a0 => k_is)
    (case l0 => k_is)
    (case c0 => k_is)
    (case k0 => k_is)
    (case a1 => k_is)
    (case l1 => k_is)
    (case c1 => k_is)
    (case k1 => k_is)
    (case a2 => k_is)
    (case l2 => k_is)
    (case c2 => k_is)
    (case k2 => k_is)
    (case a3 => k_is)
    (case l3 => k_is)
    (case c3 => k_is)
    (case k3 => k_is)
    (case a4 => k_is)
    (case l4 => k_is)
    (case c4 => k_is)
    (case k4 => k_is)
    (case a5 => k_is)
    (case l5 => k_is)
    (case c5 => k_is)
    (case k5 => k_is)
    (case a6 => k_is)
    (case l6 => k_is)
    (case c6 => k_is)
    (case k6 => k_is)
    (case a7 => k_is)
    (case l7 => k_is)
    (case c7 => k_is)
    (case k7 => k_is)
    (case a8 => k_is)
    (case l8 => k_is)
    (case c8 => k_is)
    (case k8 => k_is)
    (case a9 => k_is)
    (case l9 => k_is)
    (case c9 => k_is)
    (case k9 => k_is)
    (case a10 => k_is)
    (case l10 => k_is)
    (case c10 => k_is)
    (case k10 => k_is)
    (case a11 => k_is)
    (case l11 => k_is)
    (case c11 => k_is)
    (case k11 => k_is)
    (case a12 => k_is)
    (case l12 => k_is)
    (case c12 => k_is)
    (case k12 => k_is)
    (case a13 => k_is)
    (case l13 => k_is)
    (case c13 => k_is)
    (case k13 => k_is)
    (case a14 => k_is)
    (case l14 => k_is)
    (case c14 => k_is)
    (case k14 => k_is)
    (case a15 => k_is)
    (case l15 => k_is)
    (case c15 => k_is)
    (case k15 => k_is)
    (case a16 => k_is)
    (case l16 => k_is)
    (case c16 => k_is)
    (case k16 => k_is)
    (case a17 => k_is)
    (case l17 => k_is)
    (case c17 => k_is)
    (case k17 => k_is)
    (case a18 => k_is)
    (case l18 => k_is)
    (case c18 => k_is)
    (case k18 => k_is)
    (case a19 => k_is)
    (case l19 => k_is)
    (case c19 => k_is)
    (case k19 => k_is)
    (case a20 => k_is)
    (case l20 => k_is)
    (case c20 => k_is)
    (case k20 => k_is)
    (case a21 => k_is)
    (case l21 => k_is)
    (case c21 => k_is)
    (case k21 => k_is)
    (case a22 => k_is)
    (case l22 => k_is)
    (case c22 => k_is)
    (case k22 => k_is)
    (case a23 => k_is)
    (case l23 => k_is)
    (case c23 => k_is)
    (case k23 => k_is)
    (case a24 => k_is)
    (case l24 => k_is)
    (case c24 => k_is)
    (case k24 => k_is)
    (case a25 => k_is)
    (case l25 => k_is)
    (case c25 => k_is)
    (case k25 => k_is)
    (case a26 => k_is)
    (case l26 => k_is)
    (case c26 => k_is)
    (case k26 => k_is)
    (case a27 => k_is)
    (case l27 => k_is)
    (case c27 => k_is)
    (case k27 => k_is)
    (case a28 => k_is)
    (case l28 => k_is)
    (case c28 => k_is)
    (case k28 => k_is)
    (case a29 => k_is)
    (case l29 => k_is)
    (case c29 => k_is)
    (case k29 => k_is)
    (case a30 => k_is)
    (case l30 => k_is)
    (case c30 => k_is)
    (case k30 => k_is)
    (case a31 => k_is)
    (case l31 => k_is)
    (case c31 => k_is)
    (case k31 => k_is)
    (case z_bool => k_is)
    (case z_enumerate => k_is)
    (case z_int => k_is)
    (case z_isinstance => k_is)
    (case z_len => k_is)
    (case z_list => k_is)
    (case z_min => k_is)
    (case z_range => k_is)
    (case z_str => k_is)
    (case z_tuple => k_is)
    (case m_HANDS => k_is)
    (case m_ROWS => k_is)
    (case pA => k_is)
    (case pL => k_is)
    (case pK => exact ⟨⟨_, _, rfl, rfl⟩, ⟨_, _, rfl, rfl⟩, ⟨_, _, rfl, rfl⟩, trivial⟩)
    (case pS => first | rfl | decide | k_is)
    (case gc_LineError => k_is)
    (case gc_NoHands => k_is)
    (case gc_TooMany => k_is)
    (case gc_NoRow => k_is)
    (case gc_NoHand => k_is)
    (case gc_NoLetter => k_is)
    (case gc_GotTwice => k_is)
    (case gc_NoLine => k_is)
    (case gc_Unsound => k_is)
    (case xc_GotTwice => first | k_is | k_exc)
    (case kc_GotTwice => k_is)
    (case bc_GotTwice => k_is)
    (case tc_GotTwice => k_is)
    (case xc_NoHand => first | k_is | k_exc)
    (case kc_NoHand => k_is)
    (case bc_NoHand => k_is)
    (case tc_NoHand => k_is)
    (case xc_NoHands => first | k_is | k_exc)
    (case kc_NoHands => k_is)
    (case bc_NoHands => k_is)
    (case tc_NoHands => k_is)
    (case xc_NoLetter => first | k_is | k_exc)
    (case kc_NoLetter => k_is)
    (case bc_NoLetter => k_is)
    (case tc_NoLetter => k_is)
    (case xc_NoLine => first | k_is | k_exc)
    (case kc_NoLine => k_is)
    (case bc_NoLine => k_is)
    (case tc_NoLine => k_is)
    (case xc_NoRow => first | k_is | k_exc)
    (case kc_NoRow => k_is)
    (case bc_NoRow => k_is)
    (case tc_NoRow => k_is)
    (case xc_TooMany => first | k_is | k_exc)
    (case kc_TooMany => k_is)
    (case bc_TooMany => k_is)
    (case tc_TooMany => k_is)
    (case xc_Unsound => first | k_is | k_exc)
    (case kc_Unsound => k_is)
    (case bc_Unsound => k_is)
    (case tc_Unsound => k_is)
