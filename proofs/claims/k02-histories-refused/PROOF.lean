import PyProof.Rows.All
import Wide.All
import OpenK.AllK
import Wide.FinOn
import HandS.ForMost
import HandS.Exc
import HandS.TryOnly
import HandS.ExcOwn
import HandS.WordsExc
import HandS.TryMany
import HandS.IsInst
import HandS.ExcIs
import HandS.Conv
import HandS.CallLocal
import HandS.More
import HandS.Wide
import HandS.Deep
import HandS.Rev
import HandS.Text
import PySem.Challenge.RW_lastline_k02_histories_refused
set_option Elab.async false
set_option linter.all false
set_option maxRecDepth 100000
set_option maxHeartbeats 4000000

/-! Lay: what a reading does, told by data alone. A state is told by its slots (data, or a pointer to an owned list or dict) and by the owned objects. -/
namespace Y
open PySem PySem.Spec L2

/-! ### data in a heap, every list and tuple tracked -/
mutual
inductive Rp (H : Hp) : V → PyData → Prop
  | non : Rp H .non .none
  | bl (b : Bool) : Rp H (.bl b) (.bool b)
  | int (i : Int) : Rp H (.int i) (.int i)
  | str (x : Str) : Rp H (.str x) (.str x)
  | lst {a : Addr} {xs : List V} {ds : List PyData} : H a = some (.lst xs) → RpA H xs ds → Rp H (.ref a) (.list ds)
  | tup {a : Addr} {xs : List V} {ds : List PyData} : H a = some (.tup xs) → RpA H xs ds → Rp H (.ref a) (.tuple ds)
inductive RpA (H : Hp) : List V → List PyData → Prop
  | nil : RpA H [] []
  | cons {v : V} {vs : List V} {d : PyData} {ds : List PyData} : Rp H v d → RpA H vs ds → RpA H (v :: vs) (d :: ds)
end
mutual
theorem Rp.mono {H H' : Hp} (e : Same H H') : ∀ (d : PyData) (v : V), Rp H v d → Rp H' v d
  | .none, _, h => by cases h; exact .non
  | .bool b, _, h => by cases h; exact .bl b
  | .int i, _, h => by cases h; exact .int i
  | .str x, _, h => by cases h; exact .str x
  | .list ds, _, h => by
    cases h with
    | lst h1 h2 => exact .lst (e _ _ h1) (RpA.mono e ds _ h2)
  | .tuple ds, _, h => by
    cases h with
    | tup h1 h2 => exact .tup (e _ _ h1) (RpA.mono e ds _ h2)
  | .dict _, _, h => by cases h
theorem RpA.mono {H H' : Hp} (e : Same H H') : ∀ (ds : List PyData) (vs : List V), RpA H vs ds → RpA H' vs ds
  | [], _, h => by cases h; exact .nil
  | d :: ds, _, h => by
    cases h with
    | cons h1 h2 => exact .cons (Rp.mono e d _ h1) (RpA.mono e ds _ h2)
end
mutual
theorem Rp.dp {K : PySem.W.Frag} {H : Hp} : ∀ (d : PyData) (v : V), Rp H v d → Dp K H v d
  | .none, _, h => by cases h; exact .non
  | .bool b, _, h => by cases h; exact .bl b
  | .int i, _, h => by cases h; exact .int i
  | .str x, _, h => by cases h; exact .str x
  | .list ds, _, h => by
    cases h with
    | lst h1 h2 => exact .lst (SqL.of h1) (RpA.dp ds _ h2)
  | .tuple ds, _, h => by
    cases h with
    | tup h1 h2 => exact .tup (SqT.of h1) (RpA.dp ds _ h2)
  | .dict _, _, h => by cases h
theorem RpA.dp {K : PySem.W.Frag} {H : Hp} : ∀ (ds : List PyData) (vs : List V), RpA H vs ds → DpAll K H vs ds
  | [], _, h => by cases h; exact .nil
  | d :: ds, _, h => by
    cases h with
    | cons h1 h2 => exact .cons (Rp.dp d _ h1) (RpA.dp ds _ h2)
end
/- no list within -/
mutual
def noL : PyData → Bool
  | .none => true
  | .bool _ => true
  | .int _ => true
  | .str _ => true
  | .list _ => false
  | .tuple ds => noLA ds
  | .dict _ => false
def noLA : List PyData → Bool
  | [] => true
  | d :: ds => noL d && noLA ds
end
/-- only the tuples of a heap -/
def tups (H : Hp) : Hp := fun b => match H b with
  | some (.tup xs) => some (.tup xs)
  | _ => none
theorem tups_of {H : Hp} {a : Addr} {xs : List V} (h : H a = some (.tup xs)) : tups H a = some (.tup xs) := by
  unfold tups; rw [h]
mutual
theorem Rp.tups {H : Hp} : ∀ (d : PyData) (v : V), noL d = true → Rp H v d → Rp (Y.tups H) v d
  | .none, _, _, h => by cases h; exact .non
  | .bool b, _, _, h => by cases h; exact .bl b
  | .int i, _, _, h => by cases h; exact .int i
  | .str x, _, _, h => by cases h; exact .str x
  | .list ds, _, n, h => by simp [noL] at n
  | .tuple ds, _, n, h => by
    cases h with
    | tup h1 h2 => exact .tup (tups_of h1) (RpA.tups ds _ (by simpa [noL] using n) h2)
  | .dict _, _, _, h => by cases h
theorem RpA.tups {H : Hp} : ∀ (ds : List PyData) (vs : List V), noLA ds = true → RpA H vs ds → RpA (Y.tups H) vs ds
  | [], _, _, h => by cases h; exact .nil
  | d :: ds, _, n, h => by
    cases h with
    | cons h1 h2 =>
      have n' : noL d = true ∧ noLA ds = true := by simpa [noLA] using n
      exact .cons (Rp.tups d _ n'.1 h1) (RpA.tups ds _ n'.2 h2)
end
theorem RpA.len {H : Hp} : ∀ {vs : List V} {ds : List PyData}, RpA H vs ds → vs.length = ds.length
  | _, _, .nil => rfl
  | _, _, .cons _ t => by simp [RpA.len t]
theorem RpA.get {H : Hp} : ∀ {vs : List V} {ds : List PyData} {i : Nat} {d : PyData}, RpA H vs ds → ds[i]? = some d → ∃ v, vs[i]? = some v ∧ Rp H v d
  | _, _, _, _, .nil, e => by simp at e
  | _, _, 0, _, .cons h _, e => by simp at e; subst e; exact ⟨_, rfl, h⟩
  | _, _, i + 1, _, .cons _ t, e => by
    obtain ⟨v, a, b⟩ := RpA.get (i := i) t (by simpa using e)
    exact ⟨v, by simpa using a, b⟩

/-! ### what is seen of a heap H by one who came at H0 and owns ps: neither what is owned nor the lists of H0 -/
def vis (ps : List (Option Addr)) (H0 H : Hp) : Hp := fun b => if some b ∈ ps then none else match H0 b with
  | none => H b
  | some (.tup xs) => some (.tup xs)
  | some _ => none
theorem vis_ps {ps : List (Option Addr)} {H0 H : Hp} {b : Addr} (h : some b ∈ ps) : vis ps H0 H b = none := if_pos h
theorem vis_new {ps : List (Option Addr)} {H0 H : Hp} {b : Addr} (h : ¬ some b ∈ ps) (h0 : H0 b = none) : vis ps H0 H b = H b := by
  unfold vis; rw [if_neg h, h0]
theorem vis_cases {ps : List (Option Addr)} {H0 H : Hp} {b : Addr} {o : HO} (h : vis ps H0 H b = some o) : ¬ some b ∈ ps ∧ ((H0 b = none ∧ H b = some o) ∨ (∃ xs, o = .tup xs ∧ H0 b = some (.tup xs))) := by
  unfold vis at h
  by_cases hb : some b ∈ ps
  · rw [if_pos hb] at h; cases h
  · rw [if_neg hb] at h
    refine ⟨hb, ?_⟩
    split at h
    · rename_i e
      exact .inl ⟨e, h⟩
    · rename_i xs e
      exact .inr ⟨xs, (Option.some.inj h).symm, e⟩
    · cases h
theorem vis_tup {ps : List (Option Addr)} {H0 H : Hp} {b : Addr} {xs : List V} (h : ¬ some b ∈ ps) (old : Same H0 H) (e : H b = some (.tup xs)) : vis ps H0 H b = some (.tup xs) := by
  unfold vis; rw [if_neg h]
  cases q : H0 b with
  | none => exact e
  | some u =>
    have := old _ _ q
    rw [e] at this
    cases this
    rfl
theorem vis_sub {ps : List (Option Addr)} {H0 H : Hp} (old : Same H0 H) : Same (vis ps H0 H) H := fun b o h => by
  obtain ⟨_, g⟩ := vis_cases h
  rcases g with ⟨_, g⟩ | ⟨xs, rfl, g⟩
  · exact g
  · exact old _ _ g
theorem vis_mono {ps : List (Option Addr)} {H0 H H' : Hp} (e : Same H H') : Same (vis ps H0 H) (vis ps H0 H') := fun b o h => by
  obtain ⟨n, g⟩ := vis_cases h
  rcases g with ⟨h0, g⟩ | ⟨xs, rfl, g⟩
  · rw [vis_new n h0]; exact e _ _ g
  · unfold vis; rw [if_neg n, g]
/-- an owned object changes: nothing is seen of it -/
theorem vis_upd {ps : List (Option Addr)} {H0 H : Hp} {p : Addr} {o : HO} (h : some p ∈ ps) : vis ps H0 (upd H p o) = vis ps H0 H := by
  funext b
  unfold vis
  by_cases hb : some b ∈ ps
  · rw [if_pos hb, if_pos hb]
  · rw [if_neg hb, if_neg hb]
    have : b ≠ p := fun e => hb (e ▸ h)
    rw [upd_ne this]
/-- one more is owned, that nobody knew -/
theorem vis_own {ps : List (Option Addr)} {H0 H H' : Hp} {p : Addr} (old : Same H0 H) (n : H p = none) (e : Same H H') : Same (vis ps H0 H) (vis (ps ++ [some p]) H0 H') := fun b o h => by
  have hb : b ≠ p := ne_of_none (vis_sub old _ _ h) n
  obtain ⟨nb, g⟩ := vis_cases h
  have nb' : ¬ some b ∈ ps ++ [some p] := fun z => by
    rcases List.mem_append.mp z with z | z
    · exact nb z
    · simp at z; exact hb z
  rcases g with ⟨h0, g⟩ | ⟨xs, rfl, g⟩
  · rw [vis_new nb' h0]; exact e _ _ g
  · unfold vis; rw [if_neg nb', g]
/-- what is seen with p owned is seen without -/
theorem vis_less {ps : List (Option Addr)} {H0 H : Hp} {q : Option Addr} : Same (vis (ps ++ [q]) H0 H) (vis ps H0 H) := fun b o h => by
  obtain ⟨nb, g⟩ := vis_cases h
  have nb' : ¬ some b ∈ ps := fun z => nb (List.mem_append_left _ z)
  rcases g with ⟨h0, g⟩ | ⟨xs, rfl, g⟩
  · rw [vis_new nb' h0]; exact g
  · unfold vis; rw [if_neg nb', g]
theorem vis_none {ps : List (Option Addr)} {H0 H : Hp} : Same (vis ps H0 H) (vis [] H0 H) := fun b o h => by
  obtain ⟨nb, g⟩ := vis_cases h
  have nb' : ¬ some b ∈ ([] : List (Option Addr)) := by simp
  rcases g with ⟨h0, g⟩ | ⟨xs, rfl, g⟩
  · rw [vis_new nb' h0]; exact g
  · unfold vis; rw [if_neg nb', g]
/-- what a callee made (it came at H1) is seen by the caller, whose own objects the callee knew as lists or dicts -/
theorem vis_call {ps : List (Option Addr)} {H0 H1 H2 : Hp} (old : Same H0 H1) (e : Same H1 H2) (thr : ∀ p, some p ∈ ps → ∃ o, H1 p = some o ∧ ∀ xs, o ≠ .tup xs) : Same (vis [] H1 H2) (vis ps H0 H2) := fun b o h => by
  obtain ⟨_, h⟩ := vis_cases h
  have nb : ¬ some b ∈ ps := fun z => by
    obtain ⟨u, hu, nu⟩ := thr b z
    rcases h with ⟨h1, _⟩ | ⟨xs, rfl, h1⟩
    · rw [h1] at hu; cases hu
    · rw [h1] at hu; cases hu; exact nu xs rfl
  rcases h with ⟨h1, h⟩ | ⟨xs, rfl, h1⟩
  · have h0 : H0 b = none := by
      cases q : H0 b with
      | none => rfl
      | some u => rw [old _ _ q] at h1; cases h1
    rw [vis_new nb h0]; exact h
  · exact vis_tup nb (old.trans e) (e _ _ h1)
/-- the tuples are seen -/
theorem vis_tups {ps : List (Option Addr)} {H0 H : Hp} (old : Same H0 H) (thr : ∀ p, some p ∈ ps → ∃ o, H p = some o ∧ ∀ xs, o ≠ .tup xs) : Same (Y.tups H) (vis ps H0 H) := fun b o h => by
  unfold Y.tups at h
  split at h
  · rename_i xs e
    cases h
    refine vis_tup (fun z => ?_) old e
    obtain ⟨u, hu, nu⟩ := thr b z
    rw [e] at hu; cases hu; exact nu xs rfl
  · cases h

/-! ### the state -/
inductive A where
  /-- data that holds no list of the entry's and none that is owned -/
  | dat (d : PyData)
  /-- the k-th owned object -/
  | ptr (k : Nat)
  /-- data as it stood at the entry -/
  | arg (d : PyData)
  /-- just this value -/
  | raw (v : V)
inductive Ob where
  | lst (as : List A)
  | dic (kvs : List (Key × V))
  | gone
abbrev Sl := List (Option A)
abbrev Om := List Ob
def Rv (ps : List (Option Addr)) (H0 H : Hp) : A → V → Prop
  | .dat d, v => Rp (vis ps H0 H) v d
  | .ptr k, v => ∃ p, ps[k]? = some (some p) ∧ v = .ref p
  | .arg d, v => Rp H0 v d
  | .raw u, v => v = u
inductive RvA (ps : List (Option Addr)) (H0 H : Hp) : List A → List V → Prop
  | nil : RvA ps H0 H [] []
  | cons {a : A} {as : List A} {v : V} {vs : List V} : Rv ps H0 H a v → RvA ps H0 H as vs → RvA ps H0 H (a :: as) (v :: vs)
def RO (ps : List (Option Addr)) (H0 H : Hp) : Ob → HO → Prop
  | .lst as, .lst vs => RvA ps H0 H as vs
  | .dic kvs, .dK kvs' => kvs' = kvs
  | .gone, .lst _ => True
  | _, _ => False
structure Inn (H0 : Hp) (ps : List (Option Addr)) (σ : St) (H : Hp) (vs : List V) (δ : Sl) (ω : Om) (as : List A) : Prop where
  nd : ∀ (j k : Nat) (p : Addr), ps[j]? = some (some p) → ps[k]? = some (some p) → j = k
  len : ps.length = ω.length
  old : Same H0 H
  new : ∀ p, some p ∈ ps → H0 p = none
  obs : ∀ (k : Nat) (o : Ob), ω[k]? = some o → (o = .gone ∧ ps[k]? = some none) ∨ ∃ p ho, ps[k]? = some (some p) ∧ H p = some ho ∧ RO ps H0 H o ho
  sl : σ.length = δ.length
  slot : ∀ (i : Nat) (a : A), δ[i]? = some (some a) → ∃ v, σ[i]? = some (some v) ∧ Rv ps H0 H a v
  stk : RvA ps H0 H as vs
def Sta (H0 : Hp) (σ : St) (H : Hp) (vs : List V) (δ : Sl) (ω : Om) (as : List A) : Prop := ∃ ps, Inn H0 ps σ H vs δ ω as

theorem Rv.of {ps ps' : List (Option Addr)} {H0 H H' : Hp} (e : Same (vis ps H0 H) (vis ps' H0 H')) (hp : ∀ (k : Nat) (p : Addr), ps[k]? = some (some p) → ps'[k]? = some (some p)) : ∀ {a : A} {v : V}, Rv ps H0 H a v → Rv ps' H0 H' a v
  | .dat d, v, h => Rp.mono e d v h
  | .ptr k, v, ⟨p, h, q⟩ => ⟨p, hp k p h, q⟩
  | .arg d, v, h => h
  | .raw u, v, h => h
theorem RvA.of {ps ps' : List (Option Addr)} {H0 H H' : Hp} (e : Same (vis ps H0 H) (vis ps' H0 H')) (hp : ∀ (k : Nat) (p : Addr), ps[k]? = some (some p) → ps'[k]? = some (some p)) : ∀ {as : List A} {vs : List V}, RvA ps H0 H as vs → RvA ps' H0 H' as vs
  | _, _, .nil => .nil
  | _, _, .cons h t => .cons (Rv.of e hp h) (RvA.of e hp t)
theorem RvA.len {ps : List (Option Addr)} {H0 H : Hp} : ∀ {as : List A} {vs : List V}, RvA ps H0 H as vs → vs.length = as.length
  | _, _, .nil => rfl
  | _, _, .cons _ t => by simp [RvA.len t]
theorem RvA.get {ps : List (Option Addr)} {H0 H : Hp} : ∀ {as : List A} {vs : List V} {i : Nat} {a : A}, RvA ps H0 H as vs → as[i]? = some a → ∃ v, vs[i]? = some v ∧ Rv ps H0 H a v
  | _, _, _, _, .nil, e => by simp at e
  | _, _, 0, _, .cons h _, e => by simp at e; subst e; exact ⟨_, rfl, h⟩
  | _, _, i + 1, _, .cons _ t, e => by
    obtain ⟨v, a, b⟩ := RvA.get (i := i) t (by simpa using e)
    exact ⟨v, by simpa using a, b⟩
theorem RvA.append {ps : List (Option Addr)} {H0 H : Hp} : ∀ {as bs : List A} {vs ws : List V}, RvA ps H0 H as vs → RvA ps H0 H bs ws → RvA ps H0 H (as ++ bs) (vs ++ ws)
  | _, _, _, _, .nil, h => h
  | _, _, _, _, .cons h t, k => .cons h (RvA.append t k)
theorem RvA.take {ps : List (Option Addr)} {H0 H : Hp} : ∀ {as : List A} {vs : List V} (n : Nat), RvA ps H0 H as vs → RvA ps H0 H (as.take n) (vs.take n)
  | _, _, 0, _ => .nil
  | _, _, _ + 1, .nil => .nil
  | _, _, n + 1, .cons h t => .cons h (RvA.take n t)
theorem RvA.drop {ps : List (Option Addr)} {H0 H : Hp} : ∀ {as : List A} {vs : List V} (n : Nat), RvA ps H0 H as vs → RvA ps H0 H (as.drop n) (vs.drop n)
  | _, _, 0, h => h
  | _, _, _ + 1, .nil => .nil
  | _, _, n + 1, .cons h t => RvA.drop n t
theorem RvA.set {ps : List (Option Addr)} {H0 H : Hp} {a : A} {v : V} (r : Rv ps H0 H a v) : ∀ {as : List A} {vs : List V} (i : Nat), RvA ps H0 H as vs → RvA ps H0 H (as.set i a) (vs.set i v)
  | _, _, _, .nil => .nil
  | _, _, 0, .cons _ t => .cons r t
  | _, _, i + 1, .cons h t => .cons h (RvA.set r i t)
theorem RvA.dats {ps : List (Option Addr)} {H0 H : Hp} : ∀ {ds : List PyData} {vs : List V}, RvA ps H0 H (ds.map .dat) vs → RpA (vis ps H0 H) vs ds
  | [], _, h => by cases h; exact .nil
  | d :: ds, _, h => by
    cases h with
    | cons h t => exact .cons h (RvA.dats t)
theorem RvA.of_dats {ps : List (Option Addr)} {H0 H : Hp} : ∀ {ds : List PyData} {vs : List V}, RpA (vis ps H0 H) vs ds → RvA ps H0 H (ds.map .dat) vs
  | _, _, .nil => .nil
  | _, _, .cons h t => .cons h (RvA.of_dats t)
theorem RvA.of_args {ps : List (Option Addr)} {H0 H : Hp} : ∀ {ds : List PyData} {vs : List V}, RpA H0 vs ds → RvA ps H0 H (ds.map .arg) vs
  | _, _, .nil => .nil
  | _, _, .cons h t => .cons h (RvA.of_args t)

section
variable {H0 : Hp} {ps : List (Option Addr)} {σ : St} {H H' : Hp} {vs : List V} {δ : Sl} {ω : Om} {as : List A}
theorem Inn.thr (I : Inn H0 ps σ H vs δ ω as) : ∀ p, some p ∈ ps → ∃ o, H p = some o ∧ ∀ xs, o ≠ .tup xs := fun p hp => by
  obtain ⟨k, hk⟩ := List.mem_iff_getElem?.mp hp
  have hl : k < ω.length := by
    rw [← I.len]
    exact (List.getElem?_eq_some_iff.mp hk).1
  rcases I.obs k ω[k] (List.getElem?_eq_getElem hl) with ⟨_, q⟩ | ⟨q, ho, h1, h2, r⟩
  · rw [hk] at q; cases q
  · rw [hk] at h1
    cases h1
    refine ⟨ho, h2, fun xs e => ?_⟩
    subst e
    cases o : ω[k] <;> rw [o] at r <;> exact r
/-- the heap grows -/
theorem Inn.grow (I : Inn H0 ps σ H vs δ ω as) (e : Same H H') : Inn H0 ps σ H' vs δ ω as where
  nd := I.nd
  len := I.len
  old := I.old.trans e
  new := I.new
  obs := fun k o h => by
    rcases I.obs k o h with q | ⟨p, ho, h1, h2, r⟩
    · exact .inl q
    · refine .inr ⟨p, ho, h1, e _ _ h2, ?_⟩
      cases o <;> cases ho <;> first | exact r | exact RvA.of (vis_mono e) (fun _ _ q => q) r
  sl := I.sl
  slot := fun i a h => let ⟨v, h1, h2⟩ := I.slot i a h; ⟨v, h1, h2.of (vis_mono e) (fun _ _ q => q)⟩
  stk := I.stk.of (vis_mono e) fun _ _ q => q
theorem Inn.push {a : A} {v : V} (I : Inn H0 ps σ H vs δ ω as) (r : Rv ps H0 H a v) : Inn H0 ps σ H (v :: vs) δ ω (a :: as) := { I with stk := .cons r I.stk }
theorem Inn.pop {a : A} {v : V} (I : Inn H0 ps σ H (v :: vs) δ ω (a :: as)) : Rv ps H0 H a v ∧ Inn H0 ps σ H vs δ ω as := by
  have r := I.stk
  cases r with
  | cons h t => exact ⟨h, { I with stk := t }⟩
/-- a new object, owned -/
theorem Inn.adopt {p : Addr} {o : Ob} {ho : HO} (I : Inn H0 ps σ H vs δ ω as) (n : H p = none) (e : Same H H') (hp : H' p = some ho) (r : RO (ps ++ [some p]) H0 H' o ho) : Inn H0 (ps ++ [some p]) σ H' (.ref p :: vs) δ (ω ++ [o]) (.ptr ω.length :: as) := by
  have np : ¬ some p ∈ ps := fun z => by
    obtain ⟨u, hu, _⟩ := I.thr p z
    rw [n] at hu; cases hu
  have v0 := vis_own (ps := ps) I.old n e
  have hpp : ∀ (k : Nat) (q : Addr), ps[k]? = some (some q) → (ps ++ [some p])[k]? = some (some q) := fun k q h => by
    rw [List.getElem?_append_left (List.getElem?_eq_some_iff.mp h).1]; exact h
  have back : ∀ (k : Nat) (q : Addr), (ps ++ [some p])[k]? = some (some q) → ps[k]? = some (some q) ∨ (k = ps.length ∧ q = p) := fun k q h => by
    by_cases hk : k < ps.length
    · rw [List.getElem?_append_left hk] at h; exact .inl h
    · rw [List.getElem?_append_right (Nat.le_of_not_lt hk)] at h
      have hk2 : k - ps.length = 0 := by
        cases hz : k - ps.length with
        | zero => rfl
        | succ m => rw [hz] at h; simp at h
      rw [hk2] at h
      simp at h
      exact .inr ⟨by omega, h.symm⟩
  refine ⟨fun j k q h1 h2 => ?_, by simp [I.len], I.old.trans e, fun q hq => ?_, fun k u h => ?_, I.sl, fun i a h => ?_, .cons ⟨p, by rw [← I.len]; simp, rfl⟩ (I.stk.of v0 hpp)⟩
  · rcases back j q h1 with h1 | ⟨j1, e1⟩ <;> rcases back k q h2 with h2 | ⟨k1, e2⟩
    · exact I.nd j k q h1 h2
    · exact absurd (List.mem_of_getElem? h1) (e2 ▸ np)
    · exact absurd (List.mem_of_getElem? h2) (e1 ▸ np)
    · omega
  · rcases List.mem_append.mp hq with z | z
    · exact I.new q z
    · simp at z
      subst z
      cases h0 : H0 q with
      | none => rfl
      | some u => rw [I.old _ _ h0] at n; cases n
  · by_cases hk : k < ω.length
    · rw [List.getElem?_append_left hk] at h
      rcases I.obs k u h with ⟨q1, q2⟩ | ⟨q, hq, h1, h2, r2⟩
      · refine .inl ⟨q1, ?_⟩
        rw [List.getElem?_append_left (by rw [I.len]; exact hk)]; exact q2
      · refine .inr ⟨q, hq, hpp k q h1, e _ _ h2, ?_⟩
        cases u <;> cases hq <;> first | exact r2 | exact RvA.of v0 hpp r2
    · rw [List.getElem?_append_right (Nat.le_of_not_lt hk)] at h
      have hk2 : k - ω.length = 0 := by
        cases hz : k - ω.length with
        | zero => rfl
        | succ m => rw [hz] at h; simp at h
      rw [hk2] at h
      simp at h
      subst h
      refine .inr ⟨p, ho, ?_, hp, r⟩
      have : k = ps.length := by rw [I.len]; omega
      rw [this]; simp
  · obtain ⟨v, h1, h2⟩ := I.slot i a h
    exact ⟨v, h1, h2.of v0 hpp⟩
theorem Inn.make {p : Addr} {o : Ob} {ho : HO} (I : Inn H0 ps σ H vs δ ω as) (n : H p = none) (r : RO (ps ++ [some p]) H0 (upd H p ho) o ho) : Inn H0 (ps ++ [some p]) σ (upd H p ho) (.ref p :: vs) δ (ω ++ [o]) (.ptr ω.length :: as) :=
  I.adopt n (fun b u q => by rw [upd_ne (ne_of_none q n)]; exact q) upd_same r
/-- an owned object changes -/
theorem Inn.change {k : Nat} {p : Addr} {o : Ob} {ho : HO} (I : Inn H0 ps σ H vs δ ω as) (hp : ps[k]? = some (some p)) (hk : k < ω.length) (r : RO ps H0 H o ho) (nt : ∀ xs, ho ≠ .tup xs) : Inn H0 ps σ (upd H p ho) vs δ (ω.set k o) as := by
  have mp : some p ∈ ps := List.mem_of_getElem? hp
  have ev : vis ps H0 (upd H p ho) = vis ps H0 H := vis_upd mp
  have same : Same (vis ps H0 H) (vis ps H0 (upd H p ho)) := fun b u q => by rw [ev]; exact q
  refine ⟨I.nd, by rw [List.length_set]; exact I.len, fun b u q => ?_, I.new, fun j u h => ?_, I.sl, fun i a h => ?_, I.stk.of same fun _ _ q => q⟩
  · rw [upd_ne (ne_of_none q (I.new p mp))]; exact I.old _ _ q
  · by_cases hj : j = k
    · subst hj
      rw [List.getElem?_set_self hk] at h
      cases h
      refine .inr ⟨p, ho, hp, upd_same, ?_⟩
      cases o <;> cases ho <;> first | exact r | exact RvA.of same (fun _ _ q => q) r
    · rw [List.getElem?_set_ne (fun e => hj e.symm)] at h
      rcases I.obs j u h with q | ⟨q, hq, h1, h2, r2⟩
      · exact .inl q
      · have hqp : q ≠ p := fun e => hj (I.nd j k q h1 (e ▸ hp))
        refine .inr ⟨q, hq, h1, by rw [upd_ne hqp]; exact h2, ?_⟩
        cases u <;> cases hq <;> first | exact r2 | exact RvA.of same (fun _ _ q => q) r2
  · obtain ⟨v, h1, h2⟩ := I.slot i a h
    exact ⟨v, h1, h2.of same fun _ _ q => q⟩
/-- what is read off an owned list -/
theorem Inn.at_ {k : Nat} {bs : List A} (I : Inn H0 ps σ H vs δ ω as) (h : ω[k]? = some (.lst bs)) : ∃ p xs, ps[k]? = some (some p) ∧ H p = some (.lst xs) ∧ RvA ps H0 H bs xs := by
  rcases I.obs k _ h with ⟨q, _⟩ | ⟨p, ho, h1, h2, r⟩
  · cases q
  · cases ho <;> first | exact r.elim | exact ⟨p, _, h1, h2, r⟩
theorem Inn.atD {k : Nat} {kvs : List (Key × V)} (I : Inn H0 ps σ H vs δ ω as) (h : ω[k]? = some (.dic kvs)) : ∃ p, ps[k]? = some (some p) ∧ H p = some (.dK kvs) := by
  rcases I.obs k _ h with ⟨q, _⟩ | ⟨p, ho, h1, h2, r⟩
  · cases q
  · cases ho <;> first | exact r.elim | (have r' := (show _ = _ from r); subst r'; exact ⟨p, h1, h2⟩)
end
end Y

/-! Lay2: judgements on expressions, and their rules. -/
namespace Y
open PySem PySem.Spec L2

section
variable {H0 : Hp} {σ : L2.St} {H H' : Hp} {vs : List V} {δ : Sl} {ω : Om} {as : List A}
theorem Sta.grow (S : Sta H0 σ H vs δ ω as) (e : Same H H') : Sta H0 σ H' vs δ ω as := let ⟨ps, I⟩ := S; ⟨ps, I.grow e⟩
theorem Sta.pop {a : A} {v : V} (S : Sta H0 σ H (v :: vs) δ ω (a :: as)) : Sta H0 σ H vs δ ω as := let ⟨ps, I⟩ := S; ⟨ps, I.pop.2⟩
theorem Sta.old (S : Sta H0 σ H vs δ ω as) : Same H0 H := let ⟨_, I⟩ := S; I.old
/-- a flat thing -/
def Flat (v : V) (d : PyData) : Prop := ∀ H : Hp, Rp H v d
theorem Sta.flat {v : V} {d : PyData} (S : Sta H0 σ H vs δ ω as) (f : Flat v d) : Sta H0 σ H (v :: vs) δ ω (.dat d :: as) := let ⟨ps, I⟩ := S; ⟨ps, I.push (f _)⟩
theorem fl_int (i : Int) : Flat (.int i) (.int i) := fun _ => .int i
theorem fl_bl (b : Bool) : Flat (.bl b) (.bool b) := fun _ => .bl b
theorem fl_str (x : Str) : Flat (.str x) (.str x) := fun _ => .str x
theorem fl_non : Flat .non .none := fun _ => .non
/-- a new tuple of data -/
theorem Sta.tuple {p : Addr} {xs : List V} {ds : List PyData} (S : Sta H0 σ H (xs ++ vs) δ ω (ds.map .dat ++ as)) (hl : xs.length = ds.length) (n : H p = none) : Sta H0 σ (upd H p (.tup xs)) (.ref p :: vs) δ ω (.dat (.tuple ds) :: as) := by
  obtain ⟨ps, I⟩ := S
  have e : Same H (upd H p (.tup xs)) := fun b u q => by rw [upd_ne (ne_of_none q n)]; exact q
  have J := I.grow e
  have np : ¬ some p ∈ ps := fun z => by
    obtain ⟨u, hu, _⟩ := I.thr p z
    rw [n] at hu; cases hu
  have h0 : H0 p = none := by
    cases h0 : H0 p with
    | none => rfl
    | some u => rw [I.old _ _ h0] at n; cases n
  have split : ∀ {as1 as2 : List A} {vs1 vs2 : List V}, vs1.length = as1.length → RvA ps H0 (upd H p (.tup xs)) (as1 ++ as2) (vs1 ++ vs2) → RvA ps H0 (upd H p (.tup xs)) as1 vs1 ∧ RvA ps H0 (upd H p (.tup xs)) as2 vs2 := by
    intro as1
    induction as1 with
    | nil =>
      intro as2 vs1 vs2 hl h
      cases vs1 with
      | nil => exact ⟨.nil, h⟩
      | cons => simp at hl
    | cons a as1 ih =>
      intro as2 vs1 vs2 hl h
      cases vs1 with
      | nil => simp at hl
      | cons v vs1 =>
        cases h with
        | cons h t =>
          obtain ⟨q1, q2⟩ := ih (by simpa using hl) t
          exact ⟨.cons h q1, q2⟩
  obtain ⟨q1, q2⟩ := split (by simpa using hl) J.stk
  refine ⟨ps, { J with stk := .cons (.tup (xs := xs) ?_ q1.dats) q2 }⟩
  rw [vis_new np h0]; exact upd_same
end
theorem RvA.split {ps : List (Option Addr)} {H0 H : Hp} : ∀ {as1 as2 : List A} {vs1 vs2 : List V}, vs1.length = as1.length → RvA ps H0 H (as1 ++ as2) (vs1 ++ vs2) → RvA ps H0 H as1 vs1 ∧ RvA ps H0 H as2 vs2
  | [], _, [], _, _, h => ⟨.nil, h⟩
  | [], _, _ :: _, _, hl, _ => by simp at hl
  | _ :: _, _, [], _, hl, _ => by simp at hl
  | a :: as1, as2, v :: vs1, vs2, hl, .cons h t =>
    let ⟨q1, q2⟩ := RvA.split (as1 := as1) (by simpa using hl) t
    ⟨.cons h q1, q2⟩

/-! ### which pointers are used -/
def ScA (n : Nat) : A → Prop
  | .ptr k => k < n
  | _ => True
structure Scp (n : Nat) (δ : Sl) (ω : Om) (stk bs : List A) : Prop where
  sl : ∀ (i : Nat) (a : A), δ[i]? = some (some a) → ScA n a
  st : ∀ a ∈ stk, ScA n a
  ob : ∀ (k : Nat) (cs : List A), ω[k]? = some (.lst cs) → ∀ a ∈ cs, ScA n a
  it : ∀ a ∈ bs, ScA n a
theorem Rv.sc {ps : List (Option Addr)} {H0 H : Hp} : ∀ {a : A} {v : V}, Rv ps H0 H a v → ScA ps.length a
  | .dat _, _, _ => trivial
  | .ptr k, _, ⟨_, h, _⟩ => (List.getElem?_eq_some_iff.mp h).1
  | .arg _, _, _ => trivial
  | .raw _, _, _ => trivial
theorem RvA.sc {ps : List (Option Addr)} {H0 H : Hp} : ∀ {as : List A} {vs : List V}, RvA ps H0 H as vs → ∀ a ∈ as, ScA ps.length a
  | _, _, .nil, _, h => by simp at h
  | _, _, .cons h t, a, m => by
    rcases List.mem_cons.mp m with e | m
    · subst e; exact h.sc
    · exact t.sc a m
theorem Inn.scp {H0 : Hp} {ps : List (Option Addr)} {σ : L2.St} {H : Hp} {vs : List V} {δ : Sl} {ω : Om} {as bs : List A} {ws : List V} (I : Inn H0 ps σ H vs δ ω as) (r : RvA ps H0 H bs ws) : Scp ω.length δ ω as bs := by
  rw [← I.len]
  refine ⟨fun i a h => ?_, fun a h => I.stk.sc a h, fun k cs h => ?_, fun a h => r.sc a h⟩
  · obtain ⟨v, _, r⟩ := I.slot i a h
    exact r.sc
  · obtain ⟨p, xs, _, _, r⟩ := I.at_ h
    exact r.sc
theorem Rv.cut {ps : List (Option Addr)} {q : Option Addr} {H0 H : Hp} : ∀ {a : A} {v : V}, ScA ps.length a → Rv (ps ++ [q]) H0 H a v → Rv ps H0 H a v
  | .dat d, v, _, h => Rp.mono vis_less d v h
  | .ptr k, v, s, ⟨p, h, e⟩ => ⟨p, by rw [List.getElem?_append_left s] at h; exact h, e⟩
  | .arg d, v, _, h => h
  | .raw u, v, _, h => h
theorem RvA.cut {ps : List (Option Addr)} {q : Option Addr} {H0 H : Hp} : ∀ {as : List A} {vs : List V}, (∀ a ∈ as, ScA ps.length a) → RvA (ps ++ [q]) H0 H as vs → RvA ps H0 H as vs
  | _, _, _, .nil => .nil
  | _, _, s, .cons h t => .cons (h.cut (s _ List.mem_cons_self)) (t.cut fun a m => s a (List.mem_cons_of_mem _ m))
/-- a new list is taken as data -/
theorem Sta.froze {H0 : Hp} {σ : L2.St} {H : Hp} {v : V} {vs : List V} {δ : Sl} {ω : Om} {as : List A} {ds : List PyData} (S : Sta H0 σ H (v :: vs) δ (ω ++ [.lst (ds.map .dat)]) (.ptr ω.length :: as)) (c : Scp ω.length δ ω as (ds.map .dat)) :
    Sta H0 σ H (v :: vs) δ ω (.dat (.list ds) :: as) := by
  obtain ⟨ps, I⟩ := S
  obtain ⟨p, xs, hp, hH, r⟩ := I.at_ (k := ω.length) (bs := ds.map .dat) (by simp)
  have hlen := I.len
  rw [List.length_append, List.length_singleton] at hlen
  have hne : ps ≠ [] := fun e => by rw [e] at hlen; simp at hlen
  obtain ⟨ps', q, rfl⟩ : ∃ ps' q, ps = ps' ++ [q] := ⟨ps.dropLast, ps.getLast hne, (List.dropLast_concat_getLast hne).symm⟩
  have hl' : ps'.length = ω.length := by simpa using hlen
  have hq : q = some p := by
    rw [← hl'] at hp
    simpa using hp
  subst hq
  have np : ¬ some p ∈ ps' := fun z => by
    obtain ⟨j, hj⟩ := List.mem_iff_getElem?.mp z
    have hjl := (List.getElem?_eq_some_iff.mp hj).1
    have := I.nd j ω.length p (by rw [List.getElem?_append_left hjl]; exact hj) hp
    omega
  have h0 := I.new p (by simp)
  have hv : v = .ref p := by
    obtain ⟨⟨p', h1, h2⟩, _⟩ := I.pop
    rw [hp] at h1
    cases h1
    exact h2
  subst hv
  refine ⟨ps', fun j k b h1 h2 => ?_, hl', I.old, fun b hb => I.new b (List.mem_append_left _ hb), fun k o h => ?_, I.sl, fun i a h => ?_, .cons (.lst (xs := xs) (by rw [vis_new np h0]; exact hH) (RpA.mono vis_less ds _ r.dats)) ((I.pop.2.stk).cut (by rw [hl']; exact c.st))⟩
  · exact I.nd j k b (by rw [List.getElem?_append_left (List.getElem?_eq_some_iff.mp h1).1]; exact h1) (by rw [List.getElem?_append_left (List.getElem?_eq_some_iff.mp h2).1]; exact h2)
  · have hk := (List.getElem?_eq_some_iff.mp h).1
    rcases I.obs k o (by rw [List.getElem?_append_left hk]; exact h) with ⟨e, z⟩ | ⟨b, ho, h1, h2, r2⟩
    · rw [List.getElem?_append_left (by rw [hl']; exact hk)] at z
      exact .inl ⟨e, z⟩
    · rw [List.getElem?_append_left (by rw [hl']; exact hk)] at h1
      refine .inr ⟨b, ho, h1, h2, ?_⟩
      cases o <;> cases ho <;> first | exact r2 | exact RvA.cut (by rw [hl']; exact c.ob k _ h) r2
  · obtain ⟨u, h1, h2⟩ := I.slot i a h
    exact ⟨u, h1, h2.cut (by rw [hl']; exact c.sl i a h)⟩

/-! ### lists and tuples read -/
inductive Itm (K : PySem.W.Frag) (H0 : Hp) (ω : Om) : A → List A → Prop
  | dat (ds : List PyData) : Itm K H0 ω (.dat (.list ds)) (ds.map .dat)
  | arg (ds : List PyData) : Itm K H0 ω (.arg (.list ds)) (ds.map .arg)
  | argT (ds : List PyData) (h : noLA ds = true) : Itm K H0 ω (.arg (.list ds)) (ds.map .dat)
  | ptr {k : Nat} {as : List A} (h : ω[k]? = some (.lst as)) : Itm K H0 ω (.ptr k) as
  | scr {a : Addr} {ns : List Int} (h : SqL K H0 a (ns.map V.int)) : Itm K H0 ω (.raw (.ref a)) (ns.map fun n => .dat (.int n))
inductive Tpl : A → List PyData → Prop
  | dat (ds : List PyData) : Tpl (.dat (.tuple ds)) ds
  | arg (ds : List PyData) (h : noLA ds = true) : Tpl (.arg (.tuple ds)) ds
theorem Inn.argT {H0 : Hp} {ps : List (Option Addr)} {σ : L2.St} {H : Hp} {vs : List V} {δ : Sl} {ω : Om} {as : List A} (I : Inn H0 ps σ H vs δ ω as) : Same (tups H0) (vis ps H0 H) := fun b o h => by
  unfold tups at h
  split at h
  · rename_i xs e
    cases h
    exact vis_tup (fun z => by rw [I.new b z] at e; cases e) I.old (I.old _ _ e)
  · cases h
theorem Inn.argD {H0 : Hp} {ps : List (Option Addr)} {σ : L2.St} {H : Hp} {vs : List V} {δ : Sl} {ω : Om} {as : List A} (I : Inn H0 ps σ H vs δ ω as) {d : PyData} {v : V} (h : noL d = true) (r : Rp H0 v d) : Rp (vis ps H0 H) v d := Rp.mono I.argT d v (Rp.tups d v h r)
theorem rva_ints {ps : List (Option Addr)} {H0 H : Hp} : ∀ ns : List Int, RvA ps H0 H (ns.map fun n => .dat (.int n)) (ns.map V.int)
  | [] => .nil
  | n :: ns => .cons (.int n) (rva_ints ns)
section
variable {K : PySem.W.Frag} {H0 : Hp} {ps : List (Option Addr)} {σ : L2.St} {H : Hp} {vs : List V} {δ : Sl} {ω : Om} {as bs : List A} {a : A} {v : V}
theorem Itm.get (h : Itm K H0 ω a bs) (I : Inn H0 ps σ H vs δ ω as) (r : Rv ps H0 H a v) : ∃ p xs, v = .ref p ∧ SqL K H p xs ∧ RvA ps H0 H bs xs ∧ ((∀ u, a ≠ .raw u) → H p = some (.lst xs)) := by
  cases h with
  | dat ds =>
    cases (show Rp _ _ _ from r) with
    | lst h1 h2 =>
      have e := vis_sub I.old _ _ h1
      exact ⟨_, _, rfl, SqL.of e, .of_dats h2, fun _ => e⟩
  | arg ds =>
    cases (show Rp _ _ _ from r) with
    | lst h1 h2 =>
      have e := I.old _ _ h1
      exact ⟨_, _, rfl, SqL.of e, .of_args h2, fun _ => e⟩
  | argT ds n =>
    cases (show Rp _ _ _ from r) with
    | lst h1 h2 =>
      have e := I.old _ _ h1
      exact ⟨_, _, rfl, SqL.of e, .of_dats (RpA.mono I.argT ds _ (RpA.tups ds _ n h2)), fun _ => e⟩
  | ptr hk =>
    obtain ⟨p, h1, rfl⟩ := r
    obtain ⟨p', xs, h2, h3, h4⟩ := I.at_ hk
    rw [h1] at h2
    cases h2
    exact ⟨p, xs, rfl, SqL.of h3, h4, fun _ => h3⟩
  | @scr b ns hs =>
    have e : v = .ref b := r
    subst e
    exact ⟨b, _, rfl, I.old.seq hs, rva_ints ns, fun z => absurd rfl (z _)⟩
theorem Tpl.get {ds : List PyData} (h : Tpl a ds) (I : Inn H0 ps σ H vs δ ω as) (r : Rv ps H0 H a v) : ∃ p xs, v = .ref p ∧ H p = some (.tup xs) ∧ RpA (vis ps H0 H) xs ds := by
  cases h with
  | dat =>
    cases (show Rp _ _ _ from r) with
    | tup h1 h2 => exact ⟨_, _, rfl, vis_sub I.old _ _ h1, h2⟩
  | arg _ n =>
    cases (show Rp _ _ _ from r) with
    | tup h1 h2 => exact ⟨_, _, rfl, I.old _ _ h1, RpA.mono I.argT ds _ (RpA.tups ds _ n h2)⟩
end
/- what an abstract value is as data, now -/
mutual
inductive Rd (ω : Om) : A → PyData → Prop
  | dat (d : PyData) : Rd ω (.dat d) d
  | arg (d : PyData) : Rd ω (.arg d) d
  | ptr {k : Nat} {as : List A} {ds : List PyData} : ω[k]? = some (.lst as) → RdA ω as ds → Rd ω (.ptr k) (.list ds)
inductive RdA (ω : Om) : List A → List PyData → Prop
  | nil : RdA ω [] []
  | cons {a : A} {as : List A} {d : PyData} {ds : List PyData} : Rd ω a d → RdA ω as ds → RdA ω (a :: as) (d :: ds)
end
theorem RdA.dats {ω : Om} : ∀ ds : List PyData, RdA ω (ds.map .dat) ds
  | [] => .nil
  | d :: ds => .cons (.dat d) (RdA.dats ds)
section
variable {H0 : Hp} {ps : List (Option Addr)} {σ : L2.St} {H : Hp} {vs : List V} {δ : Sl} {ω : Om} {as : List A}
mutual
theorem Rd.rp (I : Inn H0 ps σ H vs δ ω as) : ∀ (d : PyData) {a : A} {v : V}, Rd ω a d → Rv ps H0 H a v → Rp H v d
  | d, _, v, .dat _, r => Rp.mono (vis_sub I.old) d v r
  | d, _, v, .arg _, r => Rp.mono I.old d v r
  | .list ds, _, _, .ptr (as := bs) hk ha, ⟨p, h1, rfl⟩ => by
    obtain ⟨p', xs, h2, h3, h4⟩ := I.at_ hk
    rw [h1] at h2
    cases h2
    exact .lst h3 (RdA.rp I ds ha h4)
theorem RdA.rp (I : Inn H0 ps σ H vs δ ω as) : ∀ (ds : List PyData) {bs : List A} {xs : List V}, RdA ω bs ds → RvA ps H0 H bs xs → RpA H xs ds
  | _, _, _, .nil, .nil => .nil
  | _ :: ds, _, _, .cons h t, .cons r rt => .cons (Rd.rp I _ h r) (RdA.rp I ds t rt)
end
end

/-! ### judgements -/
def EG (H0 : Hp) (te : TE) (δ : Sl) (ω : Om) (P : A → Om → Prop) : Prop := ∀ (σ : L2.St) (H : Hp) (vs : List V) (as : List A), Sta H0 σ H vs δ ω as → ∀ Q : VK, (∀ a ω' v H', P a ω' → Sta H0 σ H' (v :: vs) δ ω' (a :: as) → Q v H') → te σ H Q
def ET (H0 : Hp) (tt : TT) (δ : Sl) (ω : Om) (P : Bool → Om → Prop) : Prop := ∀ (σ : L2.St) (H : Hp) (vs : List V) (as : List A), Sta H0 σ H vs δ ω as → ∀ Q : Bool → Hp → Prop, (∀ b ω' H', P b ω' → Sta H0 σ H' vs δ ω' as → Q b H') → tt σ H Q
def EA (H0 : Hp) (ta : TA) (δ : Sl) (ω : Om) (P : List A → Om → Prop) : Prop := ∀ (σ : L2.St) (H : Hp) (vs : List V) (as : List A), Sta H0 σ H vs δ ω as → ∀ Q : List V → Hp → Prop, (∀ bs ω' us H', P bs ω' → us.length = bs.length → Sta H0 σ H' (us ++ vs) δ ω' (bs ++ as) → Q us H') → ta σ H Q
def EO (H0 : Hp) (to : TO) (δ : Sl) (ω : Om) (P : Option Int → Om → Prop) : Prop := ∀ (σ : L2.St) (H : Hp) (vs : List V) (as : List A), Sta H0 σ H vs δ ω as → ∀ Q : Option Int → Hp → Prop, (∀ o ω' H', P o ω' → Sta H0 σ H' vs δ ω' as → Q o H') → to σ H Q
/-- an operation on two values -/
def EB (H0 : Hp) (r : R2) (a b : A) (δ : Sl) (ω : Om) (P : A → Om → Prop) : Prop := ∀ (σ : L2.St) (H : Hp) (vs : List V) (as : List A) (x y : V), Sta H0 σ H (y :: x :: vs) δ ω (b :: a :: as) → ∀ Q : VK, (∀ c ω' v H', P c ω' → Sta H0 σ H' (v :: vs) δ ω' (c :: as) → Q v H') → r x y H Q
/-- a call of a built-in on values -/
def EC (H0 : Hp) (r : List V → Hp → VK → Prop) (bs : List A) (δ : Sl) (ω : Om) (P : A → Om → Prop) : Prop := ∀ (σ : L2.St) (H : Hp) (vs us : List V) (as : List A), us.length = bs.length → Sta H0 σ H (us ++ vs) δ ω (bs ++ as) → ∀ Q : VK, (∀ c ω' v H', P c ω' → Sta H0 σ H' (v :: vs) δ ω' (c :: as) → Q v H') → r us H Q
/-- a new list comes, of these items -/
def New (H0 : Hp) (σ : L2.St) (vs : List V) (δ : Sl) (as : List A) (P : List A → Om → Prop) (Q : VK) : Prop := ∀ bs ω' p H', P bs ω' → Sta H0 σ H' (.ref p :: vs) δ (ω' ++ [.lst bs]) (.ptr ω'.length :: as) → Scp ω'.length δ ω' as bs → Q (.ref p) H'
def EL (H0 : Hp) (te : TE) (δ : Sl) (ω : Om) (P : List A → Om → Prop) : Prop := ∀ (σ : L2.St) (H : Hp) (vs : List V) (as : List A), Sta H0 σ H vs δ ω as → ∀ Q : VK, New H0 σ vs δ as P Q → te σ H Q
def EBL (H0 : Hp) (r : R2) (a b : A) (δ : Sl) (ω : Om) (P : List A → Om → Prop) : Prop := ∀ (σ : L2.St) (H : Hp) (vs : List V) (as : List A) (x y : V), Sta H0 σ H (y :: x :: vs) δ ω (b :: a :: as) → ∀ Q : VK, New H0 σ vs δ as P Q → r x y H Q
def ECL (H0 : Hp) (r : List V → Hp → VK → Prop) (bs : List A) (δ : Sl) (ω : Om) (P : List A → Om → Prop) : Prop := ∀ (σ : L2.St) (H : Hp) (vs us : List V) (as : List A), us.length = bs.length → Sta H0 σ H (us ++ vs) δ ω (bs ++ as) → ∀ Q : VK, New H0 σ vs δ as P Q → r us H Q

section
variable {K : PySem.W.Frag} {H0 : Hp} {δ : Sl} {ω : Om} {P : A → Om → Prop} {te ta tb : TE}
theorem el_own {P : A → Om → Prop} (h : EL H0 te δ ω fun bs ω' => P (.ptr ω'.length) (ω' ++ [.lst bs])) : EG H0 te δ ω P := fun σ H vs as S Q q =>
  h σ H vs as S Q fun bs ω' p H' hp S' _ => q _ _ _ H' hp S'
theorem el_dat {P : A → Om → Prop} (h : EL H0 te δ ω fun bs ω' => ∃ ds : List PyData, bs = ds.map .dat ∧ P (.dat (.list ds)) ω') : EG H0 te δ ω P := fun σ H vs as S Q q =>
  h σ H vs as S Q fun bs ω' p H' ⟨ds, e, hp⟩ S' c => by
    subst e
    exact q _ _ _ H' hp (S'.froze c)
theorem EG.imp {P P' : A → Om → Prop} (h : EG H0 te δ ω P) (i : ∀ a ω', P a ω' → P' a ω') : EG H0 te δ ω P' := fun σ H vs as S Q q => h σ H vs as S Q fun a ω' v H' hp S' => q a ω' v H' (i _ _ hp) S'
theorem EL.imp {P P' : List A → Om → Prop} (h : EL H0 te δ ω P) (i : ∀ a ω', P a ω' → P' a ω') : EL H0 te δ ω P' := fun σ H vs as S Q q => h σ H vs as S Q fun a ω' v H' hp S' => q a ω' v H' (i _ _ hp) S'
theorem eg_var {i : Nat} {a : A} (h : δ[i]? = some (some a)) (p : P a ω) : EG H0 (tVar i) δ ω P := fun σ H vs as ⟨ps, I⟩ Q q =>
  let ⟨v, h1, r⟩ := I.slot i a h
  ⟨v, h1, q a ω v H p ⟨ps, I.push r⟩⟩
theorem eg_flat {v : V} {d : PyData} (f : Flat v d) (p : P (.dat d) ω) : EG H0 (tC v) δ ω P := fun σ H vs as S Q q => q _ _ v H p (S.flat f)
theorem eg_int {i : Int} (p : P (.dat (.int i)) ω) : EG H0 (tC (.int i)) δ ω P := eg_flat (fl_int i) p
theorem eg_bl {b : Bool} (p : P (.dat (.bool b)) ω) : EG H0 (tC (.bl b)) δ ω P := eg_flat (fl_bl b) p
theorem eg_str {x : Str} (p : P (.dat (.str x)) ω) : EG H0 (tC (.str x)) δ ω P := eg_flat (fl_str x) p
theorem eg_non (p : P (.dat .none) ω) : EG H0 (tC .non) δ ω P := eg_flat fl_non p
theorem eg_raw {v : V} (p : P (.raw v) ω) : EG H0 (tC v) δ ω P := fun σ H vs as ⟨ps, I⟩ Q q => q _ _ v H p ⟨ps, I.push rfl⟩
theorem eg_op {r : R2} (h : EG H0 ta δ ω fun a ω1 => EG H0 tb δ ω1 fun b ω2 => EB H0 r a b δ ω2 P) : EG H0 (tOp r ta tb) δ ω P := fun σ H vs as S Q q =>
  h σ H vs as S _ fun a ω1 x H1 h1 S1 => h1 σ H1 _ _ S1 _ fun b ω2 y H2 h2 S2 => h2 σ H2 vs as x y S2 Q q
theorem el_op {r : R2} {P : List A → Om → Prop} (h : EG H0 ta δ ω fun a ω1 => EG H0 tb δ ω1 fun b ω2 => EBL H0 r a b δ ω2 P) : EL H0 (tOp r ta tb) δ ω P := fun σ H vs as S Q q =>
  h σ H vs as S _ fun a ω1 x H1 h1 S1 => h1 σ H1 _ _ S1 _ fun b ω2 y H2 h2 S2 => h2 σ H2 vs as x y S2 Q q
theorem eg_cb {r : List V → Hp → VK → Prop} {ts : TA} (h : EA H0 ts δ ω fun bs ω1 => EC H0 r bs δ ω1 P) : EG H0 (tCB r ts) δ ω P := fun σ H vs as S Q q =>
  h σ H vs as S _ fun bs ω1 us H1 h1 hl S1 => h1 σ H1 vs us as hl S1 Q q
theorem el_cb {r : List V → Hp → VK → Prop} {ts : TA} {P : List A → Om → Prop} (h : EA H0 ts δ ω fun bs ω1 => ECL H0 r bs δ ω1 P) : EL H0 (tCB r ts) δ ω P := fun σ H vs as S Q q =>
  h σ H vs as S _ fun bs ω1 us H1 h1 hl S1 => h1 σ H1 vs us as hl S1 Q q
theorem ea_nil {P : List A → Om → Prop} (p : P [] ω) : EA H0 tNil δ ω P := fun σ H vs as S Q q => q [] ω [] H p rfl S
theorem Sta.rot {σ : L2.St} {H : Hp} {vs us : List V} {v : V} {as bs : List A} {a : A} (hl : us.length = bs.length) (S : Sta H0 σ H (us ++ v :: vs) δ ω (bs ++ a :: as)) : Sta H0 σ H ((v :: us) ++ vs) δ ω ((a :: bs) ++ as) := by
  obtain ⟨ps, I⟩ := S
  obtain ⟨q1, q2⟩ := RvA.split hl I.stk
  cases q2 with
  | cons h t => exact ⟨ps, { I with stk := .cons h (q1.append t) }⟩
theorem ea_cons {ts : TA} {P : List A → Om → Prop} (h : EG H0 te δ ω fun a ω1 => EA H0 ts δ ω1 fun bs ω2 => P (a :: bs) ω2) : EA H0 (tCons te ts) δ ω P := fun σ H vs as S Q q =>
  h σ H vs as S _ fun a ω1 x H1 h1 S1 => h1 σ H1 _ _ S1 _ fun bs ω2 us H2 h2 hl S2 => q (a :: bs) ω2 (x :: us) H2 h2 (by simp [hl]) (S2.rot hl)
/-- the data of a list of data -/
def unD : List A → Option (List PyData)
  | [] => some []
  | .dat d :: r => (unD r).map (d :: ·)
  | _ :: _ => none
theorem unD_eq : ∀ {as : List A} {ds : List PyData}, unD as = some ds → as = ds.map .dat
  | [], ds, h => by cases h; rfl
  | .dat d :: r, ds, h => by
    cases e : unD r with
    | none => rw [show unD (.dat d :: r) = (unD r).map (d :: ·) from rfl, e] at h; cases h
    | some es =>
      rw [show unD (.dat d :: r) = (unD r).map (d :: ·) from rfl, e] at h
      cases h
      rw [unD_eq e]; rfl
  | .ptr _ :: _, _, h => by cases h
  | .arg _ :: _, _, h => by cases h
  | .raw _ :: _, _, h => by cases h
theorem eg_tup {ts : TA} (h : EA H0 ts δ ω fun bs ω1 => ∃ ds, unD bs = some ds ∧ ds.length ≤ sizeLine ∧ P (.dat (.tuple ds)) ω1) : EG H0 (tTup ts) δ ω P := fun σ H vs as S Q q =>
  h σ H vs as S _ fun bs ω1 us H1 ⟨ds, e, hz, hp⟩ hl S1 => by
    have e := unD_eq e
    subst e
    have hl' : us.length = ds.length := by simpa using hl
    exact ⟨by rw [hl']; exact hz, fun p n => q _ _ _ _ hp (S1.tuple hl' n)⟩
theorem el_make {σ : L2.St} {H : Hp} {vs xs : List V} {as bs : List A} {p : Addr} (I : ∃ ps, Inn H0 ps σ H vs δ ω as ∧ RvA ps H0 H bs xs) (n : H p = none) : Sta H0 σ (upd H p (.lst xs)) (.ref p :: vs) δ (ω ++ [.lst bs]) (.ptr ω.length :: as) ∧ Scp ω.length δ ω as bs := by
  obtain ⟨ps, I, r⟩ := I
  have e : Same H (upd H p (.lst xs)) := fun b u q => by rw [upd_ne (ne_of_none q n)]; exact q
  exact ⟨⟨_, I.make n (o := .lst bs) (ho := .lst xs) (r.of (vis_own I.old n e) fun k q h => by rw [List.getElem?_append_left (List.getElem?_eq_some_iff.mp h).1]; exact h)⟩, I.scp r⟩
theorem el_lst {ts : TA} {P : List A → Om → Prop} (h : EA H0 ts δ ω fun bs ω1 => bs.length ≤ sizeLine ∧ P bs ω1) : EL H0 (tLst ts) δ ω P := fun σ H vs as S Q q =>
  h σ H vs as S _ fun bs ω1 us H1 ⟨hz, hp⟩ hl S1 => ⟨by rw [hl]; exact hz, fun p n => by
    obtain ⟨ps, I⟩ := S1
    obtain ⟨q1, q2⟩ := RvA.split hl I.stk
    obtain ⟨s, c⟩ := el_make (vs := vs) (as := as) ⟨ps, { I with stk := q2 }, q1⟩ n
    exact q bs ω1 p _ hp s c⟩

/-! ### operations -/
theorem eb_I0 {g : Int → Int → V} {i j : Int} {d : PyData} (f : Flat (g i j) d) (p : P (.dat d) ω) : EB H0 (rI0 g) (.dat (.int i)) (.dat (.int j)) δ ω P := fun σ H vs as x y S Q q => by
  obtain ⟨ps, I⟩ := S
  obtain ⟨r1, I1⟩ := I.pop
  obtain ⟨r2, I2⟩ := I1.pop
  cases (show Rp _ _ _ from r1)
  cases (show Rp _ _ _ from r2)
  exact ⟨i, j, rfl, rfl, q _ _ _ H p (Sta.flat ⟨ps, I2⟩ f)⟩
theorem eb_I {C : Int → Int → Prop} {g : Int → Int → V} {i j : Int} {d : PyData} (c : C i j) (f : Flat (g i j) d) (p : P (.dat d) ω) : EB H0 (rI C g) (.dat (.int i)) (.dat (.int j)) δ ω P := fun σ H vs as x y S Q q => by
  obtain ⟨ps, I⟩ := S
  obtain ⟨r1, I1⟩ := I.pop
  obtain ⟨r2, I2⟩ := I1.pop
  cases (show Rp _ _ _ from r1)
  cases (show Rp _ _ _ from r2)
  exact ⟨i, j, rfl, rfl, c, q _ _ _ H p (Sta.flat ⟨ps, I2⟩ f)⟩
theorem EB.inl {r r' : R2} {a b : A} (h : EB H0 r a b δ ω P) : EB H0 (fun x y H Q => r x y H Q ∨ r' x y H Q) a b δ ω P := fun σ H vs as x y S Q q => .inl (h σ H vs as x y S Q q)
theorem EB.inr {r r' : R2} {a b : A} (h : EB H0 r' a b δ ω P) : EB H0 (fun x y H Q => r x y H Q ∨ r' x y H Q) a b δ ω P := fun σ H vs as x y S Q q => .inr (h σ H vs as x y S Q q)
theorem EBL.inl {r r' : R2} {a b : A} {P : List A → Om → Prop} (h : EBL H0 r a b δ ω P) : EBL H0 (fun x y H Q => r x y H Q ∨ r' x y H Q) a b δ ω P := fun σ H vs as x y S Q q => .inl (h σ H vs as x y S Q q)
theorem EBL.inr {r r' : R2} {a b : A} {P : List A → Om → Prop} (h : EBL H0 r' a b δ ω P) : EBL H0 (fun x y H Q => r x y H Q ∨ r' x y H Q) a b δ ω P := fun σ H vs as x y S Q q => .inr (h σ H vs as x y S Q q)
theorem EC.inl {r r' : List V → Hp → VK → Prop} {bs : List A} (h : EC H0 r bs δ ω P) : EC H0 (fun x H Q => r x H Q ∨ r' x H Q) bs δ ω P := fun σ H vs us as hl S Q q => .inl (h σ H vs us as hl S Q q)
theorem EC.inr {r r' : List V → Hp → VK → Prop} {bs : List A} (h : EC H0 r' bs δ ω P) : EC H0 (fun x H Q => r x H Q ∨ r' x H Q) bs δ ω P := fun σ H vs us as hl S Q q => .inr (h σ H vs us as hl S Q q)
theorem ECL.inl {r r' : List V → Hp → VK → Prop} {bs : List A} {P : List A → Om → Prop} (h : ECL H0 r bs δ ω P) : ECL H0 (fun x H Q => r x H Q ∨ r' x H Q) bs δ ω P := fun σ H vs us as hl S Q q => .inl (h σ H vs us as hl S Q q)
theorem ECL.inr {r r' : List V → Hp → VK → Prop} {bs : List A} {P : List A → Om → Prop} (h : ECL H0 r' bs δ ω P) : ECL H0 (fun x H Q => r x H Q ∨ r' x H Q) bs δ ω P := fun σ H vs us as hl S Q q => .inr (h σ H vs us as hl S Q q)
/-- the items as they stand -/
theorem eb_ixL {a : A} {bs : List A} {i : Int} {c : A} (h : Itm K H0 ω a bs) (e : atI bs i = some c) (p : P c ω) : EB H0 (rIxL K) a (.dat (.int i)) δ ω P := fun σ H vs as x y S Q q => by
  obtain ⟨ps, I⟩ := S
  obtain ⟨r1, I1⟩ := I.pop
  obtain ⟨r2, I2⟩ := I1.pop
  cases (show Rp _ _ _ from r1)
  obtain ⟨b, xs, rfl, hs, rv, _⟩ := h.get I2 r2
  obtain ⟨j, hj, ej⟩ : ∃ j, ixN bs.length i = some j ∧ bs[j]? = some c := by
    unfold atI at e
    cases hj : ixN bs.length i with
    | none => rw [hj] at e; cases e
    | some j => rw [hj] at e; exact ⟨j, rfl, e⟩
  obtain ⟨u, hu, ru⟩ := rv.get ej
  have ex : atI xs i = some u := by
    unfold atI
    rw [rv.len, hj]
    exact hu
  exact ⟨b, xs, i, u, rfl, rfl, hs, ex, q c ω u H p ⟨ps, I2.push ru⟩⟩
theorem eb_ixT {a : A} {ds : List PyData} {i : Int} {d : PyData} (h : Tpl a ds) (e : atI ds i = some d) (p : P (.dat d) ω) : EB H0 (rIxT K) a (.dat (.int i)) δ ω P := fun σ H vs as x y S Q q => by
  obtain ⟨ps, I⟩ := S
  obtain ⟨r1, I1⟩ := I.pop
  obtain ⟨r2, I2⟩ := I1.pop
  cases (show Rp _ _ _ from r1)
  obtain ⟨b, xs, rfl, hs, rv⟩ := h.get I2 r2
  obtain ⟨j, hj, ej⟩ : ∃ j, ixN ds.length i = some j ∧ ds[j]? = some d := by
    unfold atI at e
    cases hj : ixN ds.length i with
    | none => rw [hj] at e; cases e
    | some j => rw [hj] at e; exact ⟨j, rfl, e⟩
  obtain ⟨u, hu, ru⟩ := rv.get ej
  have ex : atI xs i = some u := by
    unfold atI
    rw [rv.len, hj]
    exact hu
  exact ⟨b, xs, i, u, rfl, rfl, SqT.of hs, ex, q _ ω u H p ⟨ps, I2.push (a := .dat d) ru⟩⟩
/-- == and != -/
theorem eb_eqD {a b : A} {d e : PyData} (ha : Rd ω a d) (hb : Rd ω b e) (sa : SeqAt.shaped d = true) (sb : SeqAt.shaped e = true) (p : P (.dat (.bool (PyData.eqv d e))) ω) : EB H0 (rEqD K) a b δ ω P := fun σ H vs as x y S Q q => by
  obtain ⟨ps, I⟩ := S
  obtain ⟨r1, I1⟩ := I.pop
  obtain ⟨r2, I2⟩ := I1.pop
  exact ⟨d, e, Rp.dp d x (ha.rp I2 d r2), Rp.dp e y (hb.rp I2 e r1), sa, sb, q _ _ _ H p (Sta.flat ⟨ps, I2⟩ (fl_bl _))⟩
theorem eb_neD {a b : A} {d e : PyData} (ha : Rd ω a d) (hb : Rd ω b e) (sa : SeqAt.shaped d = true) (sb : SeqAt.shaped e = true) (p : P (.dat (.bool (!PyData.eqv d e))) ω) : EB H0 (rNeD K) a b δ ω P := fun σ H vs as x y S Q q => by
  obtain ⟨ps, I⟩ := S
  obtain ⟨r1, I1⟩ := I.pop
  obtain ⟨r2, I2⟩ := I1.pop
  exact ⟨d, e, Rp.dp d x (ha.rp I2 d r2), Rp.dp e y (hb.rp I2 e r1), sa, sb, q _ _ _ H p (Sta.flat ⟨ps, I2⟩ (fl_bl _))⟩
theorem eb_eqI {i j : Int} (p : P (.dat (.bool (decide (i = j)))) ω) : EB H0 (rEqD K) (.dat (.int i)) (.dat (.int j)) δ ω P := eb_eqD (.dat _) (.dat _) rfl rfl (by
  have e : PyData.eqv (.int i) (.int j) = decide (i = j) := by simp only [PyData.eqv]; rw [Bool.beq_eq_decide_eq]
  rw [e]; exact p)
theorem eb_neI {i j : Int} (p : P (.dat (.bool (!decide (i = j)))) ω) : EB H0 (rNeD K) (.dat (.int i)) (.dat (.int j)) δ ω P := eb_neD (.dat _) (.dat _) rfl rfl (by
  have e : PyData.eqv (.int i) (.int j) = decide (i = j) := by simp only [PyData.eqv]; rw [Bool.beq_eq_decide_eq]
  rw [e]; exact p)
theorem eb_eqS {i j : Str} (si : SeqAt.shaped (.str i) = true) (sj : SeqAt.shaped (.str j) = true) (p : P (.dat (.bool (decide (i = j)))) ω) : EB H0 (rEqD K) (.dat (.str i)) (.dat (.str j)) δ ω P := eb_eqD (.dat _) (.dat _) si sj (by
  have e : PyData.eqv (.str i) (.str j) = decide (i = j) := by simp only [PyData.eqv]; rw [Bool.beq_eq_decide_eq]
  rw [e]; exact p)
theorem eb_neS {i j : Str} (si : SeqAt.shaped (.str i) = true) (sj : SeqAt.shaped (.str j) = true) (p : P (.dat (.bool (!decide (i = j)))) ω) : EB H0 (rNeD K) (.dat (.str i)) (.dat (.str j)) δ ω P := eb_neD (.dat _) (.dat _) si sj (by
  have e : PyData.eqv (.str i) (.str j) = decide (i = j) := by simp only [PyData.eqv]; rw [Bool.beq_eq_decide_eq]
  rw [e]; exact p)
theorem eb_eqB {i j : Bool} (p : P (.dat (.bool (decide (i = j)))) ω) : EB H0 (rEqD K) (.dat (.bool i)) (.dat (.bool j)) δ ω P := eb_eqD (.dat _) (.dat _) rfl rfl (by
  have e : PyData.eqv (.bool i) (.bool j) = decide (i = j) := by simp only [PyData.eqv]; rw [Bool.beq_eq_decide_eq]
  rw [e]; exact p)
/-- is None -/
def isNo : PyData → Bool
  | .none => true
  | _ => false
theorem isNo_eq {H : Hp} {x : V} {d : PyData} (r : Rp H x d) : decide (x = V.non) = isNo d := by
  cases r <;> simp [isNo]
theorem eg_isN (h : EG H0 ta δ ω fun a ω1 => ∃ d, a = .dat d ∧ P (.dat (.bool (isNo d))) ω1) : EG H0 (tIsN ta) δ ω P := fun σ H vs as S Q q =>
  h σ H vs as S _ fun a ω1 x H1 ⟨d, e, hp⟩ S1 => by
    subst e
    have key : decide (x = V.non) = isNo d := by
      obtain ⟨ps, I⟩ := S1
      exact isNo_eq (show Rp _ _ _ from I.pop.1)
    rw [key]
    exact q _ _ _ H1 hp ((S1.pop).flat (fl_bl _))
theorem eg_notN (h : EG H0 ta δ ω fun a ω1 => ∃ d, a = .dat d ∧ P (.dat (.bool (!isNo d))) ω1) : EG H0 (tNotN ta) δ ω P := fun σ H vs as S Q q =>
  h σ H vs as S _ fun a ω1 x H1 ⟨d, e, hp⟩ S1 => by
    subst e
    have key : decide (x = V.non) = isNo d := by
      obtain ⟨ps, I⟩ := S1
      exact isNo_eq (show Rp _ _ _ from I.pop.1)
    rw [key]
    exact q _ _ _ H1 hp ((S1.pop).flat (fl_bl _))
theorem eg_un {r : V → Hp → VK → Prop} {g : Int → V} (h : EG H0 ta δ ω fun a ω1 => ∃ i d, a = .dat (.int i) ∧ Flat (g i) d ∧ P (.dat d) ω1) : EG H0 (tUn (rU g) ta) δ ω P := fun σ H vs as S Q q =>
  h σ H vs as S _ fun a ω1 x H1 ⟨i, d, e, f, hp⟩ S1 => by
    subst e
    obtain ⟨ps, I⟩ := S1
    obtain ⟨r, I1⟩ := I.pop
    cases (show Rp _ _ _ from r)
    exact ⟨i, rfl, q _ _ _ H1 hp (Sta.flat ⟨ps, I1⟩ f)⟩
end
end Y

/-! Lay3: more rules of expressions; statements; loops; comprehensions; calls; a def's body. -/
namespace Y
open PySem PySem.Spec L2

/-! ### the operators, each for all kinds -/
def rAddS : R2 := fun x y H Q => ∃ i j, x = .str i ∧ y = .str j ∧ i.length + j.length ≤ sizeLine ∧ Q (.str (i ++ j)) H
def rAddU (K : PySem.W.Frag) : R2 := fun x y H Q => rI0 (fun i j => .int (i + j)) x y H Q ∨ rCat x y H Q ∨ rAddS x y H Q ∨ rCatT K x y H Q
theorem op_addU {X : Cx} : OpR X (binaryOp .Add) (rAddU X.K) := op_add.or (op_cat.or ((show OpR X (binaryOp .Add) rAddS from op_add_str).or op_catT))
def rMulU : R2 := fun x y H Q => rI CMul (fun i j => .int (i * j)) x y H Q ∨ rRep x y H Q ∨ rI CMulW (fun i j => .int (i * j)) x y H Q
theorem op_mulU {X : Cx} : OpR X (binaryOp .Mult) rMulU := op_mul.or (op_rep.or op_mulW)
def rFdivU : R2 := rI CDiv fun i j => .int (i / j)
def rModU : R2 := rI (fun _ j => 0 < j) fun i j => .int (i % j)
def rSlU (K : PySem.W.Frag) : V → Option Int → Option Int → Hp → VK → Prop := fun x lo hi H Q => rSlL K x lo hi H Q ∨ rSlT K x lo hi H Q ∨ rSlS x lo hi H Q
theorem sl_U {X : Cx} : SlR X (rSlU X.K) := sl_list.or (sl_tup.or sl_str)
def rLenU (K : PySem.W.Frag) : List V → Hp → VK → Prop := fun xs H Q => (∃ x n, xs = [x] ∧ LenV K x H n ∧ Q (.int n) H) ∨ (∃ a kvs, xs = [V.ref a] ∧ H a = some (.dK kvs) ∧ Q (.int kvs.length) H)
theorem call_lenU {X : Cx} : CallR X (.builtin "len") (rLenU X.K) := call_len.or call_lenD
def rListU (K : PySem.W.Frag) : List V → Hp → VK → Prop := fun xs H Q => (∃ p ys, xs = [.ref p] ∧ (SqL K H p ys ∨ SqT K H p ys) ∧ ∀ l, H l = none → Q (.ref l) (upd H l (.lst ys))) ∨ rListD xs H Q
theorem call_listU {X : Cx} (hc : X.calm = true) : CallR X (.type "list") (rListU X.K) := call_list_of.or (call_list_dK hc)
def rInU (K : PySem.W.Frag) : R2 := fun x y H Q => rIn K false x y H Q ∨ rInD K x y H Q
def rNotInU (K : PySem.W.Frag) : R2 := fun x y H Q => rIn K true x y H Q ∨ rNotInD K x y H Q
theorem op_inU {X : Cx} (hu : X.A.units + 65 < cLine) : OpR X (compareOp .In) (rInU X.K) := op_in_seq.or (op_inD hu)
theorem op_notInU {X : Cx} (hu : X.A.units + 65 < cLine) : OpR X (compareOp .NotIn) (rNotInU X.K) := op_notIn_seq.or (op_notInD hu)

section
variable {K : PySem.W.Frag} {H0 : Hp} {δ : Sl} {ω : Om} {P : A → Om → Prop} {te ta tb : TE}
theorem eb_add {i j : Int} (p : P (.dat (.int (i + j))) ω) : EB H0 (rAddU K) (.dat (.int i)) (.dat (.int j)) δ ω P := (eb_I0 (fl_int _) p).inl
theorem eb_addS {i j : Str} (hz : i.length + j.length ≤ sizeLine) (p : P (.dat (.str (i ++ j))) ω) : EB H0 (rAddU K) (.dat (.str i)) (.dat (.str j)) δ ω P := EB.inr (EB.inr (EB.inl fun σ H vs as x y S Q q => by
  obtain ⟨ps, I⟩ := S
  obtain ⟨r1, I1⟩ := I.pop
  obtain ⟨r2, I2⟩ := I1.pop
  cases (show Rp _ _ _ from r1)
  cases (show Rp _ _ _ from r2)
  exact ⟨i, j, rfl, rfl, hz, q _ _ _ H p (Sta.flat ⟨ps, I2⟩ (fl_str _))⟩))
def notRaw : A → Bool
  | .raw _ => false
  | _ => true
theorem notRaw_ne {a : A} (h : notRaw a = true) : ∀ u, a ≠ .raw u := fun u e => by subst e; cases h
theorem ebl_cat {a b : A} {cs es : List A} {P : List A → Om → Prop} (ha : Itm K H0 ω a cs) (hb : Itm K H0 ω b es) (na : notRaw a = true) (nb : notRaw b = true) (hz : cs.length + es.length ≤ sizeLine) (p : P (cs ++ es) ω) : EBL H0 (rAddU K) a b δ ω P := EBL.inr (EBL.inl fun σ H vs as x y S Q q => by
  obtain ⟨ps, I⟩ := S
  obtain ⟨r1, I1⟩ := I.pop
  obtain ⟨r2, I2⟩ := I1.pop
  obtain ⟨l, xs, rfl, _, rx, hx⟩ := ha.get I2 r2
  obtain ⟨m, ys, rfl, _, ry, hy⟩ := hb.get I2 r1
  refine ⟨l, m, xs, ys, rfl, rfl, hx (notRaw_ne na), hy (notRaw_ne nb), by rw [rx.len, ry.len]; exact hz, fun b n => ?_⟩
  obtain ⟨s, c⟩ := el_make (vs := vs) (as := as) ⟨ps, I2, rx.append ry⟩ n
  exact q _ ω b _ p s c)
theorem eb_catT {a b : A} {cs es : List PyData} (ha : Tpl a cs) (hb : Tpl b es) (nc : cs ≠ []) (ne : es ≠ []) (hz : cs.length + es.length ≤ sizeLine) (p : P (.dat (.tuple (cs ++ es))) ω) : EB H0 (rAddU K) a b δ ω P := EB.inr (EB.inr (EB.inr fun σ H vs as x y S Q q => by
  obtain ⟨ps, I⟩ := S
  obtain ⟨r1, I1⟩ := I.pop
  obtain ⟨r2, I2⟩ := I1.pop
  obtain ⟨l, xs, rfl, hx, rx⟩ := ha.get I2 r2
  obtain ⟨m, ys, rfl, hy, ry⟩ := hb.get I2 r1
  refine ⟨l, m, xs, ys, rfl, rfl, SqT.of hx, SqT.of hy, fun e => ?_, by rw [rx.len, ry.len]; exact hz, fun e => ?_, fun _ b n => ?_⟩
  · subst e; have := rx.len; exact nc (List.eq_nil_of_length_eq_zero (by simpa using this.symm))
  · subst e; have := ry.len; exact (ne (List.eq_nil_of_length_eq_zero (by simpa using this.symm))).elim
  · refine q _ ω _ _ p (Sta.tuple (vs := vs) (as := as) (ds := cs ++ es) ⟨ps, { I2 with stk := ?_ }⟩ (by simp [rx.len, ry.len]) n)
    rw [List.map_append]
    exact ((RvA.of_dats rx).append (RvA.of_dats ry)).append I2.stk))
theorem eb_mul {i j : Int} (c : CMul i j) (p : P (.dat (.int (i * j))) ω) : EB H0 rMulU (.dat (.int i)) (.dat (.int j)) δ ω P := (eb_I c (fl_int _) p).inl
theorem eb_mulW {i j : Int} (c : CMulW i j) (p : P (.dat (.int (i * j))) ω) : EB H0 rMulU (.dat (.int i)) (.dat (.int j)) δ ω P := EB.inr (EB.inr (eb_I c (fl_int _) p))
theorem RvA.rep {ps : List (Option Addr)} {H0 H : Hp} {as : List A} {vs : List V} (h : RvA ps H0 H as vs) : ∀ k : Nat, RvA ps H0 H (List.replicate k as).flatten (List.replicate k vs).flatten
  | 0 => .nil
  | k + 1 => by
    rw [List.replicate_succ, List.replicate_succ, List.flatten_cons, List.flatten_cons]
    exact h.append (h.rep k)
theorem ebl_rep {a : A} {k : Int} {cs : List A} {P : List A → Om → Prop} (ha : Itm K H0 ω a cs) (na : notRaw a = true) (h1 : -(2 ^ 63) ≤ k) (h2 : k < 2 ^ 63) (hz : cs.length * k.toNat ≤ sizeLine) (p : P (List.replicate k.toNat cs).flatten ω) : EBL H0 rMulU a (.dat (.int k)) δ ω P := EBL.inr (EBL.inl fun σ H vs as x y S Q q => by
  obtain ⟨ps, I⟩ := S
  obtain ⟨r1, I1⟩ := I.pop
  obtain ⟨r2, I2⟩ := I1.pop
  cases (show Rp _ _ _ from r1)
  obtain ⟨l, xs, rfl, _, rx, hx⟩ := ha.get I2 r2
  refine ⟨l, k, xs, rfl, rfl, hx (notRaw_ne na), h1, h2, by rw [rx.len]; exact hz, fun b n => ?_⟩
  obtain ⟨s, c⟩ := el_make (vs := vs) (as := as) ⟨ps, I2, rx.rep k.toNat⟩ n
  exact q _ ω b _ p s c)
theorem eb_fdiv {i j : Int} (c : CDiv i j) (p : P (.dat (.int (i / j))) ω) : EB H0 rFdivU (.dat (.int i)) (.dat (.int j)) δ ω P := eb_I c (fl_int _) p
theorem eb_mod {i j : Int} (c : 0 < j) (p : P (.dat (.int (i % j))) ω) : EB H0 rModU (.dat (.int i)) (.dat (.int j)) δ ω P := eb_I c (fl_int _) p
theorem eb_pow {i j : Int} (c : CPow i j) (p : P (.dat (.int (i ^ j.toNat))) ω) : EB H0 (rI CPow fun i j => .int (i ^ j.toNat)) (.dat (.int i)) (.dat (.int j)) δ ω P := eb_I c (fl_int _) p
theorem eb_sub {i j : Int} (p : P (.dat (.int (i - j))) ω) : EB H0 (rI0 fun i j => .int (i - j)) (.dat (.int i)) (.dat (.int j)) δ ω P := eb_I0 (fl_int _) p
theorem eb_lt {i j : Int} (p : P (.dat (.bool (decide (i < j)))) ω) : EB H0 (rI0 fun i j => .bl (decide (i < j))) (.dat (.int i)) (.dat (.int j)) δ ω P := eb_I0 (fl_bl _) p
theorem eb_le {i j : Int} (p : P (.dat (.bool (decide (i ≤ j)))) ω) : EB H0 (rI0 fun i j => .bl (decide (i ≤ j))) (.dat (.int i)) (.dat (.int j)) δ ω P := eb_I0 (fl_bl _) p
theorem eb_gt {i j : Int} (p : P (.dat (.bool (decide (j < i)))) ω) : EB H0 (rI0 fun i j => .bl (decide (j < i))) (.dat (.int i)) (.dat (.int j)) δ ω P := eb_I0 (fl_bl _) p
theorem eb_ge {i j : Int} (p : P (.dat (.bool (decide (j ≤ i)))) ω) : EB H0 (rI0 fun i j => .bl (decide (j ≤ i))) (.dat (.int i)) (.dat (.int j)) δ ω P := eb_I0 (fl_bl _) p
theorem eb_ixUL {a : A} {bs : List A} {i : Int} {c : A} (h : Itm K H0 ω a bs) (e : atI bs i = some c) (p : P c ω) : EB H0 (rIx K) a (.dat (.int i)) δ ω P := (eb_ixL h e p).inl
theorem eb_ixUT {a : A} {ds : List PyData} {i : Int} {d : PyData} (h : Tpl a ds) (e : atI ds i = some d) (p : P (.dat d) ω) : EB H0 (rIx K) a (.dat (.int i)) δ ω P := EB.inr (EB.inl (eb_ixT h e p))
theorem eb_ixUS {z : Str} {i : Int} {c : Nat} (hz : z.length ≤ sizeLine) (e : atI z.cps.toList i = some c) (p : P (.dat (.str ⟨#[c]⟩)) ω) : EB H0 (rIx K) (.dat (.str z)) (.dat (.int i)) δ ω P := EB.inr (EB.inr fun σ H vs as x y S Q q => by
  obtain ⟨ps, I⟩ := S
  obtain ⟨r1, I1⟩ := I.pop
  obtain ⟨r2, I2⟩ := I1.pop
  cases (show Rp _ _ _ from r1)
  cases (show Rp _ _ _ from r2)
  exact ⟨z, i, c, rfl, rfl, hz, e, q _ _ _ H p (Sta.flat ⟨ps, I2⟩ (fl_str _))⟩)

/-! ### slices -/
def cutA {α : Type} (xs : List α) (lo hi : Option Int) : List α := (xs.drop (HT.sIx xs.length 0 lo)).take (HT.sIx xs.length xs.length hi - HT.sIx xs.length 0 lo)
theorem eo_none {P : Option Int → Om → Prop} (p : P none ω) : EO H0 tNoPart δ ω P := fun σ H vs as S Q q => q none ω H p S
theorem eo_some {P : Option Int → Om → Prop} (h : EG H0 te δ ω fun a ω1 => ∃ i, a = .dat (.int i) ∧ P (some i) ω1) : EO H0 (tPart te) δ ω P := fun σ H vs as S Q q =>
  h σ H vs as S _ fun a ω1 x H1 ⟨i, e, hp⟩ S1 => by
    subst e
    obtain ⟨ps, I⟩ := S1
    obtain ⟨r, I1⟩ := I.pop
    cases (show Rp _ _ _ from r)
    exact ⟨i, rfl, q _ _ H1 hp ⟨ps, I1⟩⟩
theorem el_slL {tl th : TO} {P : List A → Om → Prop} (h : EG H0 te δ ω fun a ω1 => EO H0 tl δ ω1 fun lo ω2 => EO H0 th δ ω2 fun hi ω3 => ∃ bs, Itm K H0 ω3 a bs ∧ P (cutA bs lo hi) ω3) : EL H0 (tSl (rSlU K) te tl th) δ ω P := fun σ H vs as S Q q =>
  h σ H vs as S _ fun a ω1 x H1 h1 S1 => h1 σ H1 _ _ S1 _ fun lo ω2 H2 h2 S2 => h2 σ H2 _ _ S2 _ fun hi ω3 H3 ⟨bs, it, hp⟩ S3 => by
    obtain ⟨ps, I⟩ := S3
    obtain ⟨r, I1⟩ := I.pop
    obtain ⟨p, xs, rfl, hs, rx, _⟩ := it.get I1 r
    refine .inl ⟨p, xs, rfl, hs, fun b n => ?_⟩
    have e : HT.sIx xs.length 0 lo = HT.sIx bs.length 0 lo := by rw [rx.len]
    have e2 : HT.sIx xs.length xs.length hi = HT.sIx bs.length bs.length hi := by rw [rx.len]
    obtain ⟨s, c⟩ := el_make (vs := vs) (as := as) (bs := cutA bs lo hi) (xs := cutV xs lo hi) ⟨ps, I1, by unfold cutA cutV; rw [e, e2]; exact (rx.drop _).take _⟩ n
    exact q _ ω3 b _ hp s c
theorem eg_slT {tl th : TO} (h : EG H0 te δ ω fun a ω1 => EO H0 tl δ ω1 fun lo ω2 => EO H0 th δ ω2 fun hi ω3 => ∃ ds, Tpl a ds ∧ ¬ (HT.sIx ds.length 0 lo = 0 ∧ HT.sIx ds.length ds.length hi = ds.length) ∧ P (.dat (.tuple (cutA ds lo hi))) ω3) : EG H0 (tSl (rSlU K) te tl th) δ ω P := fun σ H vs as S Q q =>
  h σ H vs as S _ fun a ω1 x H1 h1 S1 => h1 σ H1 _ _ S1 _ fun lo ω2 H2 h2 S2 => h2 σ H2 _ _ S2 _ fun hi ω3 H3 ⟨ds, it, hw, hp⟩ S3 => by
    obtain ⟨ps, I⟩ := S3
    obtain ⟨r, I1⟩ := I.pop
    obtain ⟨p, xs, rfl, hs, rx⟩ := it.get I1 r
    have e : HT.sIx xs.length 0 lo = HT.sIx ds.length 0 lo := by rw [rx.len]
    have e2 : HT.sIx xs.length xs.length hi = HT.sIx ds.length ds.length hi := by rw [rx.len]
    refine .inr (.inl ⟨p, xs, rfl, SqT.of hs, by rw [e, e2, rx.len]; exact hw, fun b n => ?_⟩)
    have r2 : RvA ps H0 H3 ((cutA ds lo hi).map .dat) (cutV xs lo hi) := by
      have h0 := RvA.of_dats rx
      unfold cutA cutV
      rw [e, e2, List.map_take, List.map_drop]
      exact (h0.drop _).take _
    exact q _ ω3 _ _ hp (Sta.tuple (vs := vs) (as := as) (ds := cutA ds lo hi) ⟨ps, { I1 with stk := r2.append I1.stk }⟩ (by simpa using r2.len) n)
theorem eg_slS {tl th : TO} (h : EG H0 te δ ω fun a ω1 => EO H0 tl δ ω1 fun lo ω2 => EO H0 th δ ω2 fun hi ω3 => ∃ z, a = .dat (.str z) ∧ z.length ≤ sizeLine ∧ P (.dat (.str (cutS z lo hi))) ω3) : EG H0 (tSl (rSlU K) te tl th) δ ω P := fun σ H vs as S Q q =>
  h σ H vs as S _ fun a ω1 x H1 h1 S1 => h1 σ H1 _ _ S1 _ fun lo ω2 H2 h2 S2 => h2 σ H2 _ _ S2 _ fun hi ω3 H3 ⟨z, e, hz, hp⟩ S3 => by
    subst e
    obtain ⟨ps, I⟩ := S3
    obtain ⟨r, I1⟩ := I.pop
    cases (show Rp _ _ _ from r)
    exact .inr (.inr ⟨z, rfl, hz, q _ _ _ H3 hp (Sta.flat ⟨ps, I1⟩ (fl_str _))⟩)

/-! ### built-ins -/
theorem ec_len {a : A} {bs : List A} (h : Itm K H0 ω a bs) (p : P (.dat (.int (bs.length : Nat))) ω) : EC H0 (rLenU K) [a] δ ω P := fun σ H vs us as hl S Q q => by
  match us, hl with
  | [u], _ =>
    obtain ⟨ps, I⟩ := S
    obtain ⟨r, I1⟩ := I.pop
    obtain ⟨b, xs, rfl, hs, rx, _⟩ := h.get I1 r
    exact .inl ⟨_, bs.length, rfl, .inl ⟨xs, hs, rx.len.symm⟩, q _ _ _ H p (Sta.flat ⟨ps, I1⟩ (fl_int _))⟩
theorem ec_lenT {a : A} {ds : List PyData} (h : Tpl a ds) (p : P (.dat (.int (ds.length : Nat))) ω) : EC H0 (rLenU K) [a] δ ω P := fun σ H vs us as hl S Q q => by
  match us, hl with
  | [u], _ =>
    obtain ⟨ps, I⟩ := S
    obtain ⟨r, I1⟩ := I.pop
    obtain ⟨b, xs, rfl, hs, rx⟩ := h.get I1 r
    exact .inl ⟨_, ds.length, rfl, .inr ⟨xs, SqT.of hs, rx.len.symm⟩, q _ _ _ H p (Sta.flat ⟨ps, I1⟩ (fl_int _))⟩
theorem ec_lenS {z : Str} (hz : z.length ≤ sizeLine) (p : P (.dat (.int (z.length : Nat))) ω) : EC H0 (rLenU K) [.dat (.str z)] δ ω P := fun σ H vs us as hl S Q q => by
  match us, hl with
  | [u], _ =>
    obtain ⟨ps, I⟩ := S
    obtain ⟨r, I1⟩ := I.pop
    cases (show Rp _ _ _ from r)
    exact .inl ⟨_, z.length, rfl, ⟨hz, rfl⟩, q _ _ _ H p (Sta.flat ⟨ps, I1⟩ (fl_int _))⟩
theorem ec_lenD {k : Nat} {kvs : List (Key × V)} (h : ω[k]? = some (.dic kvs)) (p : P (.dat (.int (kvs.length : Nat))) ω) : EC H0 (rLenU K) [.ptr k] δ ω P := fun σ H vs us as hl S Q q => by
  match us, hl with
  | [u], _ =>
    obtain ⟨ps, I⟩ := S
    obtain ⟨⟨b, h1, e⟩, I1⟩ := I.pop
    obtain ⟨b', h2, h3⟩ := I1.atD h
    rw [h1] at h2
    cases h2
    subst e
    exact .inr ⟨b, kvs, rfl, h3, q _ _ _ H p (Sta.flat ⟨ps, I1⟩ (fl_int _))⟩
theorem ecl_list {a : A} {bs : List A} {P : List A → Om → Prop} (h : Itm K H0 ω a bs) (p : P bs ω) : ECL H0 (rListU K) [a] δ ω P := fun σ H vs us as hl S Q q => by
  match us, hl with
  | [u], _ =>
    obtain ⟨ps, I⟩ := S
    obtain ⟨r, I1⟩ := I.pop
    obtain ⟨b, xs, rfl, hs, rx, _⟩ := h.get I1 r
    refine .inl ⟨b, xs, rfl, .inl hs, fun l n => ?_⟩
    obtain ⟨s, c⟩ := el_make (vs := vs) (as := as) ⟨ps, I1, rx⟩ n
    exact q _ ω l _ p s c
/-- the keys of a dict of ints -/
theorem ecl_listD {k : Nat} {kvs : List (Int × Int)} {P : List A → Om → Prop} (h : ω[k]? = some (.dic (kvs.map fun e => (Sum.inl e.1, V.int e.2)))) (p : P (kvs.map fun e => .dat (.int e.1)) ω) : ECL H0 (rListU K) [.ptr k] δ ω P := fun σ H vs us as hl S Q q => by
  match us, hl with
  | [u], _ =>
    obtain ⟨ps, I⟩ := S
    obtain ⟨⟨b, h1, e⟩, I1⟩ := I.pop
    obtain ⟨b', h2, h3⟩ := I1.atD h
    rw [h1] at h2
    cases h2
    subst e
    refine .inr ⟨b, _, rfl, h3, fun l n => ?_⟩
    have e2 : ((kvs.map fun e => ((Sum.inl e.1 : Key), V.int e.2)).map fun kv => kV kv.1) = (kvs.map (·.1)).map V.int := by
      rw [List.map_map, List.map_map]; rfl
    have e3 : (kvs.map fun e => A.dat (.int e.1)) = (kvs.map (·.1)).map fun n => A.dat (.int n) := by
      rw [List.map_map]; rfl
    obtain ⟨s, c⟩ := el_make (vs := vs) (as := as) (bs := kvs.map fun e => .dat (.int e.1)) (xs := (kvs.map fun e => ((Sum.inl e.1 : Key), V.int e.2)).map fun kv => kV kv.1) ⟨ps, I1, by rw [e2, e3]; exact rva_ints _⟩ n
    exact q _ ω l _ p s c
theorem ec_intB {b : Bool} (p : P (.dat (.int (if b then 1 else 0))) ω) : EC H0 (fun xs H Q => (∃ i, xs = [.int i] ∧ Q (.int i) H) ∨ ∃ k, xs = [.bl k] ∧ Q (.int (if k then 1 else 0)) H) [.dat (.bool b)] δ ω P := fun σ H vs us as hl S Q q => by
  match us, hl with
  | [u], _ =>
    obtain ⟨ps, I⟩ := S
    obtain ⟨r, I1⟩ := I.pop
    cases (show Rp _ _ _ from r)
    exact .inr ⟨b, rfl, q _ _ _ H p (Sta.flat ⟨ps, I1⟩ (fl_int _))⟩
def rMin2 : List V → Hp → VK → Prop := fun xs H Q => ∃ i j, xs = [.int i, .int j] ∧ Q (.int (if j < i then j else i)) H
def rMax2 : List V → Hp → VK → Prop := fun xs H Q => ∃ i j, xs = [.int i, .int j] ∧ Q (.int (if j > i then j else i)) H
theorem ec_min {i j : Int} (p : P (.dat (.int (if j < i then j else i))) ω) : EC H0 rMin2 [.dat (.int i), .dat (.int j)] δ ω P := fun σ H vs us as hl S Q q => by
  match us, hl with
  | [u, v], _ =>
    obtain ⟨ps, I⟩ := S
    obtain ⟨r, I1⟩ := I.pop
    obtain ⟨r2, I2⟩ := I1.pop
    cases (show Rp _ _ _ from r)
    cases (show Rp _ _ _ from r2)
    exact ⟨i, j, rfl, q _ _ _ H p (Sta.flat ⟨ps, I2⟩ (fl_int _))⟩
theorem ec_max {i j : Int} (p : P (.dat (.int (if j > i then j else i))) ω) : EC H0 rMax2 [.dat (.int i), .dat (.int j)] δ ω P := fun σ H vs us as hl S Q q => by
  match us, hl with
  | [u, v], _ =>
    obtain ⟨ps, I⟩ := S
    obtain ⟨r, I1⟩ := I.pop
    obtain ⟨r2, I2⟩ := I1.pop
    cases (show Rp _ _ _ from r)
    cases (show Rp _ _ _ from r2)
    exact ⟨i, j, rfl, q _ _ _ H p (Sta.flat ⟨ps, I2⟩ (fl_int _))⟩
theorem rvA_int {ps : List (Option Addr)} {H0 H : Hp} : ∀ {ns : List Int} {vs : List V}, RvA ps H0 H (ns.map fun n => .dat (.int n)) vs → vs = ns.map V.int
  | [], _, h => by cases h; rfl
  | n :: ns, _, h => by
    cases h with
    | cons h t =>
      cases (show Rp _ _ _ from h)
      rw [rvA_int t]; rfl
theorem ec_sum {a : A} {ns : List Int} (h : Itm K H0 ω a (ns.map fun n => .dat (.int n))) (p : P (.dat (.int ns.sum)) ω) : EC H0 (rSum K) [a] δ ω P := fun σ H vs us as hl S Q q => by
  match us, hl with
  | [u], _ =>
    obtain ⟨ps, I⟩ := S
    obtain ⟨r, I1⟩ := I.pop
    obtain ⟨b, xs, rfl, hs, rx, _⟩ := h.get I1 r
    rw [rvA_int rx] at hs
    exact ⟨b, ns, rfl, hs, q _ _ _ H p (Sta.flat ⟨ps, I1⟩ (fl_int _))⟩
def tyN : PyData → String
  | .none => "NoneType"
  | .bool _ => "bool"
  | .int _ => "int"
  | .str _ => "str"
  | .list _ => "list"
  | .tuple _ => "tuple"
  | .dict _ => "dict"
theorem ty_of {H : Hp} {v : V} {d : PyData} (r : Rp H v d) : TyX K H v (.type (tyN d)) := by
  cases r with
  | non => exact .base .non
  | bl b => exact .base (.bl b)
  | int i => exact .base (.int i)
  | str x => exact .base (.str x)
  | lst h _ => exact .base (.lst h)
  | tup h _ => exact .base (.tup h)
theorem ec_isi {a : A} {d : PyData} {n : String} {b : Bool} (h : Rd ω a d) (k : kitB (tyN d) n = some b) (p : P (.dat (.bool b)) ω) : EC H0 (rIsi K) [a, .raw (.ty n)] δ ω P := fun σ H vs us as hl S Q q => by
  match us, hl with
  | [u, v], _ =>
    obtain ⟨ps, I⟩ := S
    obtain ⟨r, I1⟩ := I.pop
    obtain ⟨r2, I2⟩ := I1.pop
    have e : v = .ty n := r2
    subst e
    exact ⟨u, .ty n, _, _, b, rfl, .ty n, ty_of (h.rp I2 d r), kit_ty k, q _ _ _ H p (Sta.flat ⟨ps, I2⟩ (fl_bl _))⟩
theorem all_flat_int (ns : List Int) : (ns.map V.int).all flatV = true := by
  rw [List.all_map]
  exact List.all_eq_true.mpr fun _ _ => rfl
theorem inV_int (i : Int) (ns : List Int) : inV (.int i) (ns.map V.int) = decide (i ∈ ns) := by
  unfold inV
  rw [List.any_map, Bool.eq_iff_iff, List.any_eq_true, decide_eq_true_eq]
  constructor
  · rintro ⟨x, hx, e⟩
    have e2 : (x == i) = true := e
    rw [beq_iff_eq] at e2
    exact e2 ▸ hx
  · intro h
    exact ⟨i, h, show (i == i) = true from beq_self_eq_true i⟩
theorem eb_in {a : A} {i : Int} {ns : List Int} (h : Itm K H0 ω a (ns.map fun n => .dat (.int n))) (p : P (.dat (.bool (decide (i ∈ ns)))) ω) : EB H0 (rInU K) (.dat (.int i)) a δ ω P := EB.inl fun σ H vs as x y S Q q => by
  obtain ⟨ps, I⟩ := S
  obtain ⟨r1, I1⟩ := I.pop
  obtain ⟨r2, I2⟩ := I1.pop
  cases (show Rp _ _ _ from r2)
  obtain ⟨b, xs, rfl, hs, rx, _⟩ := h.get I2 r1
  have e := rvA_int rx
  subst e
  refine ⟨b, _, rfl, .inl hs, rfl, all_flat_int ns, ?_⟩
  show Q (.bl (inV (.int i) (ns.map V.int))) H
  rw [inV_int]
  exact q _ _ _ H p (Sta.flat ⟨ps, I2⟩ (fl_bl _))
theorem eb_notIn {a : A} {i : Int} {ns : List Int} (h : Itm K H0 ω a (ns.map fun n => .dat (.int n))) (p : P (.dat (.bool (!decide (i ∈ ns)))) ω) : EB H0 (rNotInU K) (.dat (.int i)) a δ ω P := EB.inl fun σ H vs as x y S Q q => by
  obtain ⟨ps, I⟩ := S
  obtain ⟨r1, I1⟩ := I.pop
  obtain ⟨r2, I2⟩ := I1.pop
  cases (show Rp _ _ _ from r2)
  obtain ⟨b, xs, rfl, hs, rx, _⟩ := h.get I2 r1
  have e := rvA_int rx
  subst e
  refine ⟨b, _, rfl, .inl hs, rfl, all_flat_int ns, ?_⟩
  show Q (.bl (!inV (.int i) (ns.map V.int))) H
  rw [inV_int]
  exact q _ _ _ H p (Sta.flat ⟨ps, I2⟩ (fl_bl _))
theorem eb_notInD {a b : A} {d : PyData} {ds : List PyData} (ha : Rd ω a d) (hb : Rd ω b (.list ds)) (sa : SeqAt.shaped d = true) (sb : SeqAt.shaped (.list ds) = true) (p : P (.dat (.bool (!ds.any fun z => PyData.eqv z d))) ω) : EB H0 (rNotInU K) a b δ ω P := EB.inr fun σ H vs as x y S Q q => by
  obtain ⟨ps, I⟩ := S
  obtain ⟨r1, I1⟩ := I.pop
  obtain ⟨r2, I2⟩ := I1.pop
  exact ⟨d, ds, Rp.dp d x (ha.rp I2 d r2), Rp.dp _ y (hb.rp I2 _ r1), sa, sb, q _ _ _ H p (Sta.flat ⟨ps, I2⟩ (fl_bl _))⟩
/-- list(range(n)) -/
theorem el_rng {P : List A → Om → Prop} (h : EG H0 te δ ω fun a ω1 => ∃ n : Nat, a = .dat (.int n) ∧ n ≤ 16777216 ∧ P ((List.range n).map fun i => .dat (.int (i : Nat))) ω1) : EL H0 (tLstRg (tRg1 te)) δ ω P := fun σ H vs as S Q q =>
  h σ H vs as S _ fun a ω1 x H1 ⟨n, e, hn, hp⟩ S1 => by
    subst e
    obtain ⟨ps, I⟩ := S1
    obtain ⟨r, I1⟩ := I.pop
    cases (show Rp _ _ _ from r)
    refine ⟨n, rfl, RgOk.of_le (by omega) (by omega) (by omega) (by omega), fun b hb => ?_⟩
    have e1 : rgV 0 (n : Int) = ((List.range n).map fun i => ((i : Nat) : Int)).map V.int := by
      unfold rgV
      rw [List.map_map, show ((n : Int) - 0).toNat = n by omega]
      refine List.map_congr_left fun i _ => ?_
      show V.int (0 + (i : Int)) = V.int i
      rw [Int.zero_add]
    have e2 : ((List.range n).map fun i => A.dat (.int (i : Nat))) = ((List.range n).map fun i => ((i : Nat) : Int)).map fun n => A.dat (.int n) := by rw [List.map_map]; rfl
    rw [e1]
    obtain ⟨s, c⟩ := el_make (vs := vs) (as := as) (bs := (List.range n).map fun i => A.dat (.int (i : Nat))) ⟨ps, I1, by rw [e2]; exact rva_ints _⟩ hb
    exact q _ ω1 b _ hp s c

/-! ### tests -/
theorem et_test {P : Bool → Om → Prop} (h : EG H0 te δ ω fun a ω1 => ∃ b, a = .dat (.bool b) ∧ P b ω1) : ET H0 (tTest te) δ ω P := fun σ H vs as S Q q =>
  h σ H vs as S _ fun a ω1 x H1 ⟨b, e, hp⟩ S1 => by
    subst e
    obtain ⟨ps, I⟩ := S1
    obtain ⟨r, I1⟩ := I.pop
    cases (show Rp _ _ _ from r)
    exact ⟨b, rfl, q b ω1 H1 hp ⟨ps, I1⟩⟩
theorem et_B {P : Bool → Om → Prop} (h : EG H0 te δ ω fun a ω1 => ∃ b, a = .dat (.bool b) ∧ P b ω1) : ET H0 (tB te) δ ω P := et_test h
theorem et_not {t : TT} {P : Bool → Om → Prop} (h : ET H0 t δ ω fun b ω1 => P (!b) ω1) : ET H0 (tNot t) δ ω P := fun σ H vs as S Q q => h σ H vs as S _ fun b ω1 H1 hp S1 => q _ ω1 H1 hp S1
theorem et_and {t u : TT} {P : Bool → Om → Prop} (h : ET H0 t δ ω fun b ω1 => if b = true then ET H0 u δ ω1 P else P false ω1) : ET H0 (tAnd t u) δ ω P := fun σ H vs as S Q q => h σ H vs as S _ fun b ω1 H1 hp S1 => by
  cases b with
  | true => exact iteT ((show ET H0 u δ ω1 P from hp) σ H1 vs as S1 Q q)
  | false => exact iteF (q false ω1 H1 hp S1)
theorem et_or {t u : TT} {P : Bool → Om → Prop} (h : ET H0 t δ ω fun b ω1 => if b = true then P true ω1 else ET H0 u δ ω1 P) : ET H0 (tOr t u) δ ω P := fun σ H vs as S Q q => h σ H vs as S _ fun b ω1 H1 hp S1 => by
  cases b with
  | true => exact iteT (q true ω1 H1 hp S1)
  | false => exact iteF ((show ET H0 u δ ω1 P from hp) σ H1 vs as S1 Q q)
theorem et_yes {P : Bool → Om → Prop} (p : P true ω) : ET H0 tYes δ ω P := fun σ H vs as S Q q => q true ω H p S
theorem eg_and (h : EG H0 ta δ ω fun a ω1 => ∃ b, a = .dat (.bool b) ∧ if b = true then EG H0 tb δ ω1 P else P (.dat (.bool false)) ω1) : EG H0 (tAndV ta tb) δ ω P := fun σ H vs as S Q q =>
  h σ H vs as S _ fun a ω1 x H1 ⟨b, e, hp⟩ S1 => by
    subst e
    obtain ⟨ps, I⟩ := S1
    obtain ⟨r, I1⟩ := I.pop
    cases (show Rp _ _ _ from r)
    refine ⟨b, rfl, ?_⟩
    cases b with
    | true => exact iteT ((show EG H0 tb δ ω1 P from hp) σ H1 vs as ⟨ps, I1⟩ Q q)
    | false => exact iteF (q _ ω1 _ H1 hp (Sta.flat ⟨ps, I1⟩ (fl_bl _)))
theorem eg_or (h : EG H0 ta δ ω fun a ω1 => ∃ b, a = .dat (.bool b) ∧ if b = true then P (.dat (.bool true)) ω1 else EG H0 tb δ ω1 P) : EG H0 (tOrV ta tb) δ ω P := fun σ H vs as S Q q =>
  h σ H vs as S _ fun a ω1 x H1 ⟨b, e, hp⟩ S1 => by
    subst e
    obtain ⟨ps, I⟩ := S1
    obtain ⟨r, I1⟩ := I.pop
    cases (show Rp _ _ _ from r)
    refine ⟨b, rfl, ?_⟩
    cases b with
    | true => exact iteT (q _ ω1 _ H1 hp (Sta.flat ⟨ps, I1⟩ (fl_bl _)))
    | false => exact iteF ((show EG H0 tb δ ω1 P from hp) σ H1 vs as ⟨ps, I1⟩ Q q)
theorem eg_not (h : EG H0 ta δ ω fun a ω1 => ∃ b, a = .dat (.bool b) ∧ P (.dat (.bool (!b))) ω1) : EG H0 (tNotV ta) δ ω P := fun σ H vs as S Q q =>
  h σ H vs as S _ fun a ω1 x H1 ⟨b, e, hp⟩ S1 => by
    subst e
    obtain ⟨ps, I⟩ := S1
    obtain ⟨r, I1⟩ := I.pop
    cases (show Rp _ _ _ from r)
    exact ⟨b, rfl, q _ ω1 _ H1 hp (Sta.flat ⟨ps, I1⟩ (fl_bl _))⟩
end
end Y

/-! Lay4: statements, loops, comprehensions, calls, a def's body. -/
namespace Y
open PySem PySem.Spec L2

/-! ### statements -/
structure Post where
  nx : Sl → Om → Prop
  rt : A → Om → Prop
  bk : Sl → Om → Prop := fun _ _ => False
  ct : Sl → Om → Prop := fun _ _ => False
structure Cov (H0 : Hp) (vs : List V) (as : List A) (D : Ends) (P : Post) : Prop where
  nx : ∀ δ ω σ H, P.nx δ ω → Sta H0 σ H vs δ ω as → D.nx σ H
  rt : ∀ a δ ω v σ H, P.rt a ω → Sta H0 σ H (v :: vs) δ ω (a :: as) → D.rt v H
  bk : ∀ δ ω σ H, P.bk δ ω → Sta H0 σ H vs δ ω as → D.bk σ H
  ct : ∀ δ ω σ H, P.ct δ ω → Sta H0 σ H vs δ ω as → D.ct σ H
def SX (H0 : Hp) (ts : TS) (δ : Sl) (ω : Om) (P : Post) : Prop := ∀ (σ : L2.St) (H : Hp) (vs : List V) (as : List A), Sta H0 σ H vs δ ω as → ∀ D : Ends, Cov H0 vs as D P → ts D σ H
/-- a target takes a value -/
def GX (H0 : Hp) (g : TG) (c : A) (δ : Sl) (ω : Om) (δ' : Sl) : Prop := ∀ (σ : L2.St) (H : Hp) (vs : List V) (as : List A) (x : V), Sta H0 σ H (x :: vs) δ ω (c :: as) → ∀ Q : L2.St → Hp → Prop, (∀ σ' H', Sta H0 σ' H' vs δ' ω as → Q σ' H') → g x σ H Q

section
variable {K : PySem.W.Frag} {H0 : Hp} {δ : Sl} {ω : Om} {P : Post} {te ta tb : TE} {t u : TS}
theorem Sta.set {σ : L2.St} {H : Hp} {vs : List V} {as : List A} {c : A} {x : V} (i : Nat) (S : Sta H0 σ H (x :: vs) δ ω (c :: as)) : Sta H0 (σ.set i (some x)) H vs (δ.set i (some c)) ω as := by
  obtain ⟨ps, I⟩ := S
  obtain ⟨r, I1⟩ := I.pop
  refine ⟨ps, { I1 with sl := by rw [List.length_set, List.length_set]; exact I1.sl, slot := fun j a h => ?_ }⟩
  by_cases hj : i = j
  · subst hj
    have hi : i < δ.length := by
      have := (List.getElem?_eq_some_iff.mp h).1
      simpa using this
    rw [List.getElem?_set_self hi] at h
    cases h
    exact ⟨x, List.getElem?_set_self (by rw [I1.sl]; exact hi), r⟩
  · rw [List.getElem?_set_ne hj] at h
    rw [List.getElem?_set_ne hj]
    exact I1.slot j a h
theorem gx_name {i : Nat} {c : A} : GX H0 (gName i) c δ ω (δ.set i (some c)) := fun σ H vs as x S Q q => q _ _ (S.set i)
/-- a tuple of data comes apart -/
theorem Sta.apart {σ : L2.St} {H : Hp} {vs : List V} {as : List A} {x : V} {ds : List PyData} (S : Sta H0 σ H (x :: vs) δ ω (.dat (.tuple ds) :: as)) : ∃ p xs, x = .ref p ∧ H p = some (.tup xs) ∧ xs.length = ds.length ∧ Sta H0 σ H (xs ++ vs) δ ω (ds.map .dat ++ as) := by
  obtain ⟨ps, I⟩ := S
  obtain ⟨r, I1⟩ := I.pop
  cases (show Rp _ _ _ from r) with
  | tup h1 h2 => exact ⟨_, _, rfl, vis_sub I1.old _ _ h1, h2.len, ps, { I1 with stk := (RvA.of_dats h2).append I1.stk }⟩
theorem gx_tup2 {i j : Nat} {d e : PyData} : GX H0 (gTup K 2 (gCons (gName i) (gCons (gName j) gNil))) (.dat (.tuple [d, e])) δ ω ((δ.set i (some (.dat d))).set j (some (.dat e))) := fun σ H vs as x S Q q => by
  obtain ⟨p, xs, rfl, hp, hl, S1⟩ := S.apart
  match xs, hl with
  | [y, z], _ =>
    refine ⟨p, [y, z], rfl, SqT.of hp, rfl, y, [z], rfl, z, [], rfl, rfl, q _ _ ?_⟩
    exact Sta.set j (Sta.set i S1)
theorem sx_next (p : P.nx δ ω) : SX H0 tNext δ ω P := fun σ H vs as S D c => c.nx δ ω σ H p S
theorem sx_seq (h : SX H0 t δ ω { P with nx := fun δ' ω' => SX H0 u δ' ω' P }) : SX H0 (tSeq t u) δ ω P := fun σ H vs as S D c =>
  h σ H vs as S _ ⟨fun δ' ω' σ' H' p S' => p σ' H' vs as S' D c, c.rt, c.bk, c.ct⟩
theorem sx_asgG {g : TG} (h : EG H0 te δ ω fun a ω1 => ∃ δ', GX H0 g a δ ω1 δ' ∧ P.nx δ' ω1) : SX H0 (tAsg te g) δ ω P := fun σ H vs as S D c =>
  h σ H vs as S _ fun a ω1 x H1 ⟨δ', hg, hp⟩ S1 => hg σ H1 vs as x S1 _ fun σ' H' S2 => c.nx _ _ _ _ hp S2
theorem sx_asg {i : Nat} (h : EG H0 te δ ω fun a ω1 => P.nx (δ.set i (some a)) ω1) : SX H0 (tAsg te (gName i)) δ ω P := sx_asgG (h.imp fun a ω1 p => ⟨_, gx_name, p⟩)
theorem sx_if {tc : TT} (h : ET H0 tc δ ω fun b ω1 => (b = true → SX H0 t δ ω1 P) ∧ (b = false → SX H0 u δ ω1 P)) : SX H0 (tIfS tc t u) δ ω P := fun σ H vs as S D c =>
  h σ H vs as S _ fun b ω1 H1 ⟨h1, h2⟩ S1 => by
    cases b with
    | true => exact iteT (h1 rfl σ H1 vs as S1 D c)
    | false => exact iteF (h2 rfl σ H1 vs as S1 D c)
theorem sx_ret (h : EG H0 te δ ω P.rt) : SX H0 (tRet te) δ ω P := fun σ H vs as S D c => h σ H vs as S _ fun a ω1 v H1 hp S1 => c.rt a δ ω1 v σ H1 hp S1
theorem sx_retN (p : P.rt (.dat .none) ω) : SX H0 tRetN δ ω P := fun σ H vs as S D c => c.rt _ δ ω .non σ H p (S.flat fl_non)
theorem sx_drop (h : EG H0 te δ ω fun _ ω1 => P.nx δ ω1) : SX H0 (tDrop te) δ ω P := fun σ H vs as S D c => h σ H vs as S _ fun a ω1 v H1 hp S1 => c.nx _ _ _ _ hp S1.pop
theorem sx_exit {E : XK} {c : Value} (h : ∀ H', Same H0 H' → E c none H') : SX H0 (fun _ _ H => E c none H) δ ω P := fun σ H vs as S D _ => h H S.old
theorem sx_never (h : False) : SX H0 t δ ω P := h.elim
/-- an owned list is written -/
theorem Sta.write {σ : L2.St} {H : Hp} {vs xs : List V} {as bs : List A} {k : Nat} {p : Addr} (S : ∃ ps, Inn H0 ps σ H vs δ ω as ∧ ps[k]? = some (some p) ∧ RvA ps H0 H bs xs) (hk : k < ω.length) : Sta H0 σ (upd H p (.lst xs)) vs δ (ω.set k (.lst bs)) as := by
  obtain ⟨ps, I, hp, r⟩ := S
  exact ⟨ps, I.change hp hk (o := .lst bs) (ho := .lst xs) r (fun _ z => by cases z)⟩
theorem sx_app {to : TE} {ts : TA} (h : EG H0 to δ ω fun a ω1 => ∃ k cs0, a = .ptr k ∧ ω1[k]? = some (.lst cs0) ∧ EA H0 ts δ ω1 fun bs ω2 => ∃ b cs, bs = [b] ∧ ω2[k]? = some (.lst cs) ∧ cs.length < sizeLine ∧ P.nx δ (ω2.set k (.lst (cs ++ [b])))) : SX H0 (tDrop (tBM K "list" rAppend to ts)) δ ω P := fun σ H vs as S D c =>
  h σ H vs as S _ fun a ω1 x H1 ⟨k, cs0, e, h00, h1⟩ S1 => by
    subst e
    have h0 := h1 σ H1 _ _ S1
    obtain ⟨ps, I⟩ := S1
    obtain ⟨⟨p, hp, rfl⟩, I1⟩ := I.pop
    obtain ⟨p', ys, hp', hy, _⟩ := I1.at_ h00
    rw [hp] at hp'
    cases hp'
    exact ⟨.inl ⟨rfl, ys, SqL.of hy⟩, h0 _ fun bs ω2 us H2 ⟨b, cs, e, hc, hz, hp2⟩ hl S2 => by
      subst e
      match us, hl with
      | [y], _ =>
        obtain ⟨ps2, J⟩ := S2
        obtain ⟨ry, J1⟩ := J.pop
        obtain ⟨⟨p2, hq, e2⟩, J2⟩ := J1.pop
        cases e2
        obtain ⟨p3, xs, h3, h4, h5⟩ := J2.at_ hc
        rw [hq] at h3
        cases h3
        refine ⟨p, xs, y, rfl, rfl, h4, by rw [h5.len]; exact hz, c.nx _ _ _ _ hp2 ?_⟩
        exact Sta.write ⟨ps2, J2, hq, h5.append (.cons ry .nil)⟩ (List.getElem?_eq_some_iff.mp hc).1⟩
theorem sx_clear {to : TE} (h : EG H0 to δ ω fun a ω1 => ∃ k cs0, a = .ptr k ∧ ω1[k]? = some (.lst cs0) ∧ P.nx δ (ω1.set k (.lst []))) : SX H0 (tDrop (tBM0 K "list" rClear to)) δ ω P := fun σ H vs as S D c =>
  h σ H vs as S _ fun a ω1 x H1 ⟨k, cs0, e, h00, hp2⟩ S1 => by
    subst e
    obtain ⟨ps, I⟩ := S1
    obtain ⟨⟨p, hp, rfl⟩, I1⟩ := I.pop
    obtain ⟨p', ys, hp', hy, _⟩ := I1.at_ h00
    rw [hp] at hp'
    cases hp'
    exact ⟨.inl ⟨rfl, ys, SqL.of hy⟩, p, ys, rfl, rfl, hy, c.nx _ _ _ _ hp2 (Sta.write ⟨ps, I1, hp, .nil⟩ (List.getElem?_eq_some_iff.mp h00).1)⟩
theorem sx_setL {to ti : TE} (h : EG H0 te δ ω fun a ω1 => EG H0 to δ ω1 fun o ω2 => EG H0 ti δ ω2 fun i ω3 => ∃ k z j cs, o = .ptr k ∧ i = .dat (.int z) ∧ ω3[k]? = some (.lst cs) ∧ ixN cs.length z = some j ∧ P.nx δ (ω3.set k (.lst (cs.set j a)))) : SX H0 (tAsg te (gSub to ti rSetL)) δ ω P := fun σ H vs as S D c =>
  h σ H vs as S _ fun a ω1 x H1 h1 S1 => h1 σ H1 _ _ S1 _ fun o ω2 y H2 h2 S2 => h2 σ H2 _ _ S2 _ fun i ω3 w H3 ⟨k, z, j, cs, e1, e2, hc, hj, hp⟩ S3 => by
    subst e1 e2
    obtain ⟨ps, I⟩ := S3
    obtain ⟨r1, I1⟩ := I.pop
    obtain ⟨⟨p, hk, e⟩, I2⟩ := I1.pop
    obtain ⟨r3, I3⟩ := I2.pop
    cases (show Rp _ _ _ from r1)
    subst e
    obtain ⟨p', xs, h3, h4, h5⟩ := I3.at_ hc
    rw [hk] at h3
    cases h3
    refine ⟨p, xs, z, j, rfl, rfl, h4, by rw [h5.len]; exact hj, c.nx _ _ _ _ hp ?_⟩
    exact Sta.write ⟨ps, I3, hk, h5.set r3 j⟩ (List.getElem?_eq_some_iff.mp hc).1
theorem sx_dput {td ty tv : TE} (h : EG H0 tv δ ω fun v ω1 => EG H0 td δ ω1 fun o ω2 => EG H0 ty δ ω2 fun y ω3 => ∃ k kvs i w, o = .ptr k ∧ y = .dat (.int i) ∧ v = .dat (.int w) ∧ ω3[k]? = some (.dic kvs) ∧ kvs.length < sizeLine ∧ P.nx δ (ω3.set k (.dic (putK kvs (Sum.inl i) (.int w))))) : SX H0 (sDPut td ty tv) δ ω P := fun σ H vs as S D c =>
  h σ H vs as S _ fun a ω1 x H1 h1 S1 => h1 σ H1 _ _ S1 _ fun o ω2 y H2 h2 S2 => h2 σ H2 _ _ S2 _ fun i ω3 w H3 ⟨k, kvs, i', w', e1, e2, e3, hc, hz, hp⟩ S3 => by
    subst e1 e2 e3
    obtain ⟨ps, I⟩ := S3
    obtain ⟨r1, I1⟩ := I.pop
    obtain ⟨⟨p, hk, e⟩, I2⟩ := I1.pop
    obtain ⟨r3, I3⟩ := I2.pop
    cases (show Rp _ _ _ from r1)
    cases (show Rp _ _ _ from r3)
    subst e
    obtain ⟨p', h3, h4⟩ := I3.atD hc
    rw [hk] at h3
    cases h3
    refine ⟨p, _, rfl, DPut.k (k := Sum.inl i') h4 hz, c.nx _ _ _ _ hp ?_⟩
    exact ⟨ps, I3.change hk (List.getElem?_eq_some_iff.mp hc).1 (o := .dic _) (ho := .dK _) rfl (fun _ z => by cases z)⟩
/-- a new dict -/
theorem eg_dnew {P : A → Om → Prop} (p : P (.ptr ω.length) (ω ++ [.dic []])) : EG H0 tDNewK δ ω P := fun σ H vs as S Q q b n => by
  obtain ⟨ps, I⟩ := S
  exact q _ _ _ _ p ⟨_, I.make n (o := .dic []) (ho := .dK []) rfl⟩
theorem eg_dget {td ty : TE} {P : A → Om → Prop} (h : EG H0 td δ ω fun o ω1 => EG H0 ty δ ω1 fun y ω2 => ∃ k kvs i w, o = .ptr k ∧ y = .dat (.int i) ∧ ω2[k]? = some (.dic kvs) ∧ valV kvs (Sum.inl i) = some (.int w) ∧ P (.dat (.int w)) ω2) : EG H0 (tDGet td ty) δ ω P := fun σ H vs as S Q q =>
  h σ H vs as S _ fun o ω1 x H1 h1 S1 => h1 σ H1 _ _ S1 _ fun y ω2 z H2 ⟨k, kvs, i, w, e1, e2, hc, hv, hp⟩ S2 => by
    subst e1 e2
    obtain ⟨ps, I⟩ := S2
    obtain ⟨r1, I1⟩ := I.pop
    obtain ⟨⟨p, hk, e⟩, I2⟩ := I1.pop
    cases (show Rp _ _ _ from r1)
    subst e
    obtain ⟨p', h3, h4⟩ := I2.atD hc
    rw [hk] at h3
    cases h3
    have g := DGet.k (k := Sum.inl i) h4
    rw [hv] at g
    exact ⟨p, .int w, rfl, g, q _ _ _ H2 hp (Sta.flat ⟨ps, I2⟩ (fl_int _))⟩
theorem eg_dnotin {td ty : TE} {P : A → Om → Prop} (h : EG H0 ty δ ω fun y ω1 => EG H0 td δ ω1 fun o ω2 => ∃ k kvs i, o = .ptr k ∧ y = .dat (.int i) ∧ ω2[k]? = some (.dic kvs) ∧ P (.dat (.bool (!(valV kvs (Sum.inl i)).isSome))) ω2) : EG H0 (tDNotIn ty td) δ ω P := fun σ H vs as S Q q =>
  h σ H vs as S _ fun o ω1 x H1 h1 S1 => h1 σ H1 _ _ S1 _ fun y ω2 z H2 ⟨k, kvs, i, e1, e2, hc, hp⟩ S2 => by
    subst e1 e2
    obtain ⟨ps, I⟩ := S2
    obtain ⟨⟨p, hk, e⟩, I1⟩ := I.pop
    obtain ⟨r1, I2⟩ := I1.pop
    cases (show Rp _ _ _ from r1)
    subst e
    obtain ⟨p', h3, h4⟩ := I2.atD hc
    rw [hk] at h3
    cases h3
    exact ⟨p, _, rfl, DGet.k (k := Sum.inl i) h4, q _ _ _ H2 hp (Sta.flat ⟨ps, I2⟩ (fl_bl _))⟩
theorem sx_while {tc : TT} (W : Nat → Sl → Om → Prop) (m0 : Nat) (h0 : W m0 δ ω)
    (hs : ∀ m δ ω, W m δ ω → ET H0 tc δ ω fun b ω1 => (b = true → SX H0 t δ ω1 { P with nx := fun δ' ω' => ∃ m', m' < m ∧ W m' δ' ω', ct := fun δ' ω' => ∃ m', m' < m ∧ W m' δ' ω', bk := P.nx }) ∧ (b = false → P.nx δ ω1)) : SX H0 (tWhile tc t) δ ω P := fun σ H vs as S D c => by
  refine ⟨fun m σ H => ∃ δ ω, W m δ ω ∧ Sta H0 σ H vs δ ω as, ⟨m0, δ, ω, h0, S⟩, ?_⟩
  rintro m σ H ⟨δ, ω, w, S⟩
  refine hs m δ ω w σ H vs as S _ fun b ω1 H1 ⟨h1, h2⟩ S1 => ?_
  cases b with
  | true =>
    refine iteT ⟨fun σ' H' => ∃ m', m' < m ∧ ∃ δ ω, W m' δ ω ∧ Sta H0 σ' H' vs δ ω as, fun σ' H' q => q, ?_⟩
    refine h1 rfl σ H1 vs as S1 _ ⟨fun δ' ω' σ' H' p S' => ?_, c.rt, fun δ' ω' σ' H' p S' => c.nx δ' ω' σ' H' p S', fun δ' ω' σ' H' p S' => ?_⟩
    · obtain ⟨m', hm, w'⟩ := p
      exact ⟨m', hm, δ', ω', w', S'⟩
    · obtain ⟨m', hm, w'⟩ := p
      exact ⟨m', hm, δ', ω', w', S'⟩
  | false => exact iteF (c.nx _ _ _ _ (h2 rfl) S1)

/-! ### what is walked -/
/-- J walks the items L, as long as kp holds of the owned objects; w, told by b, is kept meanwhile -/
def Walks (H0 : Hp) (J : It) (w : V) (b : A) (L : List A) (kp : Om → Prop) : Prop := ∀ (i : Nat) (σ' : L2.St) (H' : Hp) (vs : List V) (δ' : Sl) (ω' : Om) (as : List A), kp ω' → Sta H0 σ' H' (w :: vs) δ' ω' (b :: as) →
  (L.length ≤ i → J.stop i H') ∧ ∀ c, L[i]? = some c → J.go i H' ∧ ∀ x H'', J.yld i H' x H'' → Sta H0 σ' H'' (x :: w :: vs) δ' ω' (c :: b :: as)
def SR (H0 : Hp) (wi : TI) (δ : Sl) (ω : Om) (P : List A → (Om → Prop) → Om → Prop) : Prop := ∀ (σ : L2.St) (H : Hp) (vs : List V) (as : List A), Sta H0 σ H vs δ ω as → ∀ R : It → Hp → Prop,
  (∀ L kp ω1 J H1 w b, P L kp ω1 → Sta H0 σ H1 (w :: vs) δ ω1 (b :: as) → Walks H0 J w b L kp → R J H1) → wi σ H R
theorem list_stop {ps : List (Option Addr)} {σ : L2.St} {H : Hp} {vs : List V} {as bs : List A} {a : A} {p : Addr} (I : Inn H0 ps σ H (.ref p :: vs) δ ω (a :: as)) (h : Itm K H0 ω a bs) : ∃ xs, SqL K H p xs ∧ RvA ps H0 H bs xs := by
  obtain ⟨r, I1⟩ := I.pop
  obtain ⟨p', xs, e, hs, rx, _⟩ := h.get I1 r
  cases e
  exact ⟨xs, hs, rx⟩
theorem sr_list {P : List A → (Om → Prop) → Om → Prop} (h : EG H0 te δ ω fun a ω1 => ∃ L, Itm K H0 ω1 a L ∧ P L (fun ω' => Itm K H0 ω' a L) ω1) : SR H0 (iList K te) δ ω P := fun σ H vs as S R q =>
  h σ H vs as S _ fun a ω1 x H1 ⟨L, it, hp⟩ S1 => by
    have hx : ∃ p, x = .ref p ∧ ∃ xs, SqL K H1 p xs := by
      obtain ⟨ps, I⟩ := S1
      obtain ⟨r, I1⟩ := I.pop
      obtain ⟨p, xs, e, hs, _⟩ := it.get I1 r
      exact ⟨p, e, xs, hs⟩
    obtain ⟨p, rfl, xs, hs⟩ := hx
    refine ⟨p, rfl, ⟨xs, hs⟩, q _ _ ω1 _ H1 (.ref p) a hp S1 fun i σ' H' vs' δ' ω' as' kp S' => ?_⟩
    obtain ⟨ps', I'⟩ := S'
    obtain ⟨ys, hy, ry⟩ := list_stop I' kp
    refine ⟨fun hi => ⟨ys, hy, by rw [ry.len]; exact hi⟩, fun c hc => ?_⟩
    obtain ⟨u, hu, ru⟩ := ry.get hc
    refine ⟨⟨ys, u, hy, hu⟩, fun z H'' hz => ?_⟩
    obtain ⟨rfl, hz⟩ := hz
    have e := hz ys hy
    rw [hu] at e
    cases e
    exact ⟨ps', I'.push ru⟩
theorem sr_rng {ts : TA} {P : List A → (Om → Prop) → Om → Prop} (h : EA H0 ts δ ω fun bs ω1 => ∃ n : Nat, bs = [.dat (.int n)] ∧ n ≤ 16777216 ∧ P ((List.range n).map fun i => .dat (.int (i : Nat))) (fun _ => True) ω1) : SR H0 (iRng1 ts) δ ω P := fun σ H vs as S R q =>
  h σ H vs as S _ fun bs ω1 us H1 ⟨n, e, hn, hp⟩ hl S1 => by
    subst e
    match us, hl with
    | [u], _ =>
      obtain ⟨ps, I⟩ := S1
      obtain ⟨r, I1⟩ := I.pop
      cases (show Rp _ _ _ from r)
      refine ⟨n, rfl, by omega, by omega, q _ _ ω1 _ H1 .non (.dat .none) hp (Sta.flat ⟨ps, I1⟩ fl_non) fun i σ' H' vs' δ' ω' as' _ S' => ⟨fun hi => ?_, fun c hc => ?_⟩⟩
      · show ((n : Int)).toNat ≤ i
        simp at hi ⊢; omega
      · obtain ⟨hi, rfl⟩ : i < n ∧ c = .dat (.int (i : Nat)) := by
          have hl := (List.getElem?_eq_some_iff.mp hc).1
          have hn : i < n := by simpa using hl
          rw [List.getElem?_map, List.getElem?_range hn] at hc
          exact ⟨hn, (Option.some.inj hc).symm⟩
        refine ⟨show i < ((n : Int)).toNat by omega, fun z H'' hz => ?_⟩
        obtain ⟨rfl, rfl⟩ := hz
        rw [Int.zero_add]
        exact S'.flat (fl_int _)
/-- enumerate of a list of data: the pairs -/
def enA (ds : List PyData) : List A := ds.mapIdx fun i d => .dat (.tuple [.int (i : Nat), d])
theorem sr_enum {ts : TA} {P : List A → (Om → Prop) → Om → Prop} (h : EA H0 ts δ ω fun bs ω1 => ∃ a ds, bs = [a] ∧ Itm K H0 ω1 a (ds.map .dat) ∧ P (enA ds) (fun ω' => Itm K H0 ω' a (ds.map .dat)) ω1) : SR H0 (iEnum K ts) δ ω P := fun σ H vs as S R q =>
  h σ H vs as S _ fun bs ω1 us H1 ⟨a, ds, e, it, hp⟩ hl S1 => by
    subst e
    match us, hl with
    | [x], _ =>
      have hx : ∃ p, x = .ref p ∧ ∃ xs, SqL K H1 p xs := by
        obtain ⟨ps, I⟩ := S1
        obtain ⟨r, I1⟩ := I.pop
        obtain ⟨p, xs, e, hs, _⟩ := it.get I1 r
        exact ⟨p, e, xs, hs⟩
      obtain ⟨p, rfl, xs, hs⟩ := hx
      refine ⟨p, xs, rfl, hs, q _ _ ω1 _ H1 (.ref p) a hp S1 fun i σ' H' vs' δ' ω' as' kp S' => ?_⟩
      obtain ⟨ps', I'⟩ := S'
      obtain ⟨ys, hy, ry⟩ := list_stop I' kp
      refine ⟨fun hi => ⟨ys, hy, by rw [ry.len]; simpa [enA] using hi⟩, fun c hc => ?_⟩
      obtain ⟨d, hd, rfl⟩ : ∃ d, ds[i]? = some d ∧ c = .dat (.tuple [.int (i : Nat), d]) := by
        unfold enA at hc
        rw [List.getElem?_mapIdx] at hc
        cases e : ds[i]? with
        | none => rw [e] at hc; cases hc
        | some d => rw [e] at hc; exact ⟨d, rfl, (Option.some.inj hc).symm⟩
      obtain ⟨u, hu, ru⟩ := ry.get (a := .dat d) (i := i) (by rw [List.getElem?_map, hd]; rfl)
      refine ⟨⟨ys, u, hy, hu⟩, fun z H'' hz => ?_⟩
      obtain ⟨T, x, rfl, hT, rfl, hz⟩ := hz
      have e := hz ys hy
      rw [hu] at e
      cases e
      exact Sta.tuple (xs := [.int (i : Nat), u]) (vs := .ref p :: vs') (as := a :: as') (ds := [.int (i : Nat), d]) ⟨ps', { I' with stk := .cons (.int _) (.cons ru I'.stk) }⟩ rfl hT
theorem Sta.drop2 {σ : L2.St} {H : Hp} {x w : V} {vs : List V} {a b : A} {as : List A} (S : Sta H0 σ H (x :: w :: vs) δ ω (a :: b :: as)) : Sta H0 σ H (x :: vs) δ ω (a :: as) := by
  obtain ⟨ps, I⟩ := S
  obtain ⟨r, I1⟩ := I.pop
  exact ⟨ps, I1.pop.2.push r⟩
theorem Sta.swap {σ : L2.St} {H : Hp} {x w : V} {vs : List V} {a b : A} {as : List A} (S : Sta H0 σ H (x :: w :: vs) δ ω (a :: b :: as)) : Sta H0 σ H (w :: x :: vs) δ ω (b :: a :: as) := by
  obtain ⟨ps, I⟩ := S
  obtain ⟨r, I1⟩ := I.pop
  obtain ⟨r2, I2⟩ := I1.pop
  exact ⟨ps, (I2.push r).push r2⟩
/-- for: the invariant by the turn -/
theorem sx_for {wi : TI} {g : TG} (h : SR H0 wi δ ω fun L kp ω1 => ∃ I : Nat → Sl → Om → Prop, I 0 δ ω1 ∧ (∀ i δ ω, I i δ ω → kp ω) ∧
    (∀ i c δ ω, L[i]? = some c → I i δ ω → ∃ δ', GX H0 g c δ ω δ' ∧ SX H0 t δ' ω { P with nx := I (i + 1), ct := I (i + 1), bk := P.nx }) ∧ ∀ δ ω, I L.length δ ω → P.nx δ ω) : SX H0 (tFor wi g t) δ ω P := fun σ H vs as S D c =>
  h σ H vs as S _ fun L kp ω1 J H1 w b ⟨I, i0, ik, step, done⟩ S1 wk => by
    refine ⟨fun i m σ H => m = L.length - i ∧ i ≤ L.length ∧ ∃ δ ω, I i δ ω ∧ Sta H0 σ H (w :: vs) δ ω (b :: as), ⟨L.length, by simp, Nat.zero_le _, δ, ω1, i0, S1⟩, ?_⟩
    rintro i m σ' H' ⟨rfl, hi, δ', ω', hI, S'⟩
    obtain ⟨w1, w2⟩ := wk i σ' H' vs δ' ω' as (ik i δ' ω' hI) S'
    by_cases hlt : i < L.length
    · obtain ⟨go, yl⟩ := w2 L[i] (List.getElem?_eq_getElem hlt)
      refine .inr ⟨go, fun σ2 H2 => ∃ δ ω, I (i + 1) δ ω ∧ Sta H0 σ2 H2 (w :: vs) δ ω (b :: as), fun σ2 H2 ⟨δ2, ω2, h2, S2⟩ => ⟨L.length - (i + 1), by omega, rfl, hlt, δ2, ω2, h2, S2⟩, fun x H'' hy => ?_⟩
      obtain ⟨δ2, hg, hb⟩ := step i L[i] δ' ω' (List.getElem?_eq_getElem hlt) hI
      refine hg σ' H'' _ _ x (yl x H'' hy) _ fun σ3 H3 S3 => hb σ3 H3 _ _ S3 _ ⟨fun δ4 ω4 σ4 H4 p S4 => ⟨δ4, ω4, p, S4⟩, fun a δ4 ω4 v σ4 H4 p S4 => c.rt a δ4 ω4 v σ4 H4 p S4.drop2, fun δ4 ω4 σ4 H4 p S4 => c.nx δ4 ω4 σ4 H4 p S4.pop, fun δ4 ω4 σ4 H4 p S4 => ⟨δ4, ω4, p, S4⟩⟩
    · have e : i = L.length := by omega
      subst e
      exact .inl ⟨w1 (Nat.le_refl _), c.nx _ _ _ _ (done δ' ω' hI) S'.pop⟩
/-- the same, by what is behind -/
theorem sx_forP {α : Type} {xs : List α} {it : Nat → α → A} {wi : TI} {g : TG} (I : List α → Sl → Om → Prop) (h : SR H0 wi δ ω fun L kp ω1 => L = xs.mapIdx it ∧ I [] δ ω1 ∧ ∀ pre δ ω, I pre δ ω → kp ω)
    (step : ∀ pre x post δ ω, xs = pre ++ x :: post → I pre δ ω → ∃ δ', GX H0 g (it pre.length x) δ ω δ' ∧ SX H0 t δ' ω { P with nx := I (pre ++ [x]), ct := I (pre ++ [x]), bk := P.nx }) (done : ∀ δ ω, I xs δ ω → P.nx δ ω) : SX H0 (tFor wi g t) δ ω P :=
  sx_for fun σ H vs as S R q => h σ H vs as S R fun L kp ω1 J H1 w b ⟨e, i0, ik⟩ S1 wk => q L kp ω1 J H1 w b ⟨fun i => I (xs.take i), i0, fun i δ ω hI => ik _ δ ω hI, fun i c δ ω hc hI => by
    subst e
    rw [List.getElem?_mapIdx] at hc
    cases ex : xs[i]? with
    | none => rw [ex] at hc; cases hc
    | some x =>
      rw [ex] at hc
      cases hc
      have hi := (List.getElem?_eq_some_iff.mp ex).1
      have hl : (xs.take i).length = i := by rw [List.length_take]; omega
      have e1 : xs = xs.take i ++ x :: xs.drop (i + 1) := by
        have h1 := (List.getElem?_eq_some_iff.mp ex).2
        rw [← h1, ← List.drop_eq_getElem_cons hi, List.take_append_drop]
      have e2 : xs.take i ++ [x] = xs.take (i + 1) := by
        rw [List.take_add_one, ex]; rfl
      have := step (xs.take i) x (xs.drop (i + 1)) δ ω e1 hI
      rw [hl, e2] at this
      exact this, fun δ ω hI => by
    subst e
    rw [List.length_mapIdx, List.take_length] at hI
    exact done δ ω hI⟩ S1 wk

/-! ### comprehensions -/
inductive Mat : Sl → L2.St → List V → Prop
  | nil : Mat [] [] []
  | no {δ : Sl} {σ : L2.St} {us : List V} {x : Option V} : Mat δ σ us → Mat (none :: δ) (x :: σ) us
  | yes {δ : Sl} {σ : L2.St} {us : List V} {a : A} {v : V} : Mat δ σ us → Mat (some a :: δ) (some v :: σ) (v :: us)
def slA (δ : Sl) : List A := δ.filterMap id
theorem mat_of {ps : List (Option Addr)} {H0 H : Hp} : ∀ {δ : Sl} {σ : L2.St}, σ.length = δ.length → (∀ (i : Nat) (a : A), δ[i]? = some (some a) → ∃ v, σ[i]? = some (some v) ∧ Rv ps H0 H a v) → ∃ us, Mat δ σ us ∧ RvA ps H0 H (slA δ) us
  | [], [], _, _ => ⟨[], .nil, .nil⟩
  | [], _ :: _, h, _ => by simp at h
  | _ :: _, [], h, _ => by simp at h
  | none :: δ, x :: σ, hl, h => by
    obtain ⟨us, m, r⟩ := mat_of (δ := δ) (σ := σ) (by simpa using hl) (fun i a e => h (i + 1) a (by simpa using e))
    exact ⟨us, .no m, r⟩
  | some a :: δ, x :: σ, hl, h => by
    obtain ⟨us, m, r⟩ := mat_of (δ := δ) (σ := σ) (by simpa using hl) (fun i a e => h (i + 1) a (by simpa using e))
    obtain ⟨v, h1, h2⟩ := h 0 a rfl
    have h1 : x = some v := by simpa using h1
    subst h1
    exact ⟨v :: us, .yes m, .cons h2 r⟩
theorem Mat.back {ps : List (Option Addr)} {H0 H : Hp} : ∀ {δ : Sl} {σ : L2.St} {us : List V}, Mat δ σ us → RvA ps H0 H (slA δ) us → ∀ (i : Nat) (a : A), δ[i]? = some (some a) → ∃ v, σ[i]? = some (some v) ∧ Rv ps H0 H a v
  | _, _, _, .nil, _, i, a, h => by simp at h
  | _, _, _, .no m, r, 0, a, h => by simp at h
  | _, _, _, .no m, r, i + 1, a, h => by
    obtain ⟨v, h1, h2⟩ := m.back (H := H) r i a (by simpa using h)
    exact ⟨v, by simpa using h1, h2⟩
  | _, _, _, .yes (a := a0) m, .cons r t, 0, a, h => by
    have h : a0 = a := by simpa using h
    subst h
    exact ⟨_, rfl, r⟩
  | _, _, _, .yes m, .cons r t, i + 1, a, h => by
    obtain ⟨v, h1, h2⟩ := m.back (H := H) t i a (by simpa using h)
    exact ⟨v, by simpa using h1, h2⟩
theorem Mat.len : ∀ {δ : Sl} {σ : L2.St} {us : List V}, Mat δ σ us → σ.length = δ.length ∧ us.length = (slA δ).length
  | _, _, _, .nil => ⟨rfl, rfl⟩
  | _, _, _, .no m => ⟨by simp [m.len.1], by simpa [slA] using m.len.2⟩
  | _, _, _, .yes m => ⟨by simp [m.len.1], by simpa [slA] using m.len.2⟩
/-- the slots are put by -/
theorem Sta.save {σ : L2.St} {H : Hp} {vs : List V} {as : List A} (S : Sta H0 σ H vs δ ω as) : ∃ us, Mat δ σ us ∧ Sta H0 σ H (us ++ vs) δ ω (slA δ ++ as) := by
  obtain ⟨ps, I⟩ := S
  obtain ⟨us, m, r⟩ := mat_of I.sl I.slot
  exact ⟨us, m, ps, { I with stk := r.append I.stk }⟩
theorem Sta.load {σ σ2 : L2.St} {H : Hp} {vs us : List V} {as : List A} {δ2 : Sl} (m : Mat δ σ us) (S : Sta H0 σ2 H (us ++ vs) δ2 ω (slA δ ++ as)) : Sta H0 σ H vs δ ω as := by
  obtain ⟨ps, I⟩ := S
  obtain ⟨q1, q2⟩ := RvA.split m.len.2 I.stk
  exact ⟨ps, { I with sl := m.len.1, slot := m.back q1, stk := q2 }⟩
def wipeA (δ : Sl) : List Nat → Sl
  | [] => δ
  | v :: vs => (wipeA δ vs).set v none
theorem wipeA_len (δ : Sl) : ∀ vs, (wipeA δ vs).length = δ.length
  | [] => rfl
  | v :: vs => by unfold wipeA; rw [List.length_set, wipeA_len δ vs]
theorem wipe_slot {ps : List (Option Addr)} {H0 H : Hp} {δ : Sl} {σ : L2.St} (h : ∀ (i : Nat) (a : A), δ[i]? = some (some a) → ∃ v, σ[i]? = some (some v) ∧ Rv ps H0 H a v) : ∀ (ws : List Nat) (i : Nat) (a : A), (wipeA δ ws)[i]? = some (some a) → ∃ v, (wipe σ ws)[i]? = some (some v) ∧ Rv ps H0 H a v
  | [], i, a, e => h i a e
  | w :: ws, i, a, e => by
    unfold wipeA at e
    by_cases hi : w = i
    · subst hi
      by_cases hw : w < (wipeA δ ws).length
      · rw [List.getElem?_set_self hw] at e; cases e
      · rw [List.getElem?_eq_none (by simpa using hw)] at e; cases e
    · rw [List.getElem?_set_ne hi] at e
      obtain ⟨v, h1, h2⟩ := wipe_slot h ws i a e
      exact ⟨v, by unfold wipe; rw [List.getElem?_set_ne hi]; exact h1, h2⟩
theorem Sta.wipe {σ : L2.St} {H : Hp} {vs : List V} {as : List A} (S : Sta H0 σ H vs δ ω as) (ws : List Nat) : Sta H0 (L2.wipe σ ws) H vs (wipeA δ ws) ω as := by
  obtain ⟨ps, I⟩ := S
  exact ⟨ps, { I with sl := by rw [wipe_length, wipeA_len]; exact I.sl, slot := wipe_slot I.slot ws }⟩
theorem wipe_set {σ : L2.St} {j : Nat} {x : Option V} : ∀ {ws : List Nat}, j ∈ ws → L2.wipe (σ.set j x) ws = L2.wipe σ ws
  | [], h => by simp at h
  | w :: ws, h => by
    unfold L2.wipe
    by_cases hj : j ∈ ws
    · rw [wipe_set hj]
    · have e : j = w := by
        rcases List.mem_cons.mp h with e | e
        · exact e
        · exact absurd e hj
      subst e
      have : ∀ ws : List Nat, j ∉ ws → L2.wipe (σ.set j x) ws = (L2.wipe σ ws).set j x := by
        intro ws
        induction ws with
        | nil => intro _; rfl
        | cons w ws ih =>
          intro hn
          have hw : w ≠ j := fun e => hn (by rw [e]; exact List.mem_cons_self)
          unfold L2.wipe
          rw [ih fun q => hn (List.mem_cons_of_mem _ q), List.set_comm _ _ hw.symm]
      rw [this ws hj, List.set_set]
theorem wipe_wipe {σ : L2.St} : ∀ {ws us : List Nat}, (∀ w ∈ ws, w ∈ us) → L2.wipe (L2.wipe σ ws) us = L2.wipe σ us
  | [], _, _ => rfl
  | w :: ws, us, h => by
    show L2.wipe ((L2.wipe σ ws).set w none) us = _
    rw [wipe_set (h w List.mem_cons_self), wipe_wipe fun q hq => h q (List.mem_cons_of_mem _ hq)]
/-- a target that stores in the block's own slots alone -/
def GW (g : TG) (ws : List Nat) : Prop := ∀ (x : V) (σ : L2.St) (H : Hp) (Q : L2.St → Hp → Prop), g x (L2.wipe σ ws) H Q → g x (L2.wipe σ ws) H fun σ' H' => L2.wipe σ' ws = L2.wipe σ ws ∧ Q σ' H'
theorem wipe2 {σ : L2.St} {ws : List Nat} : L2.wipe (L2.wipe σ ws) ws = L2.wipe σ ws := wipe_wipe fun _ h => h
theorem gw_name {i : Nat} {ws : List Nat} (h : i ∈ ws) : GW (gName i) ws := fun x σ H Q q => ⟨(wipe_set h).trans wipe2, q⟩
theorem gw_tup2 {i j : Nat} {ws : List Nat} (h : i ∈ ws) (h2 : j ∈ ws) : GW (gTup K 2 (gCons (gName i) (gCons (gName j) gNil))) ws := fun x σ H Q q => by
  obtain ⟨a, xs, e, hs, hl, v, r, e2, w, r2, e3, e4, q⟩ := q
  exact ⟨a, xs, e, hs, hl, v, r, e2, w, r2, e3, e4, ((wipe_set h2).trans (wipe_set h)).trans wipe2, q⟩
/-- a comprehension: the invariant tells the owned objects, the new list among them (the last when it is made) -/
theorem lc_core' {wi : TI} {g : TG} {tt : TT} {ws : List Nat} {F : Om → Om → Prop} (gw : GW g ws) (h : SR H0 wi δ ω fun L kp ω1 => ∃ I : Nat → Om → Prop, I 0 (ω1 ++ [.lst []]) ∧ (∀ i ω, I i ω → kp ω) ∧
    (∀ i c ω, L[i]? = some c → I i ω → ∃ δ', GX H0 g c (wipeA δ ws) ω δ' ∧ ET H0 tt δ' ω fun b ω2 => (b = true → EG H0 te δ' ω2 fun y ω3 => ∃ acc, ω3[ω1.length]? = some (.lst acc) ∧ acc.length < sizeLine ∧ I (i + 1) (ω3.set ω1.length (.lst (acc ++ [y])))) ∧ (b = false → I (i + 1) ω2)) ∧
    ∀ ω, I L.length ω → F ω1 ω) : ∀ (σ : L2.St) (H : Hp) (vs : List V) (as : List A), Sta H0 σ H vs δ ω as → ∀ Q : VK, (∀ ω1 ω' p H', F ω1 ω' → Sta H0 σ H' (.ref p :: vs) δ ω' (.ptr ω1.length :: as) → Scp ω1.length δ ω1 as [] → Q (.ref p) H') → tLc wi g tt te ws σ H Q := fun σ H vs as S Q q =>
  h σ H vs as S _ fun L kp ω1 J H1 w b ⟨I, i0, ik, step, done⟩ S1 wk => by
    intro D nD
    have sc : Scp ω1.length δ ω1 as [] := by
      obtain ⟨ps, I1⟩ := S1
      exact I1.pop.2.scp .nil
    have S2 : Sta H0 σ (upd H1 D (.lst [])) (w :: .ref D :: vs) δ (ω1 ++ [.lst []]) (b :: .ptr ω1.length :: as) := by
      obtain ⟨ps, I1⟩ := S1
      exact Sta.swap (el_make (xs := []) (bs := []) ⟨ps, I1, .nil⟩ nD).1
    refine ⟨fun i m H => m = L.length - i ∧ i ≤ L.length ∧ ∃ ω, I i ω ∧ Sta H0 σ H (w :: .ref D :: vs) δ ω (b :: .ptr ω1.length :: as), ⟨L.length, by simp, Nat.zero_le _, _, i0, S2⟩, ?_⟩
    rintro i m H' ⟨rfl, hi, ω', hI, S'⟩
    by_cases hlt : i < L.length
    · obtain ⟨us, mt, Sv⟩ := S'.save
      obtain ⟨_, w2⟩ := wk i σ H' _ δ ω' _ (ik i ω' hI) S'
      obtain ⟨go, _⟩ := w2 L[i] (List.getElem?_eq_getElem hlt)
      refine .inr ⟨go, fun H2 => ∃ ω, I (i + 1) ω ∧ Sta H0 σ H2 (w :: .ref D :: vs) δ ω (b :: .ptr ω1.length :: as), fun H2 ⟨ω2, h2, S2⟩ => ⟨L.length - (i + 1), by omega, rfl, hlt, ω2, h2, S2⟩, fun x H'' hy => ?_⟩
      -- the item comes; the slots are put by below it
      have Sx : Sta H0 σ H' (w :: (us ++ (w :: .ref D :: vs))) δ ω' (b :: (slA δ ++ (b :: .ptr ω1.length :: as))) := by
        obtain ⟨ps, I1⟩ := Sv
        obtain ⟨q1, q2⟩ := RvA.split mt.len.2 I1.stk
        cases q2 with
        | cons r t => exact ⟨ps, { I1 with stk := .cons r (q1.append (.cons r t)) }⟩
      obtain ⟨_, w3⟩ := wk i σ H' _ δ ω' _ (ik i ω' hI) Sx
      have Sy := ((w3 L[i] (List.getElem?_eq_getElem hlt)).2 x H'' hy)
      have Sz := (Sy.drop2).wipe ws
      obtain ⟨δ2, hg, ht⟩ := step i L[i] ω' (List.getElem?_eq_getElem hlt) hI
      refine gw x σ H'' _ (hg _ H'' _ _ x Sz _ fun σ3 H3 S3 => ht σ3 H3 _ _ S3 _ fun bb ω3 H4 ⟨hT, hF⟩ S4 => ?_)
      have fin : ∀ {ω4 : Om} {H5 : Hp} {v : V} {c : A}, Sta H0 σ3 H5 (us ++ (w :: .ref D :: vs)) δ2 ω4 (slA δ ++ (b :: .ptr ω1.length :: as)) → Sta H0 σ H5 (w :: .ref D :: vs) δ ω4 (b :: .ptr ω1.length :: as) := fun {ω4 H5 v c} S5 => S5.load mt
      cases bb with
      | true =>
        refine iteT (hT rfl σ3 H4 _ _ S4 _ fun y ω5 v H5 ⟨acc, hacc, hz, hI'⟩ S5 => ?_)
        obtain ⟨ps, I5⟩ := S5
        obtain ⟨ry, I6⟩ := I5.pop
        obtain ⟨q1, q2⟩ := RvA.split mt.len.2 I6.stk
        have rD : Rv ps H0 H5 (.ptr ω1.length) (.ref D) := by
          cases q2 with
          | cons _ t => cases t with | cons r _ => exact r
        obtain ⟨p, hp, e⟩ := rD
        cases e
        obtain ⟨p', xs, h3, h4, h5⟩ := I6.at_ hacc
        rw [hp] at h3
        cases h3
        have S7 := Sta.load mt ⟨ps, I6⟩
        obtain ⟨ps7, I7⟩ := S7
        refine ⟨xs, h4, by rw [h5.len]; exact hz, _, hI', ?_⟩
        have S8 := Sta.write (k := ω1.length) (p := D) (xs := xs ++ [v]) (bs := acc ++ [y]) ⟨ps, I6, hp, h5.append (.cons ry .nil)⟩ (List.getElem?_eq_some_iff.mp hacc).1
        exact S8.load mt
      | false => exact iteF ⟨_, hF rfl, S4.load mt⟩
    · have e : i = L.length := by omega
      subst e
      obtain ⟨w1, _⟩ := wk L.length σ H' _ δ ω' _ (ik _ ω' hI) S'
      exact .inl ⟨w1 (Nat.le_refl _), q _ _ _ _ (done ω' hI) S'.pop sc⟩
theorem eg_lcG {wi : TI} {g : TG} {tt : TT} {ws : List Nat} {P : A → Om → Prop} (gw : GW g ws) (h : SR H0 wi δ ω fun L kp ω1 => ∃ I : Nat → Om → Prop, I 0 (ω1 ++ [.lst []]) ∧ (∀ i ω, I i ω → kp ω) ∧
    (∀ i c ω, L[i]? = some c → I i ω → ∃ δ', GX H0 g c (wipeA δ ws) ω δ' ∧ ET H0 tt δ' ω fun b ω2 => (b = true → EG H0 te δ' ω2 fun y ω3 => ∃ acc, ω3[ω1.length]? = some (.lst acc) ∧ acc.length < sizeLine ∧ I (i + 1) (ω3.set ω1.length (.lst (acc ++ [y])))) ∧ (b = false → I (i + 1) ω2)) ∧
    ∀ ω, I L.length ω → P (.ptr ω1.length) ω) : EG H0 (tLc wi g tt te ws) δ ω P := fun σ H vs as S Q q =>
  lc_core' (F := fun ω1 ω' => P (.ptr ω1.length) ω') gw h σ H vs as S Q fun ω1 ω' p H' hp S' _ => q _ _ _ _ hp S'
/-- what a comprehension gives: of each item that passes its element -/
def compR {α : Type} (xs : List α) (f : Nat → α → Bool) (e : Nat → α → PyData) : List PyData := (xs.mapIdx fun i x => if f i x = true then [e i x] else []).flatten
theorem compR_len {α : Type} (xs : List α) (f : Nat → α → Bool) (e : Nat → α → PyData) : (compR xs f e).length ≤ xs.length := by
  unfold compR
  rw [List.length_flatten]
  have : ∀ (l : List (List PyData)), (∀ x ∈ l, x.length ≤ 1) → (l.map List.length).sum ≤ l.length := by
    intro l
    induction l with
    | nil => intro _; simp
    | cons x l ih =>
      intro h
      have h1 := h x List.mem_cons_self
      have h2 := ih fun y hy => h y (List.mem_cons_of_mem _ hy)
      simp only [List.map_cons, List.sum_cons, List.length_cons]
      omega
  refine Nat.le_trans (this _ fun x hx => ?_) (by simp)
  obtain ⟨i, hi, rfl⟩ := List.mem_mapIdx.mp hx
  split <;> simp
theorem compR_snoc {α : Type} (xs : List α) (x : α) (f : Nat → α → Bool) (e : Nat → α → PyData) : compR (xs ++ [x]) f e = compR xs f e ++ if f xs.length x = true then [e xs.length x] else [] := by
  unfold compR
  rw [List.mapIdx_append, List.flatten_append]
  simp
theorem compR_plain {α : Type} (xs : List α) (f : α → Bool) (e : α → PyData) : compR xs (fun _ => f) (fun _ => e) = (xs.filter f).map e := by
  unfold compR
  induction xs with
  | nil => rfl
  | cons x xs ih =>
    rw [List.mapIdx_cons, List.flatten_cons, ih, List.filter_cons]
    by_cases h : f x = true
    · simp [h]
    · simp [h]
theorem compR_all {α : Type} : ∀ (xs : List α) (e : Nat → α → PyData), compR xs (fun _ _ => true) e = xs.mapIdx e
  | [], _ => rfl
  | x :: xs, e => by
    have ih := compR_all xs (fun i => e (i + 1))
    unfold compR at ih ⊢
    rw [List.mapIdx_cons, List.flatten_cons, List.mapIdx_cons]
    rw [← ih]
    simp
theorem el_lc {α : Type} {xs : List α} {it : Nat → α → A} (f : Nat → α → Bool) (e : Nat → α → PyData) {wi : TI} {g : TG} {tt : TT} {ws : List Nat} {P : List A → Om → Prop} (gw : GW g ws) (hz : xs.length ≤ sizeLine)
    (h : SR H0 wi δ ω fun L kp ω1 => L = xs.mapIdx it ∧ (∀ acc, kp (ω1 ++ [.lst acc])) ∧ (∀ i x acc, xs[i]? = some x → ∃ δ', GX H0 g (it i x) (wipeA δ ws) (ω1 ++ [.lst acc]) δ' ∧ ET H0 tt δ' (ω1 ++ [.lst acc]) (fun b ω2 => b = f i x ∧ ω2 = ω1 ++ [.lst acc]) ∧
      (f i x = true → EG H0 te δ' (ω1 ++ [.lst acc]) (fun y ω3 => y = .dat (e i x) ∧ ω3 = ω1 ++ [.lst acc]))) ∧ P ((compR xs f e).map .dat) ω1) : EL H0 (tLc wi g tt te ws) δ ω P := fun σ H vs as S Q q =>
  lc_core' (F := fun ω1 ω' => ω' = ω1 ++ [.lst ((compR xs f e).map .dat)] ∧ P ((compR xs f e).map .dat) ω1) gw (fun σ H vs as S R k => h σ H vs as S R fun L kp ω1 J H1 w b ⟨eL, hk, hs, hp⟩ S1 wk => k L kp ω1 J H1 w b
    ⟨fun i ω => ω = ω1 ++ [.lst ((compR (xs.take i) f e).map .dat)], rfl, fun i ω hω => by rw [hω]; exact hk _, fun i c ω hc hω => by
      subst eL hω
      rw [List.getElem?_mapIdx] at hc
      cases ex : xs[i]? with
      | none => rw [ex] at hc; cases hc
      | some x =>
        rw [ex] at hc
        cases hc
        have hi := (List.getElem?_eq_some_iff.mp ex).1
        have hl : (xs.take i).length = i := by rw [List.length_take]; omega
        have e2 : xs.take (i + 1) = xs.take i ++ [x] := by rw [List.take_add_one, ex]; rfl
        obtain ⟨δ', h1, h2, h3⟩ := hs i x ((compR (xs.take i) f e).map .dat) ex
        refine ⟨δ', h1, fun σ H vs as S Q q => h2 σ H vs as S Q fun b ω2 H' ⟨eb, eω⟩ S' => q b ω2 H' ⟨fun hb => ?_, fun hb => ?_⟩ S'⟩
        · subst eω
          refine (h3 (eb ▸ hb)).imp fun y ω3 ⟨ey, eω⟩ => ?_
          subst ey eω
          refine ⟨(compR (xs.take i) f e).map .dat, by simp, ?_, ?_⟩
          · have := compR_len (xs.take i) f e
            rw [List.length_map]
            omega
          · show List.set _ _ _ = ω1 ++ [Ob.lst ((compR (xs.take (i + 1)) f e).map .dat)]
            rw [e2, compR_snoc, hl, if_pos (eb ▸ hb)]
            simp
        · show ω2 = _
          rw [eω, e2, compR_snoc, hl, if_neg (by rw [← eb, hb]; simp)]
          simp, fun ω hω => by
      subst eL
      rw [List.length_mapIdx, List.take_length] at hω
      exact ⟨hω, hp⟩⟩ S1 wk) σ H vs as S Q fun ω1 ω' p H' ⟨eω, hp⟩ S' sc => by
    subst eω
    exact q _ ω1 p H' hp S' ⟨sc.sl, sc.st, sc.ob, fun a ha => by
      obtain ⟨d, _, rfl⟩ := List.mem_map.mp ha
      trivial⟩

/-! ### calls -/
/-- what comes of a def's call: data, or an exception of a class that C tells -/
inductive Res (ε : Type) where
  | ok (d : PyData)
  | er (e : ε)
/-- a promise: on data that R relates to a result -/
def Pr {ε : Type} (C : ε → Addr) (R : List PyData → Res ε → Prop) : Sp := fun vs H Q E => ∃ ds r, RpA H vs ds ∧ R ds r ∧
  (match r with
  | .ok d => ∀ v H', Same H H' → Rp (vis [] H H') v d → Q v H'
  | .er e => ∀ H', Same H H' → E (.ref (C e)) none H')
theorem Inn.after {ps : List (Option Addr)} {σ : L2.St} {H H' : Hp} {vs : List V} {as : List A} {v : V} {d : PyData} (I : Inn H0 ps σ H vs δ ω as) (e : Same H H') (r : Rp (vis [] H H') v d) : Inn H0 ps σ H' (v :: vs) δ ω (.dat d :: as) :=
  (I.grow e).push (a := .dat d) (Rp.mono (vis_call I.old e I.thr) d v r)
theorem eg_call {ε : Type} {C : ε → Addr} {R : List PyData → Res ε → Prop} {E : XK} {ts : TA} {P : A → Om → Prop} (h : EA H0 ts δ ω fun bs ω1 => ∃ ds r, RdA ω1 bs ds ∧ R ds r ∧
    (match r with
    | .ok d => P (.dat d) ω1
    | .er e => ∀ H', Same H0 H' → E (.ref (C e)) none H')) : EG H0 (tCall (Pr C R) [] E ts) δ ω P := fun σ H vs as S Q q =>
  h σ H vs as S _ fun bs ω1 us H1 ⟨ds, r, hd, hr, hk⟩ hl S1 => by
    rw [List.append_nil]
    obtain ⟨ps, I⟩ := S1
    obtain ⟨q1, q2⟩ := RvA.split hl I.stk
    have I2 : Inn H0 ps σ H1 vs δ ω1 as := { I with stk := q2 }
    refine ⟨ds, r, RdA.rp I ds hd q1, hr, ?_⟩
    cases r with
    | ok d => exact fun v H' e rv => q _ _ v H' hk ⟨ps, I2.after e rv⟩
    | er e => exact fun H' s => hk H' (I.old.trans s)
/-- the list that a call hands back is taken as one's own -/
theorem el_call {ε : Type} {C : ε → Addr} {R : List PyData → Res ε → Prop} {E : XK} {ts : TA} {P : List A → Om → Prop} (h : EA H0 ts δ ω fun bs ω1 => ∃ ds r, RdA ω1 bs ds ∧ R ds r ∧
    (match r with
    | .ok d => ∃ es, d = .list es ∧ noLA es = true ∧ P (es.map .dat) ω1
    | .er e => ∀ H', Same H0 H' → E (.ref (C e)) none H')) : EL H0 (tCall (Pr C R) [] E ts) δ ω P := fun σ H vs as S Q q =>
  h σ H vs as S _ fun bs ω1 us H1 ⟨ds, r, hd, hr, hk⟩ hl S1 => by
    rw [List.append_nil]
    obtain ⟨ps, I⟩ := S1
    obtain ⟨q1, q2⟩ := RvA.split hl I.stk
    have I2 : Inn H0 ps σ H1 vs δ ω1 as := { I with stk := q2 }
    refine ⟨ds, r, RdA.rp I ds hd q1, hr, ?_⟩
    cases r with
    | ok d =>
      obtain ⟨es, rfl, ne, hp⟩ := hk
      intro v H' e rv
      cases rv with
      | lst h1 h2 =>
        rename_i p xs
        obtain ⟨_, g⟩ := vis_cases h1
        rcases g with ⟨g1, g2⟩ | ⟨_, z, _⟩
        · have rt : RvA (ps ++ [some p]) H0 H' (es.map .dat) xs := by
            refine .of_dats (RpA.mono ?_ es xs (RpA.tups es xs ne h2))
            intro b o hb
            unfold tups at hb
            split at hb
            · rename_i ys eb
              cases hb
              obtain ⟨_, g⟩ := vis_cases eb
              refine vis_tup (fun z => ?_) (I.old.trans e) (vis_sub e _ _ eb)
              rcases List.mem_append.mp z with z | z
              · obtain ⟨u, hu, nu⟩ := I.thr b z
                have := e _ _ hu
                rw [vis_sub e _ _ eb] at this
                cases this
                exact nu _ rfl
              · simp at z
                subst z
                have := vis_sub e _ _ eb
                rw [g2] at this
                cases this
            · cases hb
          have J := I2.adopt (H' := H') (p := p) (o := .lst (es.map .dat)) (ho := .lst xs) g1 e g2 rt
          refine q _ _ p H' hp ⟨_, J⟩ ?_
          have sc := I2.scp (bs := []) .nil
          exact ⟨sc.sl, sc.st, sc.ob, fun a ha => by
            obtain ⟨d, _, rfl⟩ := List.mem_map.mp ha
            trivial⟩
        · cases z
    | er e => exact fun H' s => hk H' (I.old.trans s)

/-! ### a def's body -/
/- what a def hands back is data of its own, or holds no list -/
mutual
inductive Fin (ω : Om) : A → PyData → Prop
  | dat (d : PyData) : Fin ω (.dat d) d
  | arg (d : PyData) (h : noL d = true) : Fin ω (.arg d) d
  | ptr {k : Nat} {as : List A} {ds : List PyData} : ω[k]? = some (.lst as) → FinA ω as ds → Fin ω (.ptr k) (.list ds)
inductive FinA (ω : Om) : List A → List PyData → Prop
  | nil : FinA ω [] []
  | cons {a : A} {as : List A} {d : PyData} {ds : List PyData} : Fin ω a d → FinA ω as ds → FinA ω (a :: as) (d :: ds)
end
theorem FinA.dats {ω : Om} : ∀ ds : List PyData, FinA ω (ds.map .dat) ds
  | [] => .nil
  | d :: ds => .cons (.dat d) (FinA.dats ds)
mutual
theorem Fin.rp {ps : List (Option Addr)} {σ : L2.St} {H : Hp} {vs : List V} {as : List A} (I : Inn H0 ps σ H vs δ ω as) : ∀ (d : PyData) {a : A} {v : V}, Fin ω a d → Rv ps H0 H a v → Rp (vis [] H0 H) v d
  | d, _, v, .dat _, r => Rp.mono vis_none d v r
  | d, _, v, .arg _ h, r => Rp.mono vis_none d v (I.argD h r)
  | .list ds, _, _, .ptr (as := bs) hk ha, ⟨p, h1, rfl⟩ => by
    obtain ⟨p', xs, h2, h3, h4⟩ := I.at_ hk
    rw [h1] at h2
    cases h2
    exact .lst (by rw [vis_new (by simp) (I.new p (List.mem_of_getElem? h1))]; exact h3) (FinA.rp I ds ha h4)
theorem FinA.rp {ps : List (Option Addr)} {σ : L2.St} {H : Hp} {vs : List V} {as : List A} (I : Inn H0 ps σ H vs δ ω as) : ∀ (ds : List PyData) {bs : List A} {xs : List V}, FinA ω bs ds → RvA ps H0 H bs xs → RpA (vis [] H0 H) xs ds
  | _, _, _, .nil, .nil => .nil
  | _ :: ds, _, _, .cons h t, .cons r rt => .cons (Fin.rp I _ h r) (FinA.rp I ds t rt)
end
/-- how an argument is told -/
def ent (d : PyData) : A := if noL d = true then .dat d else .arg d
theorem ent_dat {d : PyData} (h : noL d = true) : ent d = .dat d := if_pos h
theorem ent_arg {d : PyData} (h : noL d = false) : ent d = .arg d := if_neg (by rw [h]; decide)
/-- the slots at a def's start: the arguments, then n unset ones -/
def entry (ds : List PyData) (n : Nat) : Sl := ds.map (fun d => some (ent d)) ++ List.replicate n none
theorem sta_entry {H : Hp} {vs : List V} {ds : List PyData} {σ : L2.St} (n : Nat) (h : RpA H vs ds) (hσ : σ = vs.map some ++ List.replicate n none) : Sta H σ H [] (entry ds n) [] [] := by
  subst hσ
  refine ⟨[], ⟨by simp, rfl, Same.refl H, by simp, by simp, by simp [entry, h.len], fun i a e => ?_, .nil⟩⟩
  have hl := h.len
  unfold entry at e
  by_cases hi : i < ds.length
  · rw [List.getElem?_append_left (by simpa using hi), List.getElem?_map] at e
    cases ed : ds[i]? with
    | none => rw [ed] at e; cases e
    | some d =>
      rw [ed] at e
      cases e
      obtain ⟨v, h1, h2⟩ := h.get ed
      refine ⟨v, by rw [List.getElem?_append_left (by rw [List.length_map, hl]; exact hi), List.getElem?_map, h1]; rfl, ?_⟩
      unfold ent
      split
      · rename_i hn
        exact Rp.mono (vis_tups (Same.refl H) (by simp)) d v (Rp.tups d v hn h2)
      · exact h2
  · rw [List.getElem?_append_right (by simpa using hi)] at e
    have := List.mem_of_getElem? e
    rw [List.mem_replicate] at this
    cases this.2
example (k : Int) : ent (.int k) = .dat (.int k) := rfl
example (k : Int) (x : Str) : ent (.tuple [.str x, .int k]) = .dat (.tuple [.str x, .int k]) := rfl
example (ns : List PyData) : ent (.list ns) = .arg (.list ns) := rfl
/-- the wish of a def that is to hand back d -/
def Hand (d : PyData) : Post := { nx := fun _ _ => d = .none, rt := fun a ω => Fin ω a d }
theorem cov_hand {H : Hp} {Q : VK} {d : PyData} (q : ∀ v H', Same H H' → Rp (vis [] H H') v d → Q v H') : Cov H [] [] { nx := fun _ H' => Q .non H', rt := Q } (Hand d) where
  nx := fun δ ω σ H' e S => by
    have e : d = .none := e
    subst e
    exact q .non H' S.old .non
  rt := fun a δ ω v σ H' f ⟨ps, I⟩ => q v H' I.old (Fin.rp I d f I.pop.1)
  bk := fun _ _ _ _ e _ => e.elim
  ct := fun _ _ _ _ e _ => e.elim
end
end Y

/-! Lay5: a def's promise by its body's reading; short words; the walk's own steps. -/
namespace Y
open PySem PySem.Spec L2

abbrev rSub : R2 := rI0 fun i j => .int (i - j)
abbrev rPow : R2 := rI CPow fun i j => .int (i ^ j.toNat)
abbrev rLt : R2 := rI0 fun i j => .bl (decide (i < j))
abbrev rLe : R2 := rI0 fun i j => .bl (decide (i ≤ j))
abbrev rGt : R2 := rI0 fun i j => .bl (decide (j < i))
abbrev rGe : R2 := rI0 fun i j => .bl (decide (j ≤ i))
abbrev rNeg : V → Hp → VK → Prop := rU fun i => .int (-i)
abbrev rInt1 : List V → Hp → VK → Prop := fun xs H Q => (∃ i, xs = [.int i] ∧ Q (.int i) H) ∨ ∃ k, xs = [.bl k] ∧ Q (.int (if k then 1 else 0)) H

/-- the wish by a result -/
def HandR {ε : Type} : Res ε → Post
  | .ok d => Hand d
  | .er _ => { nx := fun _ _ => False, rt := fun _ _ => False }
theorem start_eq {N ps : List Str} {vs : List V} {n : Nat} (hn : N.length = ps.length + n) (hl : vs.length = ps.length) : L2.start N vs = vs.map some ++ List.replicate n none := by
  unfold L2.start
  rw [hn, hl, Nat.add_sub_cancel_left]
theorem cov_handR {ε : Type} {C : ε → Addr} {H : Hp} {Q : VK} {E : XK} {r : Res ε} (q : match r with
    | .ok d => ∀ v H', Same H H' → Rp (vis [] H H') v d → Q v H'
    | .er e => ∀ H', Same H H' → E (.ref (C e)) none H') : Cov H [] [] { nx := fun _ H' => Q .non H', rt := Q } (HandR r) := by
  cases r with
  | ok d => exact cov_hand q
  | er e => exact ⟨fun _ _ _ _ z _ => z.elim, fun _ _ _ _ _ _ z _ => z.elim, fun _ _ _ _ z _ => z.elim, fun _ _ _ _ z _ => z.elim⟩
section
variable {P : Program} {w : World} {K : PySem.W.Frag} {mg : Str → Option Value} {base : Heap}
/-- a def that may raise -/
theorem okR {x qual : Str} {st : Stmt} {f : Addr} {fd : FuncData} {N ps : List Str} {k : Nat} {ε : Type} {C : ε → Addr} {R : List PyData → Res ε → Prop} (F : Fun K x qual st f fd) (S : FnScope N ps (defScope st)) (hlen : ∀ ds r, R ds r → ds.length = ps.length) (n : Nat) (hn : N.length = ps.length + n) (t : XK → TS)
    (hd : ∀ (cdv : Value) (A : Around) (outer : List PySem.Env) (s : Shared) (H : Hp) (E : XK), Room k (A.deeper (PyProof.Rows.envOfC qual (defScope st) s.heap.objs.size f cdv)) → PSs (cxOf (L2.CX P w) P w K mg base N qual (defScope st) f cdv A outer s H E) (defBody st) (t E))
    (hw : ∀ (H : Hp) (E : XK) (ds : List PyData) (r : Res ε), R ds r → (∀ e, r = .er e → ∀ H', Same H H' → E (.ref (C e)) none H') → SX H (t E) (entry ds n) [] (HandR r)) : FnOk P w K mg base (L2.CX P w) (k + 1) f fd ps (Pr C R) :=
  F.okX S (fun vs H Q E ⟨ds, r, h1, h2, _⟩ => by rw [h1.len]; exact hlen ds r h2) fun cdv A outer s H vs Q E hr ⟨ds, r, h1, h2, h3⟩ =>
    ⟨t E, hd cdv A outer s H E hr, hw H E ds r h2 (fun e he => by subst he; exact h3) _ _ _ _ (sta_entry n h1 (start_eq hn (by rw [h1.len]; exact hlen ds r h2))) _ (cov_handR h3)⟩
/-- a def that raises nothing -/
theorem okN {x qual : Str} {st : Stmt} {f : Addr} {fd : FuncData} {N ps : List Str} {k : Nat} {ε : Type} {C : ε → Addr} {R : List PyData → Res ε → Prop} (F : Fun K x qual st f fd) (S : FnScope N ps (defScope st)) (hlen : ∀ ds r, R ds r → ds.length = ps.length) (n : Nat) (hn : N.length = ps.length + n) (t : TS)
    (hd : ∀ (cdv : Value) (A : Around) (outer : List PySem.Env) (s : Shared) (H : Hp) (E : XK), Room k (A.deeper (PyProof.Rows.envOfC qual (defScope st) s.heap.objs.size f cdv)) → PSs (cxOf CX0 P w K mg base N qual (defScope st) f cdv A outer s H E).nox (defBody st) t)
    (hw : ∀ (H : Hp) (ds : List PyData) (r : Res ε), R ds r → SX H t (entry ds n) [] (HandR r)) : FnOk P w K mg base CX0 (k + 1) f fd ps (Pr C R) :=
  F.ok S (fun vs H Q E ⟨ds, r, h1, h2, _⟩ => by rw [h1.len]; exact hlen ds r h2) fun cdv A outer s H vs Q E hr ⟨ds, r, h1, h2, h3⟩ =>
    ⟨t, hd cdv A outer s H E hr, hw H ds r h2 _ _ _ _ (sta_entry n h1 (start_eq hn (by rw [h1.len]; exact hlen ds r h2))) _ (cov_handR h3)⟩
end
theorem Room.u65 {k : Nat} {A : Around} (r : Room k A) : A.units + 65 < cLine := by have := r.un; omega
end Y

/-! Lay6: promises of defs that are handed the script; the written dict PARTS; the law's end. -/
namespace Y
open PySem PySem.Spec L2

/-! ### the script handed on -/
def PrS {ε : Type} (K : PySem.W.Frag) (C : ε → Addr) (R : List Int → List PyData → Res ε → Prop) : Sp := fun vs H Q E => ∃ (a : Addr) (us : List V) (ns : List Int) (ds : List PyData) (r : Res ε), vs = .ref a :: us ∧ SqL K H a (ns.map V.int) ∧ RpA H us ds ∧ R ns ds r ∧
  (match r with
  | .ok d => ∀ v H', Same H H' → Rp (vis [] H H') v d → Q v H'
  | .er e => ∀ H', Same H H' → E (.ref (C e)) none H')
theorem eg_callS {K : PySem.W.Frag} {H0 : Hp} {δ : Sl} {ω : Om} {ε : Type} {C : ε → Addr} {R : List Int → List PyData → Res ε → Prop} {E : XK} {ts : TA} {P : A → Om → Prop} (h : EA H0 ts δ ω fun bs ω1 => ∃ a cs ns ds d, bs = .raw (.ref a) :: cs ∧ SqL K H0 a (ns.map V.int) ∧ RdA ω1 cs ds ∧ R ns ds (.ok d) ∧ P (.dat d) ω1) : EG H0 (tCall (PrS K C R) [] E ts) δ ω P := fun σ H vs as S Q q =>
  h σ H vs as S _ fun bs ω1 us H1 ⟨a, cs, ns, ds, d, eb, hS, hd, hr, hk⟩ hl S1 => by
    rw [List.append_nil]
    subst eb
    match us, hl with
    | u :: us, hl =>
      obtain ⟨ps, I⟩ := S1
      obtain ⟨r0, I0⟩ := I.pop
      have e0 : u = .ref a := r0
      subst e0
      obtain ⟨q1, q2⟩ := RvA.split (as1 := cs) (vs1 := us) (by simpa using hl) I0.stk
      have I2 : Inn H0 ps σ H1 vs δ ω1 as := { I0 with stk := q2 }
      exact ⟨a, us, ns, ds, .ok d, rfl, I.old.seq hS, RdA.rp I0 ds hd q1, hr, fun v H' e rv => q _ _ v H' hk ⟨ps, I2.after e rv⟩⟩
theorem sta_entryS {H : Hp} {vs : List V} {ds : List PyData} {σ : L2.St} (n : Nat) (a : Addr) (h : RpA H vs ds) (hσ : σ = some (.ref a) :: (vs.map some ++ List.replicate n none)) : Sta H σ H [] (some (.raw (.ref a)) :: entry ds n) [] [] := by
  subst hσ
  obtain ⟨ps, I⟩ := sta_entry n h rfl
  refine ⟨ps, { I with sl := by simp [I.sl], slot := fun i b e => ?_ }⟩
  cases i with
  | zero =>
    have e : A.raw (.ref a) = b := by simpa using e
    subst e
    exact ⟨.ref a, rfl, rfl⟩
  | succ i => exact I.slot i b (by simpa using e)
section
variable {P : Program} {w : World} {K : PySem.W.Frag} {mg : Str → Option Value} {base : Heap}
/-- a def that is handed the script first, and raises nothing -/
theorem okS {x qual : Str} {st : Stmt} {f : Addr} {fd : FuncData} {N ps : List Str} {k : Nat} {ε : Type} {C : ε → Addr} {R : List Int → List PyData → Res ε → Prop} (F : Fun K x qual st f fd) (S : FnScope N ps (defScope st)) (hlen : ∀ ns ds r, R ns ds r → ds.length + 1 = ps.length) (n : Nat) (hn : N.length = ps.length + n) (t : TS)
    (hd : ∀ (cdv : Value) (A : Around) (outer : List PySem.Env) (s : Shared) (H : Hp) (E : XK), Room k (A.deeper (PyProof.Rows.envOfC qual (defScope st) s.heap.objs.size f cdv)) → PSs (cxOf CX0 P w K mg base N qual (defScope st) f cdv A outer s H E).nox (defBody st) t)
    (hw : ∀ (H : Hp) (a : Addr) (ns : List Int) (ds : List PyData) (r : Res ε), SqL K H a (ns.map V.int) → R ns ds r → SX H t (some (.raw (.ref a)) :: entry ds n) [] (HandR r)) : FnOk P w K mg base CX0 (k + 1) f fd ps (PrS K C R) := by
  refine F.ok S (fun vs H Q E h => ?_) fun cdv A outer s H vs Q E hr h => ?_
  · obtain ⟨a, us, ns, ds, r, rfl, hS, h1, h2, _⟩ := h
    rw [List.length_cons, h1.len]
    exact hlen ns ds r h2
  · obtain ⟨a, us, ns, ds, r, rfl, hS, h1, h2, h3⟩ := h
    have hl := hlen ns ds r h2
    refine ⟨t, hd cdv A outer s H E hr, hw H a ns ds r hS h2 _ _ _ _ (sta_entryS n a h1 ?_) _ (cov_handR h3)⟩
    rw [start_eq (n := n) hn (by rw [List.length_cons, h1.len]; exact hl)]
    rfl
end

/-! ### PARTS -/
def wSend : Str := PySem.Str.ofString "send"
def wGot : Str := PySem.Str.ofString "got"
def wNote : Str := PySem.Str.ofString "note"
def isWord (z : Str) : Bool := decide (z = wSend) || decide (z = wGot) || decide (z = wNote)
def partsOf (z : Str) : Int := if z = wNote then 2 else 3
structure PartsOk (K : PySem.W.Frag) (w : World) (d : Addr) : Prop where
  ex : ∃ es n, KDict K w d es n
  has : ∀ z, ∃ r, PySem.W.nsIn K d z = some r ∧ r.isSome = isWord z ∧ ∀ u, r = some u → ∃ t, u = .int (partsOf z) t
def tPartsNot (te : TE) : TE := fun σ H Q => te σ H fun x H1 => ∃ z, x = .str z ∧ Q (.bl (!isWord z)) H1
def tPartsIx (te : TE) : TE := fun σ H Q => te σ H fun x H1 => ∃ z, x = .str z ∧ isWord z = true ∧ Q (.int (partsOf z)) H1
theorem PE.ask {X : Cx} {e : Expr} {t t' : TE} (h : PE X e t) (i : ∀ σ H Q, t' σ H Q → t σ H Q) : PE X e t' := ⟨fun pins s σ H Q I q => h.run pins s σ H Q I (i σ H Q q)⟩
section
variable {X : Cx} {te : TE} {e : Expr} {pp pos : Pos} {d : Addr}
/-- every reading is a wish that may be weakened -/
theorem pe_partsNot (p : PartsOk X.K X.w d) (hg : Gl X "PARTS") (hm : X.mg "PARTS" = some (.ref d)) (he : PE X e te) (mono : ∀ σ H Q Q', (∀ v H1, Q v H1 → Q' v H1) → te σ H Q → te σ H Q') : PE X (.Compare e [.NotIn] [.Name "PARTS" pp] pos) (tPartsNot te) := by
  obtain ⟨es, n, D⟩ := p.ex
  refine PE.ask (pe_cmpR (op_notIn_kd D) he (pe_glob (v := .ref d) hg hm rfl) (by rfl)) fun σ H Q q => mono σ H _ _ (fun x H1 h => ?_) q
  obtain ⟨z, rfl, h⟩ := h
  obtain ⟨r, hr, hi, _⟩ := p.has z
  exact ⟨z, r, rfl, rfl, hr, by rw [hi]; exact h⟩
theorem pe_partsIx (p : PartsOk X.K X.w d) (hg : Gl X "PARTS") (hm : X.mg "PARTS" = some (.ref d)) (he : PE X e te) (mono : ∀ σ H Q Q', (∀ v H1, Q v H1 → Q' v H1) → te σ H Q → te σ H Q') (hs : PlainIx e := by exact fun _ _ => rfl) : PE X (.Subscript (.Name "PARTS" pp) e pos) (tPartsIx te) := by
  obtain ⟨es, n, D⟩ := p.ex
  refine PE.ask (pe_ix ix_kdict (pe_glob (v := .ref d) hg hm rfl) he hs) fun σ H Q q => mono σ H _ _ (fun x H1 h => ?_) q
  obtain ⟨z, rfl, hw, h⟩ := h
  obtain ⟨r, hr, hi, hu⟩ := p.has z
  rw [hw] at hi
  obtain ⟨u, rfl⟩ := Option.isSome_iff_exists.mp hi
  obtain ⟨t, rfl⟩ := hu u rfl
  exact ⟨d, z, .int (partsOf z), rfl, rfl, ⟨es, n, _, D.at_, D.lit, hr, t, rfl⟩, h⟩
end
section
variable {K : PySem.W.Frag} {H0 : Hp} {δ : Sl} {ω : Om} {P : A → Om → Prop} {te : TE}
theorem eg_partsNot (h : EG H0 te δ ω fun a ω1 => ∃ z, a = .dat (.str z) ∧ P (.dat (.bool (!isWord z))) ω1) : EG H0 (tPartsNot te) δ ω P := fun σ H vs as S Q q =>
  h σ H vs as S _ fun a ω1 x H1 ⟨z, e, hp⟩ S1 => by
    subst e
    obtain ⟨ps, I⟩ := S1
    obtain ⟨r, I1⟩ := I.pop
    cases (show Rp _ _ _ from r)
    exact ⟨z, rfl, q _ _ _ H1 hp (Sta.flat ⟨ps, I1⟩ (fl_bl _))⟩
theorem eg_partsIx (h : EG H0 te δ ω fun a ω1 => ∃ z, a = .dat (.str z) ∧ isWord z = true ∧ P (.dat (.int (partsOf z))) ω1) : EG H0 (tPartsIx te) δ ω P := fun σ H vs as S Q q =>
  h σ H vs as S _ fun a ω1 x H1 ⟨z, e, hw, hp⟩ S1 => by
    subst e
    obtain ⟨ps, I⟩ := S1
    obtain ⟨r, I1⟩ := I.pop
    cases (show Rp _ _ _ from r)
    exact ⟨z, rfl, hw, q _ _ _ H1 hp (Sta.flat ⟨ps, I1⟩ (fl_int _))⟩
end
/-- list(reversed(x)), x a list -/
def tLstRev (K : PySem.W.Frag) (te : TE) : TE := fun σ H Q => te σ H fun v H1 => ∃ (a : Addr) (xs : List V), v = .ref a ∧ SqL K H1 a xs ∧ ∀ q, H1 q = none → Q (.ref q) (upd H1 q (.lst xs.reverse))
theorem RvA.rev {ps : List (Option Addr)} {H0 H : Hp} : ∀ {as : List A} {vs : List V}, RvA ps H0 H as vs → RvA ps H0 H as.reverse vs.reverse
  | _, _, .nil => .nil
  | _, _, .cons h t => by
    rw [List.reverse_cons, List.reverse_cons]
    exact (RvA.rev t).append (.cons h .nil)
theorem el_lstRev {K : PySem.W.Frag} {H0 : Hp} {δ : Sl} {ω : Om} {te : TE} {P : List A → Om → Prop} (h : EG H0 te δ ω fun a ω1 => ∃ bs, Itm K H0 ω1 a bs ∧ P bs.reverse ω1) : EL H0 (tLstRev K te) δ ω P := fun σ H vs as S Q q =>
  h σ H vs as S _ fun a ω1 x H1 ⟨bs, it, hp⟩ S1 => by
    obtain ⟨ps, I⟩ := S1
    obtain ⟨r, I1⟩ := I.pop
    obtain ⟨p, xs, rfl, hs, rx, _⟩ := it.get I1 r
    refine ⟨p, xs, rfl, hs, fun b n => ?_⟩
    obtain ⟨s, c⟩ := el_make (vs := vs) (as := as) ⟨ps, I1, rx.rev⟩ n
    exact q _ ω1 b _ hp s c
/-- the reading of row[0] -/
theorem mono_ix {K : PySem.W.Frag} {i : Nat} {v : V} : ∀ σ H Q Q', (∀ v H1, Q v H1 → Q' v H1) → (tOp (rIx K) (tVar i) (tC v)) σ H Q → (tOp (rIx K) (tVar i) (tC v)) σ H Q' := by
  rintro σ H Q Q' i ⟨x, hx, h⟩
  refine ⟨x, hx, ?_⟩
  rcases h with ⟨p, xs, j, u, a, b, c, d, e⟩ | ⟨p, xs, j, u, a, b, c, d, e⟩ | ⟨z, j, c, a, b, d, e, f⟩
  · exact .inl ⟨p, xs, j, u, a, b, c, d, i _ _ e⟩
  · exact .inr (.inl ⟨p, xs, j, u, a, b, c, d, i _ _ e⟩)
  · exact .inr (.inr ⟨z, j, c, a, b, d, e, i _ _ f⟩)
section
variable {H0 : Hp} {δ : Sl} {ω : Om} {P : A → Om → Prop}
theorem eb_dat {r : R2} {a b : A} (h : EBL H0 r a b δ ω fun bs ω' => ∃ ds : List PyData, bs = ds.map .dat ∧ P (.dat (.list ds)) ω') : EB H0 r a b δ ω P := fun σ H vs as x y S Q q =>
  h σ H vs as x y S Q fun bs ω' p H' ⟨ds, e, hp⟩ S' c => by
    subst e
    exact q _ _ _ H' hp (S'.froze c)
theorem eb_own {r : R2} {a b : A} (h : EBL H0 r a b δ ω fun bs ω' => P (.ptr ω'.length) (ω' ++ [.lst bs])) : EB H0 r a b δ ω P := fun σ H vs as x y S Q q =>
  h σ H vs as x y S Q fun bs ω' p H' hp S' _ => q _ _ _ H' hp S'
theorem ec_dat {r : List V → Hp → VK → Prop} {cs : List A} (h : ECL H0 r cs δ ω fun bs ω' => ∃ ds : List PyData, bs = ds.map .dat ∧ P (.dat (.list ds)) ω') : EC H0 r cs δ ω P := fun σ H vs us as hl S Q q =>
  h σ H vs us as hl S Q fun bs ω' p H' ⟨ds, e, hp⟩ S' c => by
    subst e
    exact q _ _ _ H' hp (S'.froze c)
theorem ec_own {r : List V → Hp → VK → Prop} {cs : List A} (h : ECL H0 r cs δ ω fun bs ω' => P (.ptr ω'.length) (ω' ++ [.lst bs])) : EC H0 r cs δ ω P := fun σ H vs us as hl S Q q =>
  h σ H vs us as hl S Q fun bs ω' p H' hp S' _ => q _ _ _ H' hp S'
end
section
variable {K : PySem.W.Frag} {H0 : Hp} {δ : Sl} {ω : Om} {P : A → Om → Prop} {te : TE} {tt : TT}
theorem eb_fdivL {i j : Int} (c1 : 0 < j) (c2 : j < 1073741824) (p : P (.dat (.int (i / j))) ω) : EB H0 rFdivU (.dat (.int i)) (.dat (.int j)) δ ω P := eb_fdiv ⟨c1, c2⟩ p
theorem eb_mulL {i j : Int} (c1 : -(2 ^ 64) < i) (c2 : i < 2 ^ 64) (p : P (.dat (.int (i * j))) ω) : EB H0 rMulU (.dat (.int i)) (.dat (.int j)) δ ω P := eb_mul (.inl ⟨c1, c2⟩) p
theorem eb_mulR {i j : Int} (c1 : -(2 ^ 64) < j) (c2 : j < 2 ^ 64) (p : P (.dat (.int (i * j))) ω) : EB H0 rMulU (.dat (.int i)) (.dat (.int j)) δ ω P := eb_mul (.inr ⟨c1, c2⟩) p
theorem eb_powL {i j : Int} (c1 : 0 ≤ j) (c2 : j ≤ 1000000) (c3 : i.natAbs < 2 ^ 64) (p : P (.dat (.int (i ^ j.toNat))) ω) : EB H0 rPow (.dat (.int i)) (.dat (.int j)) δ ω P := eb_pow ⟨c1, c2, c3⟩ p
theorem mapIdx_const {α β : Type} (xs : List α) (f : α → β) : xs.mapIdx (fun _ x => f x) = xs.map f := by
  apply List.ext_getElem?
  intro i
  rw [List.getElem?_mapIdx, List.getElem?_map]
theorem szOk {n : Nat} (h : n ≤ 16777216) : n ≤ sizeLine := by rw [sizeLine_eq]; exact h
theorem szLt {n : Nat} (h : n < 16777216) : n < sizeLine := by rw [sizeLine_eq]; exact h
theorem filter_yes {α : Type} : ∀ xs : List α, xs.filter (fun _ => true) = xs
  | [] => rfl
  | x :: xs => by rw [List.filter_cons_of_pos rfl, filter_yes xs]
/-- [e for i in range(n) if f] -/
theorem el_lcR {ts : TA} {j n : Nat} {P : List A → Om → Prop} (hn : n ≤ 16777216) (f : Nat → Bool) (e : Nat → PyData) (h : EA H0 ts δ ω fun bs ω1 => bs = [.dat (.int (n : Nat))] ∧ ω1 = ω)
    (hs : ∀ i, i < n → ∀ ω', (∃ acc, ω' = ω ++ [.lst acc]) → ET H0 tt ((wipeA δ [j]).set j (some (.dat (.int (i : Nat))))) ω' (fun b ω2 => b = f i ∧ ω2 = ω') ∧ (f i = true → EG H0 te ((wipeA δ [j]).set j (some (.dat (.int (i : Nat))))) ω' fun y ω3 => y = .dat (e i) ∧ ω3 = ω'))
    (hp : P ((((List.range n).filter f).map e).map .dat) ω) : EL H0 (tLc (iRng1 ts) (gName j) tt te [j]) δ ω P := by
  refine el_lc (xs := List.range n) (it := fun _ i => .dat (.int (i : Nat))) (fun _ => f) (fun _ => e) (gw_name (by simp)) (by rw [List.length_range]; exact szOk hn) ?_
  refine sr_rng fun σ H vs as S Q q => h σ H vs as S Q fun bs ω1 us H1 ⟨eb, eω⟩ hl S1 => q bs ω1 us H1 ⟨n, eb, hn, (mapIdx_const _ _).symm, fun _ => trivial, fun i x acc hx => ?_, ?_⟩ hl S1
  · subst eω
    have hi := (List.getElem?_eq_some_iff.mp hx).1
    rw [List.length_range] at hi
    rw [List.getElem?_range hi] at hx
    cases hx
    obtain ⟨h1, h2⟩ := hs i hi _ ⟨acc, rfl⟩
    exact ⟨_, gx_name, h1, h2⟩
  · subst eω
    rw [compR_plain]
    exact hp
/-- [e for x in xs if f] -/
theorem el_lcL {α : Type} {tl : TE} {j : Nat} {P : List A → Om → Prop} (xs : List α) (enc : α → A) (hn : xs.length ≤ 16777216) (f : α → Bool) (e : α → PyData) (h : EG H0 tl δ ω fun a ω1 => ω1 = ω ∧ Itm K H0 ω a (xs.map enc) ∧ ∀ acc, Itm K H0 (ω ++ [.lst acc]) a (xs.map enc))
    (hs : ∀ x, x ∈ xs → ∀ ω', (∃ acc, ω' = ω ++ [.lst acc]) → ET H0 tt ((wipeA δ [j]).set j (some (enc x))) ω' (fun b ω2 => b = f x ∧ ω2 = ω') ∧ (f x = true → EG H0 te ((wipeA δ [j]).set j (some (enc x))) ω' fun y ω3 => y = .dat (e x) ∧ ω3 = ω'))
    (hp : P (((xs.filter f).map e).map .dat) ω) : EL H0 (tLc (iList K tl) (gName j) tt te [j]) δ ω P := by
  refine el_lc (xs := xs) (it := fun _ x => enc x) (fun _ => f) (fun _ => e) (gw_name (by simp)) (szOk hn) ?_
  refine sr_list (h.imp fun a ω1 ⟨eω, h1, h2⟩ => ?_)
  subst eω
  refine ⟨_, h1, (mapIdx_const _ _).symm, h2, fun i x acc hx => ?_, ?_⟩
  · obtain ⟨h1, h2⟩ := hs x (List.mem_of_getElem? hx) _ ⟨acc, rfl⟩
    exact ⟨_, gx_name, h1, h2⟩
  · rw [compR_plain]
    exact hp
/-- [e for i, x in enumerate(xs) if f] -/
theorem el_lcE {α : Type} {ts : TA} {j k : Nat} {P : List A → Om → Prop} (xs : List α) (enc : α → PyData) (hn : xs.length ≤ 16777216) (f : Nat → α → Bool) (e : Nat → α → PyData) (h : EA H0 ts δ ω fun bs ω1 => ω1 = ω ∧ ∃ a, bs = [a] ∧ Itm K H0 ω a ((xs.map enc).map .dat) ∧ ∀ acc, Itm K H0 (ω ++ [.lst acc]) a ((xs.map enc).map .dat))
    (hs : ∀ i x, xs[i]? = some x → ∀ ω', (∃ acc, ω' = ω ++ [.lst acc]) → ET H0 tt (((wipeA δ [j, k]).set j (some (.dat (.int (i : Nat))))).set k (some (.dat (enc x)))) ω' (fun b ω2 => b = f i x ∧ ω2 = ω') ∧ (f i x = true → EG H0 te (((wipeA δ [j, k]).set j (some (.dat (.int (i : Nat))))).set k (some (.dat (enc x)))) ω' fun y ω3 => y = .dat (e i x) ∧ ω3 = ω'))
    (hp : P ((compR xs f e).map .dat) ω) : EL H0 (tLc (iEnum K ts) (gTup K 2 (gCons (gName j) (gCons (gName k) gNil))) tt te [j, k]) δ ω P := by
  refine el_lc (xs := xs) (it := fun i x => .dat (.tuple [.int (i : Nat), enc x])) f e (gw_tup2 (by simp) (by simp)) (szOk hn) ?_
  refine sr_enum fun σ H vs as S Q q => h σ H vs as S Q fun bs ω1 us H1 ⟨eω, a, eb, i1, i2⟩ hl S1 => q bs ω1 us H1 ⟨a, xs.map enc, eb, by rw [eω]; exact i1, ?_, by rw [eω]; exact i2, fun i x acc hx => ?_, by rw [eω]; exact hp⟩ hl S1
  · unfold enA
    apply List.ext_getElem?
    intro i
    rw [List.getElem?_mapIdx, List.getElem?_mapIdx, List.getElem?_map]
    cases xs[i]? <;> rfl
  · subst eω
    obtain ⟨h1, h2⟩ := hs i x hx _ ⟨acc, rfl⟩
    exact ⟨_, gx_tup2, h1, h2⟩
end
/-- the ways through a statement meet -/
theorem sx_cut {H0 : Hp} {δ : Sl} {ω : Om} {P : Post} {t u : TS} (J : Sl → Om → Prop) (h : SX H0 t δ ω { P with nx := J }) (k : ∀ δ' ω', J δ' ω' → SX H0 u δ' ω' P) : SX H0 (tSeq t u) δ ω P :=
  sx_seq fun σ H vs as S D c => h σ H vs as S D ⟨fun δ' ω' σ' H' j S' => c.nx δ' ω' σ' H' (k δ' ω' j) S', c.rt, c.bk, c.ct⟩
end Y

/-! Lay7: the dict PARTS as the top has written it; its test. -/
namespace Y
open PySem PySem.Spec L2
theorem PT.ask {X : Cx} {e : Expr} {t t' : TT} (h : PT X e t) (i : ∀ σ H Q, t' σ H Q → t σ H Q) : PT X e t' := ⟨fun pins s σ H Q I q => h.run pins s σ H Q I (i σ H Q q)⟩
theorem pt_partsNot {X : Cx} {te : TE} {e : Expr} {pp pos : Pos} {d : Addr} (p : PartsOk X.K X.w d) (hg : Gl X "PARTS") (hm : X.mg "PARTS" = some (.ref d)) (he : PE X e te) (mono : ∀ σ H Q Q', (∀ v H1, Q v H1 → Q' v H1) → te σ H Q → te σ H Q') : PT X (.Compare e [.NotIn] [.Name "PARTS" pp] pos) (tB (tPartsNot te)) := by
  obtain ⟨es, n, D⟩ := p.ex
  refine PT.ask (pt_cmpR (op_notIn_kd D) he (pe_glob (v := .ref d) hg hm rfl) (by rfl)) fun σ H Q q => mono σ H _ _ (fun x H1 h => ?_) q
  obtain ⟨z, rfl, h⟩ := h
  obtain ⟨r, hr, hi, _⟩ := p.has z
  exact ⟨z, r, rfl, rfl, hr, by rw [hi]; exact h⟩
theorem ne_sg0 : wSend ≠ wGot := by decide +kernel
theorem ne_sn0 : wSend ≠ wNote := by decide +kernel
theorem ne_gn0 : wGot ≠ wNote := by decide +kernel
theorem parts_mk {K : PySem.W.Frag} {w : World} {d : Addr} {h1 h2 h3 : Int} {u1 u2 u3 v1 v2 v3 : Tok} {n : Nat}
    (pL : K.lookup d = some ⟨.type "dict", none, .dict #[⟨h1, .str wSend u1, .int 3 v1⟩, ⟨h2, .str wGot u2, .int 3 v2⟩, ⟨h3, .str wNote u3, .int 2 v3⟩] n, #[]⟩)
    (pK : PySem.W.KeysLit w.params [⟨h1, .str wSend u1, .int 3 v1⟩, ⟨h2, .str wGot u2, .int 3 v2⟩, ⟨h3, .str wNote u3, .int 2 v3⟩]) (pS : (d == sysModules) = false) : PartsOk K w d where
  ex := ⟨_, _, pL, pK, pS⟩
  has z := by
    have e : PySem.W.nsIn K d z = if wSend = z then some (some (.int 3 v1)) else if wGot = z then some (some (.int 3 v2)) else if wNote = z then some (some (.int 2 v3)) else some none := by
      unfold PySem.W.nsIn
      rw [pL]
      simp only [List.find?, Value.isStr]
      have f : ∀ a b : Str, a ≠ b → (a == b) = false := fun a b h => by simpa using h
      have t : ∀ a : Str, (a == a) = true := fun a => by simp
      by_cases a : wSend = z
      · subst a; rw [if_pos rfl, t]
      · rw [if_neg a, f _ _ a]
        by_cases b : wGot = z
        · subst b; rw [if_pos rfl, t]
        · rw [if_neg b, f _ _ b]
          by_cases c : wNote = z
          · subst c; rw [if_pos rfl, t]
          · rw [if_neg c, f _ _ c]
            rfl
    rw [e]
    by_cases a : wSend = z
    · subst a; exact ⟨_, rfl, rfl, fun u h => ⟨v1, by cases h; rfl⟩⟩
    · rw [if_neg a]
      by_cases b : wGot = z
      · subst b; rw [if_pos rfl]; exact ⟨_, rfl, rfl, fun u h => ⟨v2, by cases h; rfl⟩⟩
      · rw [if_neg b]
        by_cases c : wNote = z
        · subst c; rw [if_pos rfl]; exact ⟨_, rfl, rfl, fun u h => ⟨v3, by cases h; rfl⟩⟩
        · rw [if_neg c]
          refine ⟨_, rfl, ?_, fun u h => by cases h⟩
          unfold isWord
          rw [decide_eq_false (fun h => a h.symm), decide_eq_false (fun h => b h.symm), decide_eq_false (fun h => c h.symm)]
          rfl
end Y

/-! Lay8: a def's body that hands back a tuple of lists of its own. -/
namespace Y
open PySem PySem.Spec L2
def SX0 (H0 : Hp) (ts : TS) (δ : Sl) (ω : Om) (P : Post) : Prop := ∀ (σ : L2.St) (H : Hp), Sta H0 σ H [] δ ω [] → ∀ D : Ends, Cov H0 [] [] D P → ts D σ H
section
variable {K : PySem.W.Frag} {H0 : Hp} {δ : Sl} {ω : Om} {P : Post} {t u : TS} {ts : TA}
theorem sx0_of (h : SX H0 t δ ω P) : SX0 H0 t δ ω P := fun σ H S D c => h σ H _ _ S D c
theorem sx0_seq (h : SX H0 t δ ω { P with nx := fun δ' ω' => SX0 H0 u δ' ω' P }) : SX0 H0 (tSeq t u) δ ω P := fun σ H S D c =>
  h σ H _ _ S _ ⟨fun δ' ω' σ' H' hp S' => hp σ' H' S' D c, c.rt, c.bk, c.ct⟩
theorem sx0_if {tc : TT} (h : ET H0 tc δ ω fun b ω1 => (b = true → SX0 H0 t δ ω1 P) ∧ (b = false → SX0 H0 u δ ω1 P)) : SX0 H0 (tIfS tc t u) δ ω P := fun σ H S D c =>
  h σ H _ _ S _ fun b ω1 H1 ⟨h1, h2⟩ S1 => by
    cases b with
    | true => exact iteT (h1 rfl σ H1 S1 D c)
    | false => exact iteF (h2 rfl σ H1 S1 D c)
theorem sx0_retT (h : EA H0 ts δ ω fun bs ω1 => ∃ ds, FinA ω1 bs ds ∧ ds.length ≤ sizeLine ∧ P.rt (.dat (.tuple ds)) []) : SX0 H0 (tRet (tTup ts)) δ ω P := fun σ H S D c =>
  h σ H _ _ S _ fun bs ω1 us H1 ⟨ds, f, hz, hp⟩ hl S1 => by
    obtain ⟨ps, I⟩ := S1
    have hu : us.length = ds.length := by
      have : ∀ (bs : List A) (ds : List PyData), FinA ω1 bs ds → bs.length = ds.length := by
        intro bs
        induction bs with
        | nil => intro ds h; cases h; rfl
        | cons b bs ih => intro ds h; cases h with | cons _ h => simp [ih _ h]
      rw [hl, this _ _ f]
    refine ⟨by rw [hu]; exact hz, fun p n => ?_⟩
    have e : Same H1 (upd H1 p (.tup us)) := fun b u q => by rw [upd_ne (ne_of_none q n)]; exact q
    have J := I.grow e
    have h0 : H0 p = none := by
      cases h0 : H0 p with
      | none => rfl
      | some u => rw [I.old _ _ h0] at n; cases n
    have q1 := (RvA.split (as1 := bs) (as2 := []) (vs1 := us) (vs2 := []) hl J.stk).1
    refine c.rt _ [] [] _ [] _ hp ⟨[], fun j k b z => by simp at z, rfl, J.old, fun b z => by simp at z, fun k o z => by simp at z, rfl, fun i a z => by simp at z, .cons (.tup (xs := us) ?_ (FinA.rp J ds f q1)) .nil⟩
    rw [vis_new (by simp) h0]; exact upd_same
end
section
variable {P : Program} {w : World} {K : PySem.W.Frag} {mg : Str → Option Value} {base : Heap}
theorem okN0 {x qual : Str} {st : Stmt} {f : Addr} {fd : FuncData} {N ps : List Str} {k : Nat} {ε : Type} {C : ε → Addr} {R : List PyData → Res ε → Prop} (F : Fun K x qual st f fd) (S : FnScope N ps (defScope st)) (hlen : ∀ ds r, R ds r → ds.length = ps.length) (n : Nat) (hn : N.length = ps.length + n) (t : TS)
    (hd : ∀ (cdv : Value) (A : Around) (outer : List PySem.Env) (s : Shared) (H : Hp) (E : XK), Room k (A.deeper (PyProof.Rows.envOfC qual (defScope st) s.heap.objs.size f cdv)) → PSs (cxOf CX0 P w K mg base N qual (defScope st) f cdv A outer s H E).nox (defBody st) t)
    (hw : ∀ (H : Hp) (ds : List PyData) (r : Res ε), R ds r → SX0 H t (entry ds n) [] (HandR r)) : FnOk P w K mg base CX0 (k + 1) f fd ps (Pr C R) :=
  F.ok S (fun vs H Q E ⟨ds, r, h1, h2, _⟩ => by rw [h1.len]; exact hlen ds r h2) fun cdv A outer s H vs Q E hr ⟨ds, r, h1, h2, h3⟩ =>
    ⟨t, hd cdv A outer s H E hr, hw H ds r h2 _ _ (sta_entry n h1 (start_eq hn (by rw [h1.len]; exact hlen ds r h2))) _ (cov_handR h3)⟩
end
end Y

/-! Lay9: list(reversed(a list)). -/
namespace Y
open PySem PySem.Spec PySem.Calls PyProof.Rows PyProof.V L2 RT
section
variable {prog : Program} {w : World} {A : Around} {E : Value → Shared → Prop} {s : Shared}
theorem extend_rev {R : Result → Shared → Prop} {it l S : Addr} {items : Array Value} (res : Value) (hh : A.handled = none) (hit : s.heap.IsRevIter it l ((items.size : Int) - 1)) (hl : s.heap.IsList l items) (hne : l ≠ it) (hn : items.size ≤ sizeLine)
    (hSi : S ≠ it) (hSl : S ≠ l) (c0 : Nat) (hS : s.heap.get? S = some { cls := .type "list", data := .seq #[] c0 })
    (hR : ∀ h' tk acc' c', (∀ b o, b ≠ S → b ≠ it → s.heap.get? b = some o → h'.get? b = some o) → h'.get? S = some { cls := .type "list", dict := none, data := .seq acc' c', slots := #[] } → ItemsOf (fun i v => items[items.size - 1 - i]? = some v) acc' items.size → R (.ok (.ret res)) { s with heap := h', toks := tk }) :
    wpAny (model prog w) A.in1 (Builtin.List.listExtendWith (.ref S) (.ref it) res)
      (fun fin s' => match fin with | .done f => R (.ok f) s' | .again c' => c'.quiet = true ∧ codeAny (model prog w) A c' R s') (fun e s' => R (.error e) s') s := by
  have W := (Walks.listRev (prog := prog) (w := w) (A := A.in1) hh it l hne items).toS
  have hSf : S ∉ [it, l] := by simp only [List.mem_cons, List.not_mem_nil, or_false, not_or]; exact ⟨hSi, hSl⟩
  have hT : s.TypeIs (.ref it) "list_reverseiterator" := Heap.IsRevIter.typeIs hit
  have h1 : Builtin.List.listSameRef (.ref S) (.ref it) = false := by simp [Builtin.List.listSameRef, hSi]
  unfold Builtin.List.listExtendWith
  refine wpAny_bind (wpAny_typeOf hT ?_)
  rw [if_neg (by rw [h1]; decide)]
  refine wpAny_bind (wpAny_pyIter_revIter hit ?_)
  refine wpAny_bind (wpAny_holding ?_)
  unfold Builtin.List.listLengthHint
  refine wpAny_bind (wpAny_specialOf hT nolen_lri ?_)
  show wpAny _ A.in1 (specialOf (Value.ref it) (Str.ofString "__length_hint__") >>= _) _ _ _
  refine wpAny_bind (wpAny_specialOf hT hint_lri ?_)
  generalize hid : ("list_reverseiterator.__length_hint__" : String) = id0
  wp_delta
  rw [show splitId id0 = some ("list_reverseiterator", "__length_hint__") from by subst hid; decide +kernel]
  subst hid
  refine wpAny_bind (wpAny_isInstance (b := true) hT (by rw [isSubtype_type]; kernel_rfl) ?_)
  refine wpAny_pure ?_
  rw [if_neg (by decide)]
  have e0 : ((items.size : Nat) : Int) - 1 - ((0 : Nat) : Int) = (items.size : Int) - 1 := by omega
  refine wpAny_pure ⟨plainId_quiet F.plain_extend_loop _, codeAny_extend_loopS W hn _ hSf _ items.size 0 _ _ _ rfl (Nat.zero_le _) ⟨Nat.zero_le _, by rw [e0]; exact hit, hl⟩ hS (ItemsOf.nil _) fun s' acc' c' hm hS' hacc => ?_⟩
  rw [Moved.eq_with hm]
  refine hR s'.heap s'.toks acc' c' (fun b o hb hb2 e => hm.heap b o (fun hmem => ?_) e) hS' hacc
  rcases List.mem_cons.mp hmem with e' | hmem
  · exact hb e'
  · exact hb2 (List.mem_singleton.mp hmem)
theorem call_list_rev {it l : Addr} {items : Array Value} {Q : Value → Shared → Prop} (hh : A.handled = none) (hit : s.heap.IsRevIter it l ((items.size : Int) - 1)) (hl : s.heap.IsList l items) (hne : l ≠ it) (hn : items.size ≤ sizeLine)
    (hQ : ∀ h' tk acc' c', (∀ b o, b ≠ it → s.heap.get? b = some o → h'.get? b = some o) → h'.get? s.heap.objs.size = some { cls := .type "list", dict := none, data := .seq acc' c', slots := #[] } → ItemsOf (fun i v => items[items.size - 1 - i]? = some v) acc' items.size → Q (.ref s.heap.objs.size) { s with heap := h', toks := tk }) :
    wpAny (model prog w) A (call (.type "list") [.ref it]) Q E s := by
  obtain ⟨oi, hoi, _⟩ := id hit
  obtain ⟨ol, hol, _⟩ := id hl
  have hSi : s.heap.objs.size ≠ it := Nat.ne_of_gt (Heap.lt_size hoi)
  have hSl : s.heap.objs.size ≠ l := Nat.ne_of_gt (Heap.lt_size hol)
  refine callType_codes (Q₁ := fun obj s₁ => obj = .ref s.heap.objs.size ∧ s₁ = { s with heap := s.heap.push { cls := .type "list", data := .seq #[] } }) PySem.F.called_list (PySem.F.typeCall_list_1 _) PySem.F.entry_list_init
    (code_list_new _ ⟨rfl, rfl⟩) fun obj s₁ h₁ => ?_
  obtain ⟨rfl, rfl⟩ := h₁
  have hS : (s.heap.push { cls := .type "list", data := .seq #[] }).get? s.heap.objs.size = some { cls := .type "list", data := .seq #[] } := Heap.get?_push_size _ rfl
  refine ⟨⟨_, hS, rfl⟩, PySem.F.args_list_init_2 _ _, ?_⟩
  show wpAny _ A.in1.in1 (do let old ← Builtin.List.listItems (.ref s.heap.objs.size); Builtin.List.listUpdate (.ref s.heap.objs.size) (fun _ => #[]); letGo old.toList.reverse; Builtin.List.listExtendWith (.ref s.heap.objs.size) (.ref it) .none) _ _ _
  refine wpAny_bind ?_
  unfold Builtin.List.listItems
  refine wpAny_bind (wpAny_seqItems hS rfl (wpAny_pure ?_))
  show wpAny _ A.in1.in1 (updateSeq s.heap.objs.size (fun _ => #[]) >>= fun _ => letGo (#[] : Array Value).toList.reverse >>= fun _ => Builtin.List.listExtendWith (.ref s.heap.objs.size) (.ref it) .none) _ _ _
  refine wpAny_bind (wpAny_updateSeq hS rfl ?_)
  have hS₂ := Heap.get?_update_self (Obj.mapSeq (fun _ => (#[] : Array Value))) hS rfl
  have oth : ∀ b o, b ≠ s.heap.objs.size → (s.heap.push { cls := .type "list", data := .seq #[] }).get? b = some o → ((s.heap.push { cls := .type "list", data := .seq #[] }).update s.heap.objs.size (Obj.mapSeq (fun _ => (#[] : Array Value)))).get? b = some o :=
    fun b o hb e => (Heap.get?_update_other _ _ (Ne.symm hb)).trans e
  refine wpAny_bind (wpAny_letGo ?_)
  have hit1 : ((s.heap.push { cls := .type "list", data := .seq #[] }).update s.heap.objs.size (Obj.mapSeq (fun _ => (#[] : Array Value)))).IsRevIter it l ((items.size : Int) - 1) := hit.at fun o e => oth _ _ hSi.symm (Heap.get?_push_of_some _ e)
  have hl1 : ((s.heap.push { cls := .type "list", data := .seq #[] }).update s.heap.objs.size (Obj.mapSeq (fun _ => (#[] : Array Value)))).IsList l items := hl.at fun o e => oth _ _ hSl.symm (Heap.get?_push_of_some _ e)
  refine extend_rev (A := A.in1) .none hh hit1 hl1 hne hn hSi hSl _ hS₂ fun h' tk acc' c' hk hS' hacc => ?_
  exact ⟨rfl, hQ h' tk acc' c' (fun b o hb e => hk b o (Nat.ne_of_lt (Heap.lt_size e)) hb (oth b o (Nat.ne_of_lt (Heap.lt_size e)) (Heap.get?_push_of_some _ e))) hS' hacc⟩
end
section
variable {X : Cx}
theorem pe_lstRev {e : Expr} {te : TE} {p p2 pos pos2 : Pos} (hc : X.calm = true) (hg : Gl X "list") (hm : X.mg "list" = none) (hg2 : Gl X "reversed") (hm2 : X.mg "reversed" = none) (he : PE X e te)
    (hs : starEach [e] X.env = (false, eval e X.env) :: starEach [] X.env := by rfl)
    (hs2 : starEach [.Call (.Name "reversed" p2) [e] [] pos2] X.env = (false, eval (.Call (.Name "reversed" p2) [e] [] pos2) X.env) :: starEach [] X.env := by rfl) :
    PE X (.Call (.Name "list" p) [.Call (.Name "reversed" p2) [e] [] pos2] [] pos) (tLstRev X.K te) := by
  refine ⟨fun pins s σ H Q I h => ?_⟩
  refine Call_ (ld_blt I hg hm boot_list (PyProof.Rows.callWith_type1 (args_cons (Call_ (ld_blt I hg2 hm2 PyProof.Rows.boot_reversed (PyProof.Rows.callWith_type1 (args_cons (thn (he.run pins s σ H _ I h) fun u s1 ⟨v, H1, I1, r1, q1⟩ => args_nil ?_) hs) hs rfl))) hs2) hs2 rfl))
  obtain ⟨a, xs, ev, hq, q⟩ := q1
  subst ev
  obtain rfl : u = Value.ref a := r1
  obtain ⟨its, rv, p', hz⟩ := I1.list hq
  refine call_reversed_list p'.isList (args_nil ?_)
  have k0 : ∀ b o, s1.heap.get? b = some o → (s1.heap.push (revObj a ((its.toArray.size : Int) - 1))).get? b = some o := fun b o e => Heap.get?_push_of_some _ e
  have I2 : Inv X pins σ H1 { s1 with heap := s1.heap.push (revObj a ((its.toArray.size : Int) - 1)) } := I1.kept (t' := s1.toks) k0
  have fp := I1.fpOk (H' := H1) (b := s1.heap.objs.size) (Nat.le_refl _) (I1.hok.fresh (Nat.le_refl _))
  have hl := p'.isList
  obtain ⟨ol, hol, _⟩ := id hl
  have hne : a ≠ s1.heap.objs.size := Nat.ne_of_lt (Heap.lt_size hol)
  have hn : its.toArray.size ≤ sizeLine := by rw [List.size_toArray, ← rv.length]; exact hz
  refine call_list_rev (s := { s1 with heap := s1.heap.push (revObj a ((its.toArray.size : Int) - 1)) }) (I1.ok.hd hc) ⟨_, Heap.get?_push_size _ rfl, rfl, rfl⟩ (hl.push _) hne hn fun h' tk acc c' hk hD hi => ?_
  refine ⟨.ref (s1.heap.push (revObj a ((its.toArray.size : Int) - 1))).objs.size, upd H1 (s1.heap.push (revObj a ((its.toArray.size : Int) - 1))).objs.size (.lst xs.reverse), I2.turnedNew (t' := tk) (ch := [s1.heap.objs.size]) (fun b o hb e => hk b o (fun z => hb (by simp [z])) e) (fun b hb => by rw [List.mem_singleton.mp hb]; exact fp) (Nat.le_refl _) (show ObjOk X.prog X.w _ _ _ (.lst xs.reverse) from ⟨by rw [List.length_reverse]; exact hz, acc.toList, c', vals_rev rv hi, ?_⟩), rfl, q _ (I2.hok.fresh (Nat.le_refl _))⟩
  rw [Array.toArray_toList]
  exact hD
end
end Y

/-! Lay10: a def that hands back a dict of its own, numbers by numbers. -/
namespace Y
open PySem PySem.Spec L2
abbrev dkv (kvs : List (Int × Int)) : List (Key × V) := kvs.map fun e => (Sum.inl e.1, V.int e.2)
def PrD {ε : Type} (C : ε → Addr) (R : List PyData → List (Int × Int) → Prop) : Sp := fun vs H Q E => ∃ ds kvs, RpA H vs ds ∧ R ds kvs ∧ ∀ p H', Same H H' → H p = none → H' p = some (.dK (dkv kvs)) → Q (.ref p) H'
def HandD (kvs : List (Int × Int)) : Post := { nx := fun _ _ => False, rt := fun a ω => ∃ k, a = .ptr k ∧ ω[k]? = some (.dic (dkv kvs)) }
theorem cov_handD {H : Hp} {Q : VK} {kvs : List (Int × Int)} (q : ∀ p H', Same H H' → H p = none → H' p = some (.dK (dkv kvs)) → Q (.ref p) H') : Cov H [] [] { nx := fun _ H' => Q .non H', rt := Q } (HandD kvs) where
  nx := fun _ _ _ _ e _ => e.elim
  rt := fun a δ ω v σ H' ⟨k, e, hk⟩ ⟨ps, I⟩ => by
    subst e
    obtain ⟨⟨p, h1, rfl⟩, _⟩ := I.pop
    rcases I.obs k _ hk with ⟨z, _⟩ | ⟨p', ho, h2, h3, h4⟩
    · cases z
    · rw [h1] at h2
      cases h2
      cases ho with
      | dK kvs' =>
        have h4 : kvs' = dkv kvs := h4
        subst h4
        exact q p H' I.old (I.new p (List.mem_of_getElem? h1)) h3
      | _ => exact h4.elim
  bk := fun _ _ _ _ e _ => e.elim
  ct := fun _ _ _ _ e _ => e.elim
section
variable {P : Program} {w : World} {K : PySem.W.Frag} {mg : Str → Option Value} {base : Heap}
theorem okD {x qual : Str} {st : Stmt} {f : Addr} {fd : FuncData} {N ps : List Str} {k : Nat} {ε : Type} {C : ε → Addr} {R : List PyData → List (Int × Int) → Prop} (F : Fun K x qual st f fd) (S : FnScope N ps (defScope st)) (hlen : ∀ ds r, R ds r → ds.length = ps.length) (n : Nat) (hn : N.length = ps.length + n) (t : TS)
    (hd : ∀ (cdv : Value) (A : Around) (outer : List PySem.Env) (s : Shared) (H : Hp) (E : XK), Room k (A.deeper (PyProof.Rows.envOfC qual (defScope st) s.heap.objs.size f cdv)) → PSs (cxOf CX0 P w K mg base N qual (defScope st) f cdv A outer s H E).nox (defBody st) t)
    (hw : ∀ (H : Hp) (ds : List PyData) (r : List (Int × Int)), R ds r → SX H t (entry ds n) [] (HandD r)) : FnOk P w K mg base CX0 (k + 1) f fd ps (PrD C R) :=
  F.ok S (fun vs H Q E ⟨ds, r, h1, h2, _⟩ => by rw [h1.len]; exact hlen ds r h2) fun cdv A outer s H vs Q E hr ⟨ds, r, h1, h2, h3⟩ =>
    ⟨t, hd cdv A outer s H E hr, hw H ds r h2 _ _ _ _ (sta_entry n h1 (start_eq hn (by rw [h1.len]; exact hlen ds r h2))) _ (cov_handD h3)⟩
end
section
variable {K : PySem.W.Frag} {H0 : Hp} {δ : Sl} {ω : Om}
theorem eg_callD {ε : Type} {C : ε → Addr} {R : List PyData → List (Int × Int) → Prop} {E : XK} {ts : TA} {P : A → Om → Prop} (h : EA H0 ts δ ω fun bs ω1 => ∃ ds kvs, RdA ω1 bs ds ∧ R ds kvs ∧ P (.ptr ω1.length) (ω1 ++ [.dic (dkv kvs)])) : EG H0 (tCall (PrD C R) [] E ts) δ ω P := fun σ H vs as S Q q =>
  h σ H vs as S _ fun bs ω1 us H1 ⟨ds, kvs, hd, hr, hp⟩ hl S1 => by
    rw [List.append_nil]
    obtain ⟨ps, I⟩ := S1
    obtain ⟨q1, q2⟩ := RvA.split hl I.stk
    have I2 : Inn H0 ps σ H1 vs δ ω1 as := { I with stk := q2 }
    refine ⟨ds, kvs, RdA.rp I ds hd q1, hr, fun p H' e n hp' => ?_⟩
    exact q _ _ _ _ hp ⟨_, I2.adopt (H' := H') (p := p) (o := .dic (dkv kvs)) (ho := .dK (dkv kvs)) n e hp' rfl⟩
end
end Y

/-! Lay11: a def that hands back a list of lists of numbers, each of them its own. -/
namespace Y
open PySem PySem.Spec L2
abbrev oN (ns : List Int) : Ob := .lst (ns.map fun n => .dat (.int n))
abbrev hN (ns : List Int) : HO := .lst (ns.map V.int)
/-- where the inner lists lie -/
def Lies (H : Hp) : List Addr → List (List Int) → Prop
  | [], [] => True
  | q :: qs, ns :: T => H q = some (hN ns) ∧ Lies H qs T
  | _, _ => False
theorem Lies.mono {H H' : Hp} (e : Same H H') : ∀ {qs : List Addr} {T : List (List Int)}, Lies H qs T → Lies H' qs T
  | [], [], _ => trivial
  | q :: qs, ns :: T, ⟨a, b⟩ => ⟨e _ _ a, Lies.mono e b⟩
  | [], _ :: _, h => h.elim
  | _ :: _, [], h => h.elim
theorem Lies.len {H : Hp} : ∀ {qs : List Addr} {T : List (List Int)}, Lies H qs T → qs.length = T.length
  | [], [], _ => rfl
  | q :: qs, ns :: T, ⟨_, b⟩ => by simp [Lies.len b]
  | [], _ :: _, h => h.elim
  | _ :: _, [], h => h.elim
def PrN {ε : Type} (C : ε → Addr) (R : List PyData → Except ε (List (List Int)) → Prop) : Sp := fun vs H Q E => ∃ ds r, RpA H vs ds ∧ R ds r ∧
  (match r with
  | .ok T => ∀ p qs H', Same H H' → H p = none → (∀ q ∈ qs, H q = none) → (p :: qs).Nodup → H' p = some (.lst (qs.map V.ref)) → Lies H' qs T → Q (.ref p) H'
  | .error e => ∀ H', Same H H' → E (.ref (C e)) none H')
theorem rvA_nums {ps : List (Option Addr)} {H0 H : Hp} (ns : List Int) : RvA ps H0 H (ns.map fun n => .dat (.int n)) (ns.map V.int) := by
  induction ns with
  | nil => exact .nil
  | cons n ns ih => exact .cons (show Rp _ _ _ from .int n) ih
section
variable {H0 : Hp} {σ : L2.St} {vs : List V} {δ : Sl} {as : List A}
/-- many lists of numbers are taken on -/
theorem adopt_all {H' : Hp} : ∀ (qs : List Addr) (T : List (List Int)) {ps : List (Option Addr)} {H : Hp} {ω : Om}, Inn H0 ps σ H vs δ ω as → Same H H' → (∀ q ∈ qs, H q = none) → qs.Nodup → Lies H' qs T →
    ∃ H1, Inn H0 (ps ++ qs.map some) σ H1 vs δ (ω ++ T.map oN) as ∧ Same H1 H' ∧ ∀ b, H b = none → b ∉ qs → H1 b = none
  | [], [], ps, H, ω, I, e, _, _, _ => ⟨H, by simpa using I, e, fun b h _ => h⟩
  | q :: qs, ns :: T, ps, H, ω, I, e, hn, nd, ⟨h1, h2⟩ => by
    have hq := hn q List.mem_cons_self
    have eH : Same H (upd H q (hN ns)) := fun b u z => by rw [upd_ne (ne_of_none z hq)]; exact z
    have eH' : Same (upd H q (hN ns)) H' := fun b u z => by
      by_cases hb : b = q
      · subst hb
        rw [upd_same] at z
        cases z
        exact h1
      · rw [upd_ne hb] at z
        exact e _ _ z
    have J := (I.adopt (H' := upd H q (hN ns)) (p := q) (o := oN ns) (ho := hN ns) hq eH upd_same (rvA_nums ns)).pop.2
    obtain ⟨nq, nd'⟩ := List.nodup_cons.mp nd
    obtain ⟨H1, K1, K2, K3⟩ := adopt_all qs T J eH' (fun q' hq' => by
      have : q' ≠ q := fun z => nq (z ▸ hq')
      rw [upd_ne this]
      exact hn q' (List.mem_cons_of_mem _ hq')) nd' h2
    refine ⟨H1, by simpa using K1, K2, fun b hb hm => K3 b ?_ (fun z => hm (List.mem_cons_of_mem _ z))⟩
    rw [upd_ne (fun z => hm (by rw [z]; exact List.mem_cons_self))]
    exact hb
  | [], _ :: _, _, _, _, _, _, _, _, h => h.elim
  | _ :: _, [], _, _, _, _, _, _, _, h => h.elim
end
section
variable {K : PySem.W.Frag} {H0 : Hp} {δ : Sl} {ω : Om}
abbrev ptrs (k n : Nat) : List A := (List.range n).map fun i => .ptr (k + i)
theorem eg_callN {ε : Type} {C : ε → Addr} {R : List PyData → Except ε (List (List Int)) → Prop} {E : XK} {ts : TA} {P : A → Om → Prop} (h : EA H0 ts δ ω fun bs ω1 => ∃ ds r, RdA ω1 bs ds ∧ R ds r ∧
    (match r with
    | .ok T => P (.ptr (ω1.length + T.length)) (ω1 ++ T.map oN ++ [.lst (ptrs ω1.length T.length)])
    | .error e => ∀ H', Same H0 H' → E (.ref (C e)) none H')) : EG H0 (tCall (PrN C R) [] E ts) δ ω P := fun σ H vs as S Q q =>
  h σ H vs as S _ fun bs ω1 us H1 ⟨ds, r, hd, hr, hk⟩ hl S1 => by
    rw [List.append_nil]
    obtain ⟨ps, I⟩ := S1
    obtain ⟨q1, q2⟩ := RvA.split hl I.stk
    have I2 : Inn H0 ps σ H1 vs δ ω1 as := { I with stk := q2 }
    refine ⟨ds, r, RdA.rp I ds hd q1, hr, ?_⟩
    cases r with
    | error e => exact fun H' s => hk H' (I.old.trans s)
    | ok T =>
      intro p qs H' e n hn nd hp hl
      obtain ⟨np, nd'⟩ := List.nodup_cons.mp nd
      obtain ⟨H2, J, e2, h3⟩ := adopt_all qs T I2 e hn nd' hl
      have hlen := I2.len
      have rp : ∀ (l : List Addr) (k : Nat) (xs : List (Option Addr)), xs.length = k → RvA (xs ++ l.map some ++ [some p]) H0 H' (ptrs k l.length) (l.map V.ref) := by
        intro l
        induction l with
        | nil => intro k xs _; exact .nil
        | cons b l ih =>
          intro k xs hx
          have e1 : ptrs k (b :: l).length = .ptr k :: ptrs (k + 1) l.length := by
            unfold ptrs
            rw [List.length_cons, List.range_succ_eq_map, List.map_cons, List.map_map]
            congr 1
            refine List.map_congr_left fun i _ => ?_
            show A.ptr (k + (i + 1)) = A.ptr (k + 1 + i)
            congr 1
            omega
          rw [e1]
          refine .cons ⟨b, ?_, rfl⟩ ?_
          · rw [List.append_assoc, List.getElem?_append_right (by omega), hx, Nat.sub_self]
            rfl
          · have := ih (k + 1) (xs ++ [some b]) (by simp [hx])
            simpa using this
      have Z := J.adopt (H' := H') (p := p) (o := .lst (ptrs ω1.length T.length)) (ho := .lst (qs.map V.ref)) (h3 p n np) e2 hp (by
        have := rp qs ω1.length ps hlen
        rw [hl.len] at this
        exact this)
      have hol : (ω1 ++ T.map oN).length = ω1.length + T.length := by simp
      rw [hol] at Z
      exact q _ _ _ _ hk ⟨_, Z⟩
end
/-! ### the def's side -/
def LiesO (ω : Om) : List Nat → List (List Int) → Prop
  | [], [] => True
  | j :: js, ns :: T => ω[j]? = some (oN ns) ∧ LiesO ω js T
  | _, _ => False
def Pts (ps : List (Option Addr)) : List Nat → List Addr → Prop
  | [], [] => True
  | j :: js, q :: qs => ps[j]? = some (some q) ∧ Pts ps js qs
  | _, _ => False
def HandN (T : List (List Int)) : Post := { nx := fun _ _ => False, rt := fun a ω => ∃ k js, a = .ptr k ∧ ω[k]? = some (.lst (js.map A.ptr)) ∧ (k :: js).Nodup ∧ LiesO ω js T }
theorem pts_of {ps : List (Option Addr)} {H0 H : Hp} : ∀ {js : List Nat} {xs : List V}, RvA ps H0 H (js.map A.ptr) xs → ∃ qs, xs = qs.map V.ref ∧ Pts ps js qs
  | [], _, h => by cases h; exact ⟨[], rfl, trivial⟩
  | j :: js, _, h => by
    cases h with
    | cons h t =>
      obtain ⟨q, h1, rfl⟩ := h
      obtain ⟨qs, rfl, h2⟩ := pts_of t
      exact ⟨q :: qs, rfl, h1, h2⟩
theorem pts_in {ps : List (Option Addr)} : ∀ {js : List Nat} {qs : List Addr}, Pts ps js qs → ∀ q ∈ qs, ∃ j ∈ js, ps[j]? = some (some q)
  | [], [], _, q, hq => by cases hq
  | j :: js, q0 :: qs, ⟨h1, h2⟩, q, hq => by
    rcases List.mem_cons.mp hq with rfl | hq
    · exact ⟨j, List.mem_cons_self, h1⟩
    · obtain ⟨j', a, b⟩ := pts_in h2 q hq
      exact ⟨j', List.mem_cons_of_mem _ a, b⟩
  | [], _ :: _, h, _, _ => h.elim
  | _ :: _, [], h, _, _ => h.elim
theorem pts_nodup {ps : List (Option Addr)} (nd : ∀ (j k : Nat) (p : Addr), ps[j]? = some (some p) → ps[k]? = some (some p) → j = k) : ∀ {js : List Nat} {qs : List Addr}, Pts ps js qs → js.Nodup → qs.Nodup
  | [], [], _, _ => List.nodup_nil
  | j :: js, q :: qs, ⟨h1, h2⟩, hn => by
    obtain ⟨a, b⟩ := List.nodup_cons.mp hn
    refine List.nodup_cons.mpr ⟨fun hq => ?_, pts_nodup nd h2 b⟩
    obtain ⟨j', hj, e⟩ := pts_in h2 q hq
    rw [nd j j' q h1 e] at a
    exact a hj
  | [], _ :: _, h, _ => h.elim
  | _ :: _, [], h, _ => h.elim
theorem lies_of {H0 H : Hp} {ps : List (Option Addr)} {σ : L2.St} {vs : List V} {δ : Sl} {ω : Om} {as : List A} (I : Inn H0 ps σ H vs δ ω as) : ∀ {js : List Nat} {qs : List Addr} {T : List (List Int)}, Pts ps js qs → LiesO ω js T → Lies H qs T
  | [], [], [], _, _ => trivial
  | j :: js, q :: qs, ns :: T, ⟨h1, h2⟩, ⟨h3, h4⟩ => by
    obtain ⟨p, xs, e1, e2, e3⟩ := I.at_ h3
    rw [h1] at e1
    cases e1
    rw [rvA_int e3] at e2
    exact ⟨e2, lies_of I h2 h4⟩
  | [], _ :: _, _, h, _ => h.elim
  | _ :: _, [], _, h, _ => h.elim
  | [], [], _ :: _, _, h => h.elim
  | _ :: _, _ :: _, [], _, h => h.elim
def HandNR {ε : Type} : Except ε (List (List Int)) → Post
  | .ok T => HandN T
  | .error _ => { nx := fun _ _ => False, rt := fun _ _ => False }
theorem cov_handN {ε : Type} {C : ε → Addr} {H : Hp} {Q : VK} {E : XK} {r : Except ε (List (List Int))} (q : match r with
    | .ok T => ∀ p qs H', Same H H' → H p = none → (∀ q ∈ qs, H q = none) → (p :: qs).Nodup → H' p = some (.lst (qs.map V.ref)) → Lies H' qs T → Q (.ref p) H'
    | .error e => ∀ H', Same H H' → E (.ref (C e)) none H') : Cov H [] [] { nx := fun _ H' => Q .non H', rt := Q } (HandNR r) := by
  cases r with
  | error e => exact ⟨fun _ _ _ _ z _ => z.elim, fun _ _ _ _ _ _ z _ => z.elim, fun _ _ _ _ z _ => z.elim, fun _ _ _ _ z _ => z.elim⟩
  | ok T =>
    refine ⟨fun _ _ _ _ z _ => z.elim, fun a δ ω v σ H' ⟨k, js, e, hk, hn, hl⟩ ⟨ps, I⟩ => ?_, fun _ _ _ _ z _ => z.elim, fun _ _ _ _ z _ => z.elim⟩
    subst e
    obtain ⟨⟨p, h1, rfl⟩, I1⟩ := I.pop
    obtain ⟨p', xs, e1, e2, e3⟩ := I.at_ hk
    rw [h1] at e1
    cases e1
    obtain ⟨qs, rfl, hp⟩ := pts_of e3
    have hall : Pts ps (k :: js) (p :: qs) := ⟨h1, hp⟩
    refine q p qs H' I.old (I.new p (List.mem_of_getElem? h1)) (fun b hb => ?_) (pts_nodup I.nd hall hn) e2 (lies_of I hp hl)
    obtain ⟨j, _, e⟩ := pts_in hp b hb
    exact I.new b (List.mem_of_getElem? e)
section
variable {P : Program} {w : World} {K : PySem.W.Frag} {mg : Str → Option Value} {base : Heap}
theorem okRN {x qual : Str} {st : Stmt} {f : Addr} {fd : FuncData} {N ps : List Str} {k : Nat} {ε : Type} {C : ε → Addr} {R : List PyData → Except ε (List (List Int)) → Prop} (F : Fun K x qual st f fd) (S : FnScope N ps (defScope st)) (hlen : ∀ ds r, R ds r → ds.length = ps.length) (n : Nat) (hn : N.length = ps.length + n) (t : XK → TS)
    (hd : ∀ (cdv : Value) (A : Around) (outer : List PySem.Env) (s : Shared) (H : Hp) (E : XK), Room k (A.deeper (PyProof.Rows.envOfC qual (defScope st) s.heap.objs.size f cdv)) → PSs (cxOf (L2.CX P w) P w K mg base N qual (defScope st) f cdv A outer s H E) (defBody st) (t E))
    (hw : ∀ (H : Hp) (E : XK) (ds : List PyData) (r : Except ε (List (List Int))), R ds r → (∀ e, r = .error e → ∀ H', Same H H' → E (.ref (C e)) none H') → SX H (t E) (entry ds n) [] (HandNR r)) : FnOk P w K mg base (L2.CX P w) (k + 1) f fd ps (PrN C R) :=
  F.okX S (fun vs H Q E ⟨ds, r, h1, h2, _⟩ => by rw [h1.len]; exact hlen ds r h2) fun cdv A outer s H vs Q E hr ⟨ds, r, h1, h2, h3⟩ =>
    ⟨t E, hd cdv A outer s H E hr, hw H E ds r h2 (fun e he => by subst he; exact h3) _ _ _ _ (sta_entry n h1 (start_eq hn (by rw [h1.len]; exact hlen ds r h2))) _ (cov_handN h3)⟩
end
end Y

/-! Lay12: a def that writes into the list of numbers it was handed last, and hands it back. -/
namespace Y
open PySem PySem.Spec L2
def hide (H : Hp) (p : Addr) : Hp := fun b => if b = p then none else H b
theorem hide_at (H : Hp) (p : Addr) : hide H p p = none := if_pos rfl
theorem hide_ne {H : Hp} {p b : Addr} (h : b ≠ p) : hide H p b = H b := if_neg h
theorem hide_sub (H : Hp) (p : Addr) : Same (hide H p) H := fun b o h => by
  by_cases hb : b = p
  · subst hb; rw [hide_at] at h; cases h
  · rw [hide_ne hb] at h; exact h
def PrM {ε : Type} (C : ε → Addr) (R : List PyData → List Int → List Int → Prop) : Sp := fun vs H Q E => ∃ us ds p ns ns', vs = us ++ [.ref p] ∧ RpA (hide H p) us ds ∧ H p = some (hN ns) ∧ R ds ns ns' ∧ ∀ H', Same (hide H p) H' → H' p = some (hN ns') → Q (.ref p) H'
def entryM (ds : List PyData) (n : Nat) : Sl := ds.map (fun d => some (ent d)) ++ some (.ptr 0) :: List.replicate n none
def HandM (ns : List Int) : Post := { nx := fun _ _ => False, rt := fun a ω => a = .ptr 0 ∧ ω[0]? = some (oN ns) }
theorem sta_entryM {H : Hp} {us : List V} {ds : List PyData} {σ : L2.St} {p : Addr} {ns : List Int} (n : Nat) (h : RpA (hide H p) us ds) (hp : H p = some (hN ns)) (hσ : σ = (us ++ [V.ref p]).map some ++ List.replicate n none) : Sta (hide H p) σ H [.ref p] (entryM ds n) [oN ns] [.ptr 0] := by
  subst hσ
  have one : ∀ (j : Nat) (q : Addr), ([some p] : List (Option Addr))[j]? = some (some q) → j = 0 ∧ q = p := by
    intro j q e
    cases j with
    | zero => exact ⟨rfl, by cases e; rfl⟩
    | succ j => simp at e
  have hl := h.len
  refine ⟨[some p], fun j k q h1 h2 => by rw [(one j q h1).1, (one k q h2).1], rfl, hide_sub H p, fun q hq => ?_, fun k o hk => ?_, by simp [entryM, hl], fun i a e => ?_, .cons ⟨p, rfl, rfl⟩ .nil⟩
  · have : q = p := by simpa using hq
    subst this
    exact hide_at H q
  · cases k with
    | zero =>
      cases hk
      exact .inr ⟨p, _, rfl, hp, rvA_nums ns⟩
    | succ k => simp at hk
  · unfold entryM at e
    by_cases hi : i < ds.length
    · rw [List.getElem?_append_left (by simpa using hi), List.getElem?_map] at e
      cases ed : ds[i]? with
      | none => rw [ed] at e; cases e
      | some d =>
        rw [ed] at e
        cases e
        obtain ⟨v, h1, h2⟩ := h.get ed
        have hil := (List.getElem?_eq_some_iff.mp h1).1
        refine ⟨v, by rw [List.map_append, List.append_assoc, List.getElem?_append_left (by rw [List.length_map]; exact hil), List.getElem?_map, h1]; rfl, ?_⟩
        unfold ent
        split
        · rename_i hn
          refine Rp.mono ?_ d v (Rp.tups d v hn h2)
          intro b o hb
          unfold tups at hb
          split at hb
          · rename_i xs eb
            cases hb
            have hbp : b ≠ p := fun z => by subst z; rw [hide_at] at eb; cases eb
            exact vis_tup (by simpa using hbp) (hide_sub H p) (hide_sub H p _ _ eb)
          · cases hb
        · exact h2
    · rw [List.getElem?_append_right (by simpa using hi), List.length_map] at e
      by_cases hi2 : i = ds.length
      · subst hi2
        rw [Nat.sub_self] at e
        cases e
        refine ⟨.ref p, ?_, p, rfl, rfl⟩
        rw [List.map_append, List.append_assoc, List.getElem?_append_right (by rw [List.length_map, hl]; exact Nat.le_refl _), List.length_map, hl, Nat.sub_self]
        rfl
      · obtain ⟨m, hm⟩ : ∃ m, i - ds.length = m + 1 := ⟨i - ds.length - 1, by omega⟩
        rw [hm, List.getElem?_cons_succ] at e
        have := List.mem_of_getElem? e
        rw [List.mem_replicate] at this
        cases this.2
theorem cov_handM {H : Hp} {Q : VK} {p : Addr} {ns : List Int} (q : ∀ H', Same (hide H p) H' → H' p = some (hN ns) → Q (.ref p) H') : Cov (hide H p) [.ref p] [.ptr 0] { nx := fun _ H' => Q .non H', rt := Q } (HandM ns) where
  nx := fun _ _ _ _ e _ => e.elim
  rt := fun a δ ω v σ H' ⟨e, hk⟩ ⟨ps, I⟩ => by
    subst e
    obtain ⟨⟨p1, h1, rfl⟩, I1⟩ := I.pop
    obtain ⟨⟨p2, h2, e2⟩, I2⟩ := I1.pop
    rw [h1] at h2
    cases h2
    cases e2
    obtain ⟨p3, xs, e1, e3, e4⟩ := I.at_ hk
    rw [h1] at e1
    cases e1
    rw [rvA_int e4] at e3
    exact q H' I.old e3
  bk := fun _ _ _ _ e _ => e.elim
  ct := fun _ _ _ _ e _ => e.elim
section
variable {P : Program} {w : World} {K : PySem.W.Frag} {mg : Str → Option Value} {base : Heap}
theorem okM {x qual : Str} {st : Stmt} {f : Addr} {fd : FuncData} {N ps : List Str} {k : Nat} {ε : Type} {C : ε → Addr} {R : List PyData → List Int → List Int → Prop} (F : Fun K x qual st f fd) (S : FnScope N ps (defScope st)) (hlen : ∀ ds ns ns', R ds ns ns' → ds.length + 1 = ps.length) (n : Nat) (hn : N.length = ps.length + n) (t : TS)
    (hd : ∀ (cdv : Value) (A : Around) (outer : List PySem.Env) (s : Shared) (H : Hp) (E : XK), Room k (A.deeper (PyProof.Rows.envOfC qual (defScope st) s.heap.objs.size f cdv)) → PSs (cxOf CX0 P w K mg base N qual (defScope st) f cdv A outer s H E).nox (defBody st) t)
    (hw : ∀ (H0 : Hp) (ds : List PyData) (ns ns' : List Int), R ds ns ns' → SX H0 t (entryM ds n) [oN ns] (HandM ns')) : FnOk P w K mg base CX0 (k + 1) f fd ps (PrM C R) :=
  F.ok S (fun vs H Q E ⟨us, ds, p, ns, ns', e, h1, _, h2, _⟩ => by rw [e, List.length_append, h1.len, List.length_singleton]; exact hlen ds ns ns' h2) fun cdv A outer s H vs Q E hr ⟨us, ds, p, ns, ns', e, h1, hp, h2, h3⟩ =>
    ⟨t, hd cdv A outer s H E hr, hw (hide H p) ds ns ns' h2 _ _ _ _ (sta_entryM n h1 hp (by rw [← e]; exact start_eq hn (by rw [e, List.length_append, h1.len, List.length_singleton]; exact hlen ds ns ns' h2))) _ (cov_handM h3)⟩
end
section
variable {K : PySem.W.Frag} {H0 : Hp} {δ : Sl} {ω : Om}
theorem rpA_hide {ps : List (Option Addr)} {σ : L2.St} {H : Hp} {vs : List V} {δ : Sl} {ω : Om} {as : List A} (I : Inn H0 ps σ H vs δ ω as) {p : Addr} (hp : some p ∈ ps) : ∀ {cs : List A} {us : List V} {ds : List PyData}, RdA [] cs ds → RvA ps H0 H cs us → RpA (hide H p) us ds
  | [], _, _, h, r => by cases h; cases r; exact .nil
  | c :: cs, _, _, h, r => by
    cases h with
    | cons hc ht =>
      cases r with
      | cons rc rt =>
        refine .cons ?_ (rpA_hide I hp ht rt)
        cases hc with
        | dat d =>
          refine Rp.mono ?_ _ _ rc
          intro b o hb
          have hbp : b ≠ p := fun z => by subst z; rw [vis_ps hp] at hb; cases hb
          rw [hide_ne hbp]
          exact vis_sub I.old _ _ hb
        | arg d =>
          refine Rp.mono ?_ _ _ rc
          intro b o hb
          have hbp : b ≠ p := fun z => by subst z; rw [I.new b hp] at hb; cases hb
          rw [hide_ne hbp]
          exact I.old _ _ hb
        | ptr h0 _ => simp at h0
theorem eg_callM {ε : Type} {C : ε → Addr} {R : List PyData → List Int → List Int → Prop} {E : XK} {ts : TA} {P : A → Om → Prop} (h : EA H0 ts δ ω fun bs ω1 => ∃ cs k ds ns ns', bs = cs ++ [.ptr k] ∧ RdA [] cs ds ∧ ω1[k]? = some (oN ns) ∧ R ds ns ns' ∧ P (.ptr k) (ω1.set k (oN ns'))) : EG H0 (tCall (PrM C R) [] E ts) δ ω P := fun σ H vs as S Q q =>
  h σ H vs as S _ fun bs ω1 us H1 ⟨cs, k, ds, ns, ns', eb, hd, hk, hr, hp⟩ hl S1 => by
    rw [List.append_nil]
    subst eb
    obtain ⟨ps, I⟩ := S1
    obtain ⟨q1, q2⟩ := RvA.split hl I.stk
    have I2 : Inn H0 ps σ H1 vs δ ω1 as := { I with stk := q2 }
    have hul : us.length = cs.length + 1 := by rw [hl]; simp
    have e1 : us = us.take cs.length ++ us.drop cs.length := (List.take_append_drop _ _).symm
    rw [e1] at q1
    obtain ⟨r1, r2⟩ := RvA.split (by rw [List.length_take]; omega) q1
    have hdl : (us.drop cs.length).length = 1 := by rw [List.length_drop]; omega
    match hdv : us.drop cs.length, hdl with
    | [v], _ =>
      rw [hdv] at r2
      cases r2 with
      | cons rv _ =>
        obtain ⟨p, hpk, rfl⟩ := rv
        have hpm : some p ∈ ps := List.mem_of_getElem? hpk
        obtain ⟨p', xs, h3, h4, h5⟩ := I2.at_ hk
        rw [hpk] at h3
        cases h3
        rw [rvA_int h5] at h4
        refine ⟨us.take cs.length, ds, p, ns, ns', by rw [← hdv]; exact e1, rpA_hide I2 hpm hd r1, h4, hr, fun H' e hp' => ?_⟩
        have J := I2.change hpk (List.getElem?_eq_some_iff.mp hk).1 (o := oN ns') (ho := hN ns') (rvA_nums ns') (fun _ z => by cases z)
        have eH : Same (upd H1 p (hN ns')) H' := fun b o hb => by
          by_cases hbp : b = p
          · subst hbp
            rw [upd_same] at hb
            cases hb
            exact hp'
          · rw [upd_ne hbp] at hb
            exact e b o (by rw [hide_ne hbp]; exact hb)
        exact q _ _ _ _ hp ⟨ps, (J.grow eH).push ⟨p, hpk, rfl⟩⟩
end
end Y

/-! Lay13: try .. except: clauses that hand back a text; except .. as e that asks isinstance; a call of a local name in it. -/
namespace Y
open PySem PySem.Spec L2
abbrev wNo : WX := fun _ _ _ _ => False
def clM (hs : List (Addr × Str)) : List (Value × (Addr → Value → Option Addr → TS)) := hs.map fun h => (.ref h.1, fun _ _ _ => tRet (tC (.str h.2)))
def tTryM (K : PySem.W.Frag) (sp : Sp) (hs : List (Addr × Str)) (ts : TA) : TS := fun D σ H => tDrop (tCallS sp (WE (wMany K wNo D (clM hs))) ts) D σ H
/-- a call of a local name, at the slots -/
def tCallAS (i : Nat) (S : Addr → Sp → Prop) (E : L2.St → XK) (t : TA) : TE := fun σ H Q => ∃ f sp, σ[i]? = some (some (.ref f)) ∧ S f sp ∧ t σ H fun vs H1 => sp vs H1 Q (E σ)
def tTryL (K : PySem.W.Frag) (i : Nat) (S : Addr → Sp → Prop) (hs : List (Addr × Str)) (ts : TA) : TS := fun D σ H => tDrop (tCallAS i S (WE (wMany K wNo D (clM hs))) ts) D σ H
/-- which clause takes the class c, and what it hands back -/
def Took (K : PySem.W.Frag) (c : Value) : List (Addr × Str) → Str → Prop
  | [], _ => False
  | (a, z) :: r, y => (PySem.W.exmOne K c (.ref a) = some true ∧ y = z) ∨ (PySem.W.exmOne K c (.ref a) = some false ∧ Took K c r y)
section
variable {K : PySem.W.Frag} {H0 : Hp} {δ : Sl} {ω : Om} {P : Post} {ts : TA}
theorem took_many {c : Value} {y : Str} {D : Ends} {σ : L2.St} {H : Hp} {vs : List V} {as : List A} {P : Post} (S : Sta H0 σ H vs δ ω as) (cv : Cov H0 vs as D P) (hp : P.rt (.dat (.str y)) ω) : ∀ hs : List (Addr × Str), Took K c hs y → wMany K wNo D (clM hs) c none σ H
  | [], h => h.elim
  | (a, z) :: r, h => by
    rcases h with ⟨e, rfl⟩ | ⟨e, h⟩
    · exact ⟨true, e, fun _ _ _ => cv.rt _ δ ω _ σ H hp (S.flat (fl_str _)), (fun z => nomatch z)⟩
    · exact ⟨false, e, (fun z => nomatch z), fun _ => took_many S cv hp r h⟩
theorem sx_tryM {ε : Type} {C : ε → Addr} {R : List PyData → Res ε → Prop} {hs : List (Addr × Str)} (h : EA H0 ts δ ω fun bs ω1 => ∃ ds r, RdA ω1 bs ds ∧ R ds r ∧
    (match r with
    | .ok _ => P.nx δ ω1
    | .er e => ∃ y, Took K (.ref (C e)) hs y ∧ P.rt (.dat (.str y)) ω1)) : SX H0 (tTryM K (Pr C R) hs ts) δ ω P := fun σ H vs as S D c =>
  h σ H vs as S _ fun bs ω1 us H1 ⟨ds, r, hd, hr, hk⟩ hl S1 => by
    obtain ⟨ps, I⟩ := S1
    obtain ⟨q1, q2⟩ := RvA.split hl I.stk
    have I2 : Inn H0 ps σ H1 vs δ ω1 as := { I with stk := q2 }
    refine ⟨ds, r, RdA.rp I ds hd q1, hr, ?_⟩
    cases r with
    | ok d => exact fun v H' e rv => c.nx _ _ _ _ hk ⟨ps, I2.grow e⟩
    | er e =>
      obtain ⟨y, ht, hp⟩ := hk
      exact fun H' s => took_many ⟨ps, I2.grow s⟩ c hp hs ht
/-- the call of a local name -/
theorem sx_tryL {ε : Type} {C : ε → Addr} {R : List PyData → Res ε → Prop} {S : Addr → Sp → Prop} {i : Nat} {f : Addr} {hs : List (Addr × Str)} (hi : δ[i]? = some (some (.raw (.ref f)))) (hS : S f (Pr C R)) (h : EA H0 ts δ ω fun bs ω1 => ∃ ds r, RdA ω1 bs ds ∧ R ds r ∧
    (match r with
    | .ok _ => P.nx δ ω1
    | .er e => ∃ y, Took K (.ref (C e)) hs y ∧ P.rt (.dat (.str y)) ω1)) : SX H0 (tTryL K i S hs ts) δ ω P := fun σ H vs as S D c => by
  refine ⟨f, _, ?_, hS, h σ H vs as S _ fun bs ω1 us H1 ⟨ds, r, hd, hr, hk⟩ hl S1 => ?_⟩
  · obtain ⟨ps, I⟩ := S
    obtain ⟨v, h1, h2⟩ := I.slot i _ hi
    have e : v = .ref f := h2
    rw [h1, e]
  · obtain ⟨ps, I⟩ := S1
    obtain ⟨q1, q2⟩ := RvA.split hl I.stk
    have I2 : Inn H0 ps σ H1 vs δ ω1 as := { I with stk := q2 }
    refine ⟨ds, r, RdA.rp I ds hd q1, hr, ?_⟩
    cases r with
    | ok d => exact fun v H' e rv => c.nx _ _ _ _ hk ⟨ps, I2.grow e⟩
    | er e =>
      obtain ⟨y, ht, hp⟩ := hk
      exact fun H' s => took_many ⟨ps, I2.grow s⟩ c hp hs ht
end
/-! ### except X as e: return isinstance(e, ValueError) -/
def suiteIs (K : PySem.W.Frag) (i : Nat) : Addr → Value → Option Addr → TS := fun a cls d D σ H => ∃ D0, cls = .ref D0 ∧ d = none ∧ ExcC K D0 ∧ tRet (tCB (rIsE K D0 a) (tCons (tVar i) (tCons (tC (.ty "ValueError")) tNil))) D σ H
def tTryA (K : PySem.W.Frag) (cL : Addr) (i : Nat) (sp : Sp) (ts : TA) : TS := fun D σ H => tDrop (tCallS sp (WE (wAs K (.ref cL) i (suiteIs K i) wNo D)) ts) D σ H
structure IsE (K : PySem.W.Frag) (cL c : Addr) : Prop where
  ex : PySem.W.exmOne K (.ref c) (.ref cL) = some true
  cl : ExcC K c
  kt : PySem.W.kitOne K (.ref c) (.type "ValueError") = some true
section
variable {K : PySem.W.Frag} {H0 : Hp} {δ : Sl} {ω : Om} {P : Post} {ts : TA}
theorem Sta.unset {σ : L2.St} {H : Hp} {vs : List V} {as : List A} (i : Nat) (v : Option V) (S : Sta H0 σ H vs δ ω as) : Sta H0 (σ.set i v) H vs (δ.set i none) ω as := by
  obtain ⟨ps, I⟩ := S
  refine ⟨ps, { I with sl := by rw [List.length_set, List.length_set]; exact I.sl, slot := fun j a h => ?_ }⟩
  by_cases hj : i = j
  · subst hj
    have hi : i < δ.length := by
      have := (List.getElem?_eq_some_iff.mp h).1
      simpa using this
    rw [List.getElem?_set_self hi] at h
    cases h
  · rw [List.getElem?_set_ne hj] at h
    rw [List.getElem?_set_ne hj]
    exact I.slot j a h
theorem sx_tryA {ε : Type} {C : ε → Addr} {R : List PyData → Res ε → Prop} {cL : Addr} {i : Nat} (hi : i < δ.length) (h : EA H0 ts δ ω fun bs ω1 => ∃ ds r, RdA ω1 bs ds ∧ R ds r ∧
    (match r with
    | .ok _ => P.nx δ ω1
    | .er e => IsE K cL (C e) ∧ P.rt (.dat (.bool true)) ω1)) : SX H0 (tTryA K cL i (Pr C R) ts) δ ω P := fun σ H vs as S D c =>
  h σ H vs as S _ fun bs ω1 us H1 ⟨ds, r, hd, hr, hk⟩ hl S1 => by
    obtain ⟨ps, I⟩ := S1
    obtain ⟨q1, q2⟩ := RvA.split hl I.stk
    have I2 : Inn H0 ps σ H1 vs δ ω1 as := { I with stk := q2 }
    refine ⟨ds, r, RdA.rp I ds hd q1, hr, ?_⟩
    cases r with
    | ok d => exact fun v H' e rv => c.nx _ _ _ _ hk ⟨ps, I2.grow e⟩
    | er e =>
      obtain ⟨ht, hp⟩ := hk
      intro H' s
      refine ⟨true, ht.ex, fun _ a _ => ⟨C e, rfl, rfl, ht.cl, ?_⟩, fun z => nomatch z⟩
      have hs : i < σ.length := by rw [I2.sl]; exact hi
      refine ⟨.ref a, List.getElem?_set_self hs, ?_⟩
      refine ⟨.ty "ValueError", .type "ValueError", true, rfl, fun u hu => hu, ht.kt, ?_⟩
      exact c.rt _ _ _ _ _ _ hp (Sta.flat (Sta.unset i (some (.ref a)) ⟨ps, I2.grow s⟩) (fl_bl _))
end
/-! ### derivations -/
section
variable {X : Cx} {CX : CXT} {k i : Nat} {x : Str} {p pos : Pos} {e : Expr} {es : List Expr} {t : TA} {E : L2.St → XK}
/-- of several defs that a slot may hold -/
structure HeldX (P : Program) (w : World) (K : PySem.W.Frag) (mg : Str → Option Value) (base : Heap) (k : Nat) (f : Addr) (sp : Sp) : Prop where
  ex : ∃ (fd : FuncData) (ps : List Str), FnOk P w K mg base (L2.CX P w) k f fd ps sp ∧ PySem.W.keepIn K (.ref f) = true ∧ Binds K fd ps []
theorem pe_callAS {S : Addr → Sp → Prop} (A : ∀ f sp, S f sp → HeldX X.prog X.w X.K X.mg X.base k f sp) (hr : Room k X.A) (hx : ∀ σ, PassesAt (L2.CX X.prog X.w) X σ (E σ)) (hN : X.N[i]? = some x) (hv : Vis X.env.scope x) (ha : PA X (e :: es) t)
    (hdb : (x == ("__debug__" : Str)) = false := by decide) (hcd : (x == ("__classdict__" : Str)) = false := by decide)
    (he : starEach (e :: es) X.env = (false, eval e X.env) :: starEach es X.env := by rfl) (hpl : (backTo pos (starEach es X.env)).any (·.1) = false := by rfl) : PE X (.Call (.Name x p) (e :: es) [] pos) (tCallAS i S E t) := by
  refine ⟨fun pins s σ H Q I h => ?_⟩
  obtain ⟨f, sp, hs, hS, ht⟩ := h
  obtain ⟨fd, ps, F, hk, hb⟩ := (A f sp hS).ex
  refine wpAny_Call_Name_kw (thn ((pe_var (pos := p) hN hv hdb hcd).run pins s σ H (fun v H1 => v = .ref f ∧ H1 = H) I ⟨.ref f, hs, rfl, rfl⟩) fun u s1 ⟨v, H1, I1, r1, q1⟩ => ?_)
  obtain ⟨rfl, rfl⟩ := q1
  cases r1
  refine PySem.W.callWith_K (h₀ := X.base) I.ok.mod.kin hk (thn (ha.run pos pins s1 σ _ _ I1 ht) fun us s2 ⟨vs, H2, I2, r, q⟩ => ⟨I2.kIn, ?_⟩) he hpl
  exact run_fnS F hr hb (hx σ) I2 r q
theorem suite_is {a cL : Addr} {oe : Obj} {cls : Value} {d : Option Addr} {pn : List (Addr × Obj)} {i : Nat} {st : List Stmt} (hz : Zc cls d oe) (hf : ∃ vs, oe.data = .fields vs)
    (h : ∀ D0, Zc (.ref D0) none oe → ExcC X.K D0 → PSs (X.suite a ((a, oe) :: pn)) st (tRet (tCB (rIsE X.K D0 a) (tCons (tVar i) (tCons (tC (.ty "ValueError")) tNil))))) : PSs (X.suite a ((a, oe) :: pn)) st (suiteIs X.K i a cls d) := by
  refine ⟨fun pins s σ H D I ⟨D0, e1, e2, hc, w⟩ => ?_⟩
  subst e1 e2
  exact (h D0 hz hc).run pins s σ H D I w
end
end Y

/-! Lay14: a def that is handed another def; a def that hands a list back that it was handed, in a tuple; upper, in a tuple of texts. -/
namespace Y
open PySem PySem.Spec L2
abbrev rUpper : V → List V → Hp → VK → Prop := fun x xs H Q => ∃ a, x = .str a ∧ xs = [] ∧ a.length ≤ 5592405 ∧ Q (.str (Txt.upper a)) H
theorem eg_upper {H0 : Hp} {δ : Sl} {ω : Om} {to : TE} {P : A → Om → Prop} (h : EG H0 to δ ω fun a ω1 => ∃ z, a = .dat (.str z) ∧ z.length ≤ 5592405 ∧ P (.dat (.str (Txt.upper z))) ω1) : EG H0 (tM0 rUpper to) δ ω P := fun σ H vs as S Q q =>
  h σ H vs as S _ fun a ω1 x H1 ⟨z, e, hz, hp⟩ S1 => by
    subst e
    obtain ⟨ps, I⟩ := S1
    obtain ⟨r, I1⟩ := I.pop
    cases (show Rp _ _ _ from r)
    exact ⟨⟨z, rfl⟩, z, rfl, rfl, hz, q _ _ _ H1 hp (Sta.flat ⟨ps, I1⟩ (fl_str _))⟩
/-! ### what a class must say -/
theorem exm_mk {K : PySem.W.Frag} {e h : Addr} {b : Bool} (h1 : PySem.W.subIn K (.ref h) (.type "BaseException") = some true) (h2 : PySem.W.hasDictIn K h = true) (h3 : PySem.W.typeIn K (.ref h) = some (.type "type")) (h4 : PySem.W.mroIn K e (.ref h) = some b) : PySem.W.exmOne K (.ref e) (.ref h) = some b := PySem.W.exm_ref h1 h2 h3 h4
theorem kit_mk {K : PySem.W.Frag} {e : Addr} (h : PySem.W.mroIn K e (.type "ValueError") = some true) : PySem.W.kitOne K (.ref e) (.type "ValueError") = some true := by
  unfold PySem.W.kitOne
  rw [if_neg (by simp)]
  show (if PySem.W.kitMeta "ValueError" = true then PySem.W.subIn K (.ref e) (.type "ValueError") else none) = some true
  rw [if_pos (by decide +kernel)]
  exact h
/-! ### a def handed first -/
def PrF {ε : Type} (C : ε → Addr) (R : Addr → List PyData → Res ε → Prop) : Sp := fun vs H Q E => ∃ (f : Addr) (us : List V) (ds : List PyData) (r : Res ε), vs = .ref f :: us ∧ RpA H us ds ∧ R f ds r ∧
  (match r with
  | .ok d => ∀ v H', Same H H' → Rp (vis [] H H') v d → Q v H'
  | .er e => ∀ H', Same H H' → E (.ref (C e)) none H')
def SDeed {ε : Type} (C : ε → Addr) (dd : Addr → (List PyData → Res ε → Prop) → Prop) (f : Addr) (sp : Sp) : Prop := ∃ R, dd f R ∧ sp = Pr C R
theorem eg_callF {H0 : Hp} {δ : Sl} {ω : Om} {ε : Type} {C : ε → Addr} {R : Addr → List PyData → Res ε → Prop} {E : XK} {ts : TA} {P : A → Om → Prop} (h : EA H0 ts δ ω fun bs ω1 => ∃ f cs ds d, bs = .raw (.ref f) :: cs ∧ RdA ω1 cs ds ∧ R f ds (.ok d) ∧ P (.dat d) ω1) : EG H0 (tCall (PrF C R) [] E ts) δ ω P := fun σ H vs as S Q q =>
  h σ H vs as S _ fun bs ω1 us H1 ⟨f, cs, ds, d, eb, hd, hr, hk⟩ hl S1 => by
    rw [List.append_nil]
    subst eb
    match us, hl with
    | u :: us, hl =>
      obtain ⟨ps, I⟩ := S1
      obtain ⟨r0, I0⟩ := I.pop
      have e0 : u = .ref f := r0
      subst e0
      obtain ⟨q1, q2⟩ := RvA.split (as1 := cs) (vs1 := us) (by simpa using hl) I0.stk
      have I2 : Inn H0 ps σ H1 vs δ ω1 as := { I0 with stk := q2 }
      exact ⟨f, us, ds, .ok d, rfl, RdA.rp I0 ds hd q1, hr, fun v H' e rv => q _ _ v H' hk ⟨ps, I2.after e rv⟩⟩
section
variable {P : Program} {w : World} {K : PySem.W.Frag} {mg : Str → Option Value} {base : Heap}
theorem okF {x qual : Str} {st : Stmt} {f : Addr} {fd : FuncData} {N ps : List Str} {k : Nat} {ε : Type} {C : ε → Addr} {R : Addr → List PyData → Res ε → Prop} (F : Fun K x qual st f fd) (S : FnScope N ps (defScope st)) (hlen : ∀ g ds r, R g ds r → ds.length + 1 = ps.length) (n : Nat) (hn : N.length = ps.length + n) (t : TS)
    (hd : ∀ (cdv : Value) (A : Around) (outer : List PySem.Env) (s : Shared) (H : Hp) (E : XK), Room k (A.deeper (PyProof.Rows.envOfC qual (defScope st) s.heap.objs.size f cdv)) → PSs (cxOf CX0 P w K mg base N qual (defScope st) f cdv A outer s H E).nox (defBody st) t)
    (hw : ∀ (H : Hp) (g : Addr) (ds : List PyData) (r : Res ε), R g ds r → SX H t (some (.raw (.ref g)) :: entry ds n) [] (HandR r)) : FnOk P w K mg base CX0 (k + 1) f fd ps (PrF C R) := by
  refine F.ok S (fun vs H Q E h => ?_) fun cdv A outer s H vs Q E hr h => ?_
  · obtain ⟨g, us, ds, r, rfl, h1, h2, _⟩ := h
    rw [List.length_cons, h1.len]
    exact hlen g ds r h2
  · obtain ⟨g, us, ds, r, rfl, h1, h2, h3⟩ := h
    have hl := hlen g ds r h2
    refine ⟨t, hd cdv A outer s H E hr, hw H g ds r h2 _ _ _ _ (sta_entryS n g h1 ?_) _ (cov_handR h3)⟩
    rw [start_eq (n := n) hn (by rw [List.length_cons, h1.len]; exact hl)]
    rfl
end
/-! ### a list handed back in a tuple -/
/-- what is handed back: a number, the rows handed in or new ones, a text -/
structure Bk where
  n : Int
  rows : Option PyData
  due : Str
def BkQ (H : Hp) (u : V) (b : Bk) (Q : VK) : Prop := ∀ p v1 H', Same H H' → H p = none → H' p = some (.tup [.int b.n, v1, .str b.due]) → (match b.rows with
  | none => v1 = u
  | some d => Rp (vis [] H H') v1 d) → Q (.ref p) H'
def PrB {ε : Type} (C : ε → Addr) (R : Int → PyData → Int → Bk → Prop) : Sp := fun vs H Q _ => ∃ (h : Int) (u : V) (d : PyData) (c : Int) (b : Bk), vs = [.int h, u, .int c] ∧ Rp H u d ∧ R h d c b ∧ BkQ H u b Q
/-- what a statement does, at a fixed wish -/
def SXD (H0 : Hp) (D : Ends) (t : TS) (δ : Sl) (ω : Om) : Prop := ∀ σ H, Sta H0 σ H [] δ ω [] → t D σ H
section
variable {K : PySem.W.Frag} {H0 : Hp} {δ : Sl} {ω : Om} {D : Ends} {t u : TS} {te : TE} {ts : TA}
theorem sxd_seq (h : SX H0 t δ ω { nx := fun δ' ω' => SXD H0 D u δ' ω', rt := fun _ _ => False }) : SXD H0 D (tSeq t u) δ ω := fun σ H S =>
  h σ H _ _ S _ ⟨fun δ' ω' σ' H' hp S' => hp σ' H' S', fun _ _ _ _ _ _ z _ => z.elim, fun _ _ _ _ z _ => z.elim, fun _ _ _ _ z _ => z.elim⟩
theorem sxd_ifRet {tc : TT} (h : ET H0 tc δ ω fun b ω1 => (b = true → SXD H0 D (tRet te) δ ω1) ∧ (b = false → SXD H0 D u δ ω1)) : SXD H0 D (tSeq (tIfS tc (tRet te) tNext) u) δ ω := fun σ H S =>
  h σ H _ _ S _ fun b ω1 H1 ⟨h1, h2⟩ S1 => by
    cases b with
    | true => exact iteT (h1 rfl σ H1 S1)
    | false => exact iteF (h2 rfl σ H1 S1)
theorem sxd_conv {δ' : Sl} (h : ∀ σ H, Sta H0 σ H [] δ ω [] → Sta H0 σ H [] δ' ω []) (k : SXD H0 D t δ' ω) : SXD H0 D t δ ω := fun σ H S => k σ H (h σ H S)
/-- a slot that holds a thing of the entry's is told as data -/
theorem Sta.told {σ : L2.St} {H : Hp} {vs : List V} {as : List A} {i : Nat} {u : V} {d : PyData} (hi : δ[i]? = some (some (.raw u))) (hu : Rp H0 u d) (S : Sta H0 σ H vs δ ω as) : Sta H0 σ H vs (δ.set i (some (.arg d))) ω as := by
  obtain ⟨ps, I⟩ := S
  refine ⟨ps, { I with sl := by rw [List.length_set]; exact I.sl, slot := fun j a h => ?_ }⟩
  by_cases hj : i = j
  · subst hj
    rw [List.getElem?_set_self (List.getElem?_eq_some_iff.mp hi).1] at h
    cases h
    obtain ⟨v, h1, h2⟩ := I.slot i _ hi
    have e : v = u := h2
    subst e
    exact ⟨v, h1, hu⟩
  · rw [List.getElem?_set_ne hj] at h
    exact I.slot j a h
theorem eg_told {i : Nat} {u : V} {d : PyData} {P : A → Om → Prop} (hi : δ[i]? = some (some (.raw u))) (hu : Rp H0 u d) (p : P (.arg d) ω) : EG H0 (tVar i) δ ω P := fun σ H vs as ⟨ps, I⟩ Q q =>
  let ⟨v, h1, r⟩ := I.slot i _ hi
  ⟨v, h1, q _ ω v H p ⟨ps, I.push (a := .arg d) (by have e : v = u := r; rw [e]; exact hu)⟩⟩
/-- the tuple of the end -/
theorem sxd_ret {u : V} {b : Bk} (hQ : BkQ H0 u b D.rt) (h : EA H0 ts δ ω fun bs ω1 => ∃ x, bs = [.dat (.int b.n), x, .dat (.str b.due)] ∧ (match b.rows with
    | none => x = .raw u
    | some d => x = .dat d)) : SXD H0 D (tRet (tTup ts)) δ ω := fun σ H S =>
  h σ H _ _ S _ fun bs ω1 us H1 ⟨x, eb, hx⟩ hl S1 => by
    subst eb
    match us, hl with
    | [y1, y2, y3], _ =>
      obtain ⟨ps, I⟩ := S1
      obtain ⟨r1, I1⟩ := I.pop
      obtain ⟨r2, I2⟩ := I1.pop
      obtain ⟨r3, I3⟩ := I2.pop
      cases (show Rp _ _ _ from r1)
      cases (show Rp _ _ _ from r3)
      refine ⟨szOk (show 3 ≤ 16777216 by decide), fun p n => ?_⟩
      have e : Same H1 (upd H1 p (.tup [V.int b.n, y2, V.str b.due])) := fun b u q => by rw [upd_ne (ne_of_none q n)]; exact q
      have h0 : H0 p = none := by
        cases h0 : H0 p with
        | none => rfl
        | some u => rw [I.old _ _ h0] at n; cases n
      refine hQ p y2 _ (I.old.trans e) h0 upd_same ?_
      cases hb : b.rows with
      | none =>
        rw [hb] at hx
        subst hx
        exact r2
      | some d =>
        rw [hb] at hx
        subst hx
        exact Rp.mono (vis_mono e) d y2 (Rp.mono vis_none d y2 r2)
end
section
variable {P : Program} {w : World} {K : PySem.W.Frag} {mg : Str → Option Value} {base : Heap}
def entryB (h : Int) (u : V) (c : Int) (n : Nat) : Sl := some (.dat (.int h)) :: some (.raw u) :: some (.dat (.int c)) :: List.replicate n none
theorem sta_entryB {H : Hp} (h : Int) (u : V) (c : Int) (n : Nat) {σ : L2.St} (hσ : σ = [V.int h, u, V.int c].map some ++ List.replicate n none) : Sta H σ H [] (entryB h u c n) [] [] := by
  subst hσ
  refine ⟨[], ⟨by simp, rfl, Same.refl H, by simp, by simp, by simp [entryB], fun i a e => ?_, .nil⟩⟩
  match i with
  | 0 =>
    have e : A.dat (.int h) = a := by simpa [entryB] using e
    subst e
    exact ⟨_, rfl, .int h⟩
  | 1 =>
    have e : A.raw u = a := by simpa [entryB] using e
    subst e
    exact ⟨_, rfl, rfl⟩
  | 2 =>
    have e : A.dat (.int c) = a := by simpa [entryB] using e
    subst e
    exact ⟨_, rfl, .int c⟩
  | i + 3 =>
    have e : (List.replicate n (none : Option A))[i]? = some (some a) := by simpa [entryB] using e
    have := List.mem_of_getElem? e
    rw [List.mem_replicate] at this
    cases this.2
theorem okB {x qual : Str} {st : Stmt} {f : Addr} {fd : FuncData} {N ps : List Str} {k : Nat} {ε : Type} {C : ε → Addr} {R : Int → PyData → Int → Bk → Prop} (F : Fun K x qual st f fd) (S : FnScope N ps (defScope st)) (n : Nat) (hp : ps.length = 3) (hn : N.length = ps.length + n) (t : TS)
    (hd : ∀ (cdv : Value) (A : Around) (outer : List PySem.Env) (s : Shared) (H : Hp) (E : XK), Room k (A.deeper (PyProof.Rows.envOfC qual (defScope st) s.heap.objs.size f cdv)) → PSs (cxOf CX0 P w K mg base N qual (defScope st) f cdv A outer s H E).nox (defBody st) t)
    (hw : ∀ (H : Hp) (D : Ends) (h : Int) (u : V) (d : PyData) (c : Int) (b : Bk), Rp H u d → R h d c b → BkQ H u b D.rt → SXD H D t (entryB h u c n) []) : FnOk P w K mg base CX0 (k + 1) f fd ps (PrB C R) := by
  refine F.ok S (fun vs H Q E ⟨h, u, d, c, b, e, _⟩ => by rw [e, hp]; rfl) fun cdv A outer s H vs Q E hr ⟨h, u, d, c, b, e, hu, hR, hQ⟩ => ?_
  subst e
  exact ⟨t, hd cdv A outer s H E hr, hw H _ h u d c b hu hR hQ _ _ (sta_entryB h u c n (start_eq hn (by rw [hp]; rfl)))⟩
theorem eg_callB {H0 : Hp} {δ : Sl} {ω : Om} {ε : Type} {C : ε → Addr} {R : Int → PyData → Int → Bk → Prop} {E : XK} {ts : TA} {P : A → Om → Prop} (h : EA H0 ts δ ω fun bs ω1 => ∃ h d c b, bs = [.dat (.int h), .dat d, .dat (.int c)] ∧ R h d c b ∧ P (.dat (.tuple [.int b.n, (match b.rows with | none => d | some d' => d'), .str b.due])) ω1) : EG H0 (tCall (PrB C R) [] E ts) δ ω P := fun σ H vs as S Q q =>
  h σ H vs as S _ fun bs ω1 us H1 ⟨h, d, c, b, eb, hR, hp⟩ hl S1 => by
    rw [List.append_nil]
    subst eb
    match us, hl with
    | [y1, y2, y3], _ =>
      obtain ⟨ps, I⟩ := S1
      obtain ⟨r1, I1⟩ := I.pop
      obtain ⟨r2, I2⟩ := I1.pop
      obtain ⟨r3, I3⟩ := I2.pop
      cases (show Rp _ _ _ from r1)
      cases (show Rp _ _ _ from r3)
      refine ⟨h, y2, d, c, b, rfl, Rp.mono (vis_sub I.old) d y2 r2, hR, fun p v1 H' e n hp' hv => ?_⟩
      have J := I3.grow e
      have np : ¬ some p ∈ ps := fun z => by
        obtain ⟨u, hu, _⟩ := I.thr p z
        rw [n] at hu; cases hu
      have h0 : H0 p = none := by
        cases h0 : H0 p with
        | none => rfl
        | some u => rw [I.old _ _ h0] at n; cases n
      refine q _ ω1 _ H' hp ⟨ps, J.push (a := .dat _) (.tup (xs := [V.int b.n, v1, V.str b.due]) ?_ (.cons (.int _) (.cons ?_ (.cons (.str _) .nil))))⟩
      · rw [vis_new np h0]; exact hp'
      · cases hb : b.rows with
        | none =>
          rw [hb] at hv
          have hv : v1 = y2 := hv
          subst hv
          exact Rp.mono (vis_mono e) d v1 r2
        | some d' =>
          rw [hb] at hv
          exact Rp.mono (vis_call I.old e I.thr) d' v1 hv
end
/-! ### a list handed back as it was handed in, or a new one -/
def WkQ (H : Hp) (u : V) (b : Option PyData) (Q : VK) : Prop := ∀ v H', Same H H' → (match b with
  | none => v = u
  | some d => Rp (vis [] H H') v d) → Q v H'
def WkA (u : V) : Option PyData → A → Prop
  | none, x => x = .raw u
  | some d, x => x = .dat d
def PrW {ε : Type} (C : ε → Addr) (R : PyData → List PyData → Option PyData → Prop) : Sp := fun vs H Q _ => ∃ (u : V) (us : List V) (d : PyData) (ds : List PyData) (b : Option PyData), vs = u :: us ∧ Rp H u d ∧ RpA H us ds ∧ R d ds b ∧ WkQ H u b Q
section
variable {K : PySem.W.Frag} {H0 : Hp} {δ : Sl} {ω : Om} {D : Ends} {te : TE}
theorem sxd_retW {u : V} {b : Option PyData} (hQ : WkQ H0 u b D.rt) (h : EG H0 te δ ω fun x ω1 => WkA u b x) : SXD H0 D (tRet te) δ ω := fun σ H S =>
  h σ H _ _ S _ fun x ω1 v H1 hx S1 => by
    obtain ⟨ps, I⟩ := S1
    obtain ⟨r, I1⟩ := I.pop
    refine hQ v H1 I.old ?_
    cases b with
    | none =>
      have hx : x = .raw u := hx
      subst hx
      exact r
    | some d =>
      have hx : x = .dat d := hx
      subst hx
      exact Rp.mono vis_none d v r
theorem sta_entryU {H : Hp} {vs : List V} {ds : List PyData} {σ : L2.St} (n : Nat) (u : V) (h : RpA H vs ds) (hσ : σ = some u :: (vs.map some ++ List.replicate n none)) : Sta H σ H [] (some (.raw u) :: entry ds n) [] [] := by
  subst hσ
  obtain ⟨ps, I⟩ := sta_entry n h rfl
  refine ⟨ps, { I with sl := by simp [I.sl], slot := fun i b e => ?_ }⟩
  cases i with
  | zero =>
    have e : A.raw u = b := by simpa using e
    subst e
    exact ⟨u, rfl, rfl⟩
  | succ i => exact I.slot i b (by simpa using e)
end
section
variable {P : Program} {w : World} {K : PySem.W.Frag} {mg : Str → Option Value} {base : Heap}
theorem okW {x qual : Str} {st : Stmt} {f : Addr} {fd : FuncData} {N ps : List Str} {k : Nat} {ε : Type} {C : ε → Addr} {R : PyData → List PyData → Option PyData → Prop} (F : Fun K x qual st f fd) (S : FnScope N ps (defScope st)) (hlen : ∀ d ds b, R d ds b → ds.length + 1 = ps.length) (n : Nat) (hn : N.length = ps.length + n) (t : TS)
    (hd : ∀ (cdv : Value) (A : Around) (outer : List PySem.Env) (s : Shared) (H : Hp) (E : XK), Room k (A.deeper (PyProof.Rows.envOfC qual (defScope st) s.heap.objs.size f cdv)) → PSs (cxOf CX0 P w K mg base N qual (defScope st) f cdv A outer s H E).nox (defBody st) t)
    (hw : ∀ (H : Hp) (D : Ends) (u : V) (d : PyData) (ds : List PyData) (b : Option PyData), Rp H u d → R d ds b → WkQ H u b D.rt → SXD H D t (some (.raw u) :: entry ds n) []) : FnOk P w K mg base CX0 (k + 1) f fd ps (PrW C R) := by
  refine F.ok S (fun vs H Q E ⟨u, us, d, ds, b, e, _, h1, h2, _⟩ => by rw [e, List.length_cons, h1.len]; exact hlen d ds b h2) fun cdv A outer s H vs Q E hr ⟨u, us, d, ds, b, e, hu, h1, hR, hQ⟩ => ?_
  subst e
  have hl := hlen d ds b hR
  refine ⟨t, hd cdv A outer s H E hr, hw H _ u d ds b hu hR hQ _ _ (sta_entryU n u h1 ?_)⟩
  rw [start_eq (n := n) hn (by rw [List.length_cons, h1.len]; exact hl)]
  rfl
theorem eg_callW {H0 : Hp} {δ : Sl} {ω : Om} {ε : Type} {C : ε → Addr} {R : PyData → List PyData → Option PyData → Prop} {E : XK} {ts : TA} {P : A → Om → Prop} (h : EA H0 ts δ ω fun bs ω1 => ∃ d cs ds b, bs = .dat d :: cs ∧ RdA ω1 cs ds ∧ R d ds b ∧ P (.dat (b.getD d)) ω1) : EG H0 (tCall (PrW C R) [] E ts) δ ω P := fun σ H vs as S Q q =>
  h σ H vs as S _ fun bs ω1 us H1 ⟨d, cs, ds, b, eb, hd, hR, hp⟩ hl S1 => by
    rw [List.append_nil]
    subst eb
    match us, hl with
    | u :: us, hl =>
      obtain ⟨ps, I⟩ := S1
      obtain ⟨r0, I0⟩ := I.pop
      obtain ⟨q1, q2⟩ := RvA.split (as1 := cs) (vs1 := us) (by simpa using hl) I0.stk
      have I2 : Inn H0 ps σ H1 vs δ ω1 as := { I0 with stk := q2 }
      refine ⟨u, us, d, ds, b, rfl, Rp.mono (vis_sub I.old) d u r0, RdA.rp I0 ds hd q1, hR, fun v H' e hv => ?_⟩
      cases b with
      | none =>
        have hv : v = u := hv
        subst hv
        exact q _ ω1 v H' hp ⟨ps, (I2.grow e).push (a := .dat d) (Rp.mono (vis_mono e) d v r0)⟩
      | some d' => exact q _ ω1 v H' hp ⟨ps, I2.after e hv⟩
end
end Y

namespace Y
open PySem PySem.Spec L2
/- need_row(row): slots 0 row -/
def t_need_row (K : PySem.W.Frag) (E : XK) (a_C_NoRow : Addr) : TS :=
  (tSeq (tIfS (tOr (tTest (tOp (rEqD K) (tCB (rLenU K) (tCons (tVar 0) tNil)) (tC (.int 0)))) (tB (tPartsNot (tOp (rIx K) (tVar 0) (tC (.int 0)))))) (fun _ _ H => E (.ref a_C_NoRow) none H) tNext) (tIfS (tTest (tOp (rNeD K) (tCB (rLenU K) (tCons (tVar 0) tNil)) (tPartsIx (tOp (rIx K) (tVar 0) (tC (.int 0)))))) (fun _ _ H => E (.ref a_C_NoRow) none H) tNext))
/- need_hand(hands, hand): slots 0 hands 1 hand -/
def t_need_hand (K : PySem.W.Frag) (E : XK) (a_C_NoHand : Addr) : TS :=
  (tIfS (tOr (tTest (tOp rLt (tVar 1) (tC (.int 0)))) (tTest (tOp rGe (tVar 1) (tVar 0)))) (fun _ _ H => E (.ref a_C_NoHand) none H) tNext)
/- need_letter(found, hand, letter): slots 0 found 1 hand 2 letter -/
def t_need_letter (K : PySem.W.Frag) (E : XK) (a_C_NoLetter : Addr) (a_C_GotTwice : Addr) : TS :=
  (tSeq (tIfS (tOr (tTest (tOp rLt (tVar 2) (tC (.int 0)))) (tTest (tOp rGe (tVar 2) (tCB (rLenU K) (tCons (tVar 0) tNil))))) (fun _ _ H => E (.ref a_C_NoLetter) none H) tNext) (tSeq (tIfS (tTest (tOp (rNeD K) (tOp (rIx K) (tOp (rIx K) (tVar 0) (tVar 2)) (tC (.int 1))) (tVar 1))) (fun _ _ H => E (.ref a_C_NoLetter) none H) tNext) (tIfS (tB (tNotN (tOp (rIx K) (tOp (rIx K) (tVar 0) (tVar 2)) (tC (.int 3))))) (fun _ _ H => E (.ref a_C_GotTwice) none H) tNext)))
/- letters(hands, rows): slots 0 hands 1 rows 2 found 3 place 4 row -/
def t_letters (K : PySem.W.Frag) (E : XK) (s_need_row : Sp) (s_need_hand : Sp) (s_need_letter : Sp) (a_C_NoHands : Addr) (a_C_TooMany : Addr) : TS :=
  (tSeq (tIfS (tOr (tTest (tOp rLt (tVar 0) (tC (.int 1)))) (tTest (tOp rGt (tVar 0) (tC (.int 40))))) (fun _ _ H => E (.ref a_C_NoHands) none H) tNext) (tSeq (tIfS (tTest (tOp rGt (tCB (rLenU K) (tCons (tVar 1) tNil)) (tC (.int 1000)))) (fun _ _ H => E (.ref a_C_TooMany) none H) tNext) (tSeq (tAsg (tLst tNil) (gName 2)) (tSeq (tFor (iEnum K (tCons (tVar 1) tNil)) (gTup K 2 (gCons (gName 3) (gCons (gName 4) gNil))) (tSeq (tDrop (tCall s_need_row [] E (tCons (tVar 4) tNil))) (tSeq (tDrop (tCall s_need_hand [] E (tCons (tVar 0) (tCons (tOp (rIx K) (tVar 4) (tC (.int 1))) tNil)))) (tSeq (tIfS (tTest (tOp (rEqD K) (tOp (rIx K) (tVar 4) (tC (.int 0))) (tC (.str (PySem.Str.ofString "send"))))) (tSeq (tDrop (tCall s_need_hand [] E (tCons (tVar 0) (tCons (tOp (rIx K) (tVar 4) (tC (.int 2))) tNil)))) (tDrop (tBM K "list" rAppend (tVar 2) (tCons (tTup (tCons (tOp (rIx K) (tVar 4) (tC (.int 1))) (tCons (tOp (rIx K) (tVar 4) (tC (.int 2))) (tCons (tVar 3) (tCons (tC .non) tNil))))) tNil)))) tNext) (tIfS (tTest (tOp (rEqD K) (tOp (rIx K) (tVar 4) (tC (.int 0))) (tC (.str (PySem.Str.ofString "got"))))) (tSeq (tDrop (tCall s_need_letter [] E (tCons (tVar 2) (tCons (tOp (rIx K) (tVar 4) (tC (.int 1))) (tCons (tOp (rIx K) (tVar 4) (tC (.int 2))) tNil))))) (tAsg (tOp (rAddU K) (tSl (rSlU K) (tOp (rIx K) (tVar 2) (tOp (rIx K) (tVar 4) (tC (.int 2)))) tNoPart (tPart (tC (.int 3)))) (tTup (tCons (tVar 3) tNil))) (gSub (tVar 2) (tOp (rIx K) (tVar 4) (tC (.int 2))) rSetL))) tNext))))) (tRet (tVar 2))))))
/- _law_cell_at(_law_script, _law_k): slots 0 _law_script 1 _law_k -/
def t_l_cell_at (K : PySem.W.Frag) : TS :=
  (tSeq (tIfS (tTest (tOp rLt (tVar 1) (tCB (rLenU K) (tCons (tVar 0) tNil)))) (tRet (tOp (rIx K) (tVar 0) (tVar 1))) tNext) (tRet (tC (.int 0))))
/- _law_hands_by(_law_cell): slots 0 _law_cell -/
def t_l_hands_by (K : PySem.W.Frag) : TS :=
  (tSeq (tIfS (tTest (tOp (rEqD K) (tOp rModU (tOp rFdivU (tVar 0) (tC (.int 5))) (tC (.int 8))) (tC (.int 1)))) (tRet (tOp (rAddU K) (tC (.int 1)) (tOp rModU (tOp rFdivU (tVar 0) (tC (.int 40))) (tC (.int 40))))) tNext) (tRet (tOp (rAddU K) (tC (.int 1)) (tOp rModU (tVar 0) (tC (.int 5))))))
/- _law_cells_by(_law_script, _law_first): slots 0 _law_script 1 _law_first 2 _law_size 3 _law_many 4 _law_k -/
def t_l_cells_by (K : PySem.W.Frag) (s__law_cell_at : Sp) : TS :=
  (tSeq (tAsg (tCall s__law_cell_at [] E0 (tCons (tVar 0) (tCons (tC (.int 1)) tNil))) (gName 2)) (tSeq (tIfS (tTest (tOp (rEqD K) (tOp rModU (tVar 2) (tC (.int 4))) (tC (.int 1)))) (tSeq (tAsg (tOp (rAddU K) (tOp rModU (tOp rFdivU (tVar 2) (tC (.int 4))) (tC (.int 61))) (tOp rMulU (tC (.int 100)) (tOp rFdivU (tOp rModU (tOp rFdivU (tVar 2) (tC (.int 244))) (tC (.int 8))) (tC (.int 7))))) (gName 3)) (tRet (tLc (iRng1 (tCons (tVar 3) tNil)) (gName 4) tYes (tOp rModU (tOp rMulU (tOp (rAddU K) (tOp rFdivU (tVar 2) (tC (.int 4))) (tOp rMulU (tC (.int 104729)) (tVar 4))) (tC (.int 48271))) (tC (.int 2147483647))) [4]))) tNext) (tRet (tSl (rSlU K) (tVar 0) (tPart (tVar 1)) (tPart (tOp (rAddU K) (tVar 1) (tC (.int 960))))))))
/- _law_rows_by(_law_cells, _law_hands): slots 0 _law_cells 1 _law_hands 2 _law_rows 3 _law_sent 4 _law_waits 5 _law_cell 6 _law_kind 7 _law_more 8 _law_letter 9 _law_one -/
def t_l_rows_by (K : PySem.W.Frag) : TS :=
  (tSeq (tAsg (tLst tNil) (gName 2)) (tSeq (tAsg (tLst tNil) (gName 3)) (tSeq (tAsg (tLst tNil) (gName 4)) (tSeq (tFor (iList K (tVar 0)) (gName 5) (tSeq (tAsg (tOp rModU (tVar 5) (tC (.int 8))) (gName 6)) (tSeq (tAsg (tOp rFdivU (tVar 5) (tC (.int 8))) (gName 7)) (tIfS (tTest (tOp rGt (tVar 6) (tC (.int 5)))) (tDrop (tBM K "list" rAppend (tVar 2) (tCons (tTup (tCons (tC (.str (PySem.Str.ofString "note"))) (tCons (tOp rModU (tVar 7) (tVar 1)) tNil))) tNil))) (tIfS (tAnd (tTest (tOp rGt (tVar 6) (tC (.int 2)))) (tTest (tOp (rNeD K) (tVar 4) (tLst tNil)))) (tSeq (tAsg (tOp (rIx K) (tVar 4) (tOp rModU (tVar 7) (tCB (rLenU K) (tCons (tVar 4) tNil)))) (gName 8)) (tSeq (tAsg (tLc (iList K (tVar 4)) (gName 9) (tTest (tOp (rNeD K) (tVar 9) (tVar 8))) (tVar 9) [9]) (gName 4)) (tDrop (tBM K "list" rAppend (tVar 2) (tCons (tTup (tCons (tC (.str (PySem.Str.ofString "got"))) (tCons (tOp (rIx K) (tVar 3) (tVar 8)) (tCons (tVar 8) tNil)))) tNil))))) (tSeq (tDrop (tBM K "list" rAppend (tVar 2) (tCons (tTup (tCons (tC (.str (PySem.Str.ofString "send"))) (tCons (tOp rModU (tVar 7) (tVar 1)) (tCons (tOp rModU (tOp rFdivU (tVar 7) (tVar 1)) (tVar 1)) tNil)))) tNil))) (tSeq (tDrop (tBM K "list" rAppend (tVar 4) (tCons (tCB (rLenU K) (tCons (tVar 3) tNil)) tNil))) (tDrop (tBM K "list" rAppend (tVar 3) (tCons (tOp rModU (tOp rFdivU (tVar 7) (tVar 1)) (tVar 1)) tNil)))))))))) (tRet (tVar 2))))))
/- _law_whole(_law_found): slots 0 _law_found -/
def t_l_whole (K : PySem.W.Frag) : TS :=
  (tRet (tAndV (tCB (rIsi K) (tCons (tVar 0) (tCons (tC (.ty "int")) tNil))) (tNotV (tCB (rIsi K) (tCons (tVar 0) (tCons (tC (.ty "bool")) tNil))))))
/- _law_letters_by(_law_rows): slots 0 _law_rows 1 _law_found 2 _law_place -/
def t_l_letters_by (K : PySem.W.Frag) : TS :=
  (tSeq (tAsg (tLst tNil) (gName 1)) (tSeq (tFor (iRng1 (tCons (tCB (rLenU K) (tCons (tVar 0) tNil)) tNil)) (gName 2) (tSeq (tIfS (tTest (tOp (rEqD K) (tOp (rIx K) (tOp (rIx K) (tVar 0) (tVar 2)) (tC (.int 0))) (tC (.str (PySem.Str.ofString "send"))))) (tDrop (tBM K "list" rAppend (tVar 1) (tCons (tLst (tCons (tOp (rIx K) (tOp (rIx K) (tVar 0) (tVar 2)) (tC (.int 1))) (tCons (tOp (rIx K) (tOp (rIx K) (tVar 0) (tVar 2)) (tC (.int 2))) (tCons (tVar 2) (tCons (tC .non) tNil))))) tNil))) tNext) (tIfS (tTest (tOp (rEqD K) (tOp (rIx K) (tOp (rIx K) (tVar 0) (tVar 2)) (tC (.int 0))) (tC (.str (PySem.Str.ofString "got"))))) (tAsg (tVar 2) (gSub (tOp (rIx K) (tVar 1) (tOp (rIx K) (tOp (rIx K) (tVar 0) (tVar 2)) (tC (.int 2)))) (tC (.int 3)) rSetL)) tNext))) (tRet (tVar 1))))
/- _law_refusal(_law_hands, _law_rows): slots 0 _law_hands 1 _law_rows -/
def t_l_refusal (K : PySem.W.Frag) (s_letters : Sp) (a_C_NoHands : Addr) (a_C_TooMany : Addr) (a_C_NoRow : Addr) (a_C_NoHand : Addr) (a_C_NoLetter : Addr) (a_C_GotTwice : Addr) : TS :=
  (tSeq (tTryM K s_letters [(a_C_NoHands, PySem.Str.ofString "NoHands"), (a_C_TooMany, PySem.Str.ofString "TooMany"), (a_C_NoRow, PySem.Str.ofString "NoRow"), (a_C_NoHand, PySem.Str.ofString "NoHand"), (a_C_NoLetter, PySem.Str.ofString "NoLetter"), (a_C_GotTwice, PySem.Str.ofString "GotTwice")] (tCons (tVar 0) (tCons (tVar 1) tNil))) (tRet (tC (.str (PySem.Str.ofString "")))))
/- _law_turned(_law_hands, _law_rows): slots 0 _law_hands 1 _law_rows -/
def t_l_turned (K : PySem.W.Frag) (s_letters : Sp) (a_C_GotTwice : Addr) (a_C_NoLetter : Addr) (a_C_NoHand : Addr) (a_C_NoRow : Addr) (a_C_TooMany : Addr) (a_C_NoHands : Addr) : TS :=
  (tSeq (tTryM K s_letters [(a_C_GotTwice, PySem.Str.ofString "GotTwice"), (a_C_NoLetter, PySem.Str.ofString "NoLetter"), (a_C_NoHand, PySem.Str.ofString "NoHand"), (a_C_NoRow, PySem.Str.ofString "NoRow"), (a_C_TooMany, PySem.Str.ofString "TooMany"), (a_C_NoHands, PySem.Str.ofString "NoHands")] (tCons (tVar 0) (tCons (tVar 1) tNil))) (tRet (tC (.str (PySem.Str.ofString "")))))
/- _law_refused_by_any(_law_hands, _law_rows): slots 0 _law_hands 1 _law_rows 2 e -/
def t_l_refused_by_any (K : PySem.W.Frag) (s_letters : Sp) (a_C_LineError : Addr) : TS :=
  (tSeq (tTryA K a_C_LineError 2 s_letters (tCons (tVar 0) (tCons (tVar 1) tNil))) (tRet (tC (.bl false))))
/- _law_beyond(_law_hands, _law_cell): slots 0 _law_hands 1 _law_cell -/
def t_l_beyond (K : PySem.W.Frag) : TS :=
  (tSeq (tIfS (tTest (tOp (rEqD K) (tOp rModU (tVar 1) (tC (.int 2))) (tC (.int 0)))) (tRet (tOp (rAddU K) (tVar 0) (tOp rModU (tOp rFdivU (tVar 1) (tC (.int 2))) (tC (.int 60))))) tNext) (tRet (tOp rSub (tUn rNeg (tC (.int 1))) (tOp rModU (tOp rFdivU (tVar 1) (tC (.int 2))) (tC (.int 60))))))
/- _law_letter_wrong(_law_rows, _law_hands, _law_cell): slots 0 _law_rows 1 _law_hands 2 _law_cell 3 _law_goals 4 _law_taken 5 _law_others 6 _law_letter 7 _law_row 8 _law_k -/
def t_l_letter_wrong (K : PySem.W.Frag) : TS :=
  (tSeq (tAsg (tLc (iList K (tVar 0)) (gName 7) (tTest (tOp (rEqD K) (tOp (rIx K) (tVar 7) (tC (.int 0))) (tC (.str (PySem.Str.ofString "send"))))) (tOp (rIx K) (tVar 7) (tC (.int 2))) [7]) (gName 3)) (tSeq (tAsg (tLc (iList K (tVar 0)) (gName 7) (tTest (tOp (rEqD K) (tOp (rIx K) (tVar 7) (tC (.int 0))) (tC (.str (PySem.Str.ofString "got"))))) (tOp (rIx K) (tVar 7) (tC (.int 2))) [7]) (gName 4)) (tSeq (tAsg (tLc (iRng1 (tCons (tCB (rLenU K) (tCons (tVar 3) tNil)) tNil)) (gName 8) (tTest (tOp (rNeD K) (tOp (rIx K) (tVar 3) (tVar 8)) (tOp rModU (tVar 2) (tVar 1)))) (tVar 8) [8]) (gName 5)) (tSeq (tIfS (tAnd (tTest (tOp (rEqD K) (tOp rModU (tOp rFdivU (tVar 2) (tC (.int 40))) (tC (.int 3))) (tC (.int 1)))) (tTest (tOp (rNeD K) (tVar 5) (tLst tNil)))) (tRet (tTup (tCons (tTup (tCons (tC (.str (PySem.Str.ofString "got"))) (tCons (tOp rModU (tVar 2) (tVar 1)) (tCons (tOp (rIx K) (tVar 5) (tOp rModU (tOp rFdivU (tVar 2) (tC (.int 120))) (tCB (rLenU K) (tCons (tVar 5) tNil)))) tNil)))) (tCons (tC (.str (PySem.Str.ofString "NoLetter"))) tNil)))) tNext) (tSeq (tIfS (tAnd (tTest (tOp (rEqD K) (tOp rModU (tOp rFdivU (tVar 2) (tC (.int 40))) (tC (.int 3))) (tC (.int 2)))) (tTest (tOp (rNeD K) (tVar 4) (tLst tNil)))) (tSeq (tAsg (tOp (rIx K) (tVar 4) (tOp rModU (tOp rFdivU (tVar 2) (tC (.int 120))) (tCB (rLenU K) (tCons (tVar 4) tNil)))) (gName 6)) (tRet (tTup (tCons (tTup (tCons (tC (.str (PySem.Str.ofString "got"))) (tCons (tOp (rIx K) (tVar 3) (tVar 6)) (tCons (tVar 6) tNil)))) (tCons (tC (.str (PySem.Str.ofString "GotTwice"))) tNil))))) tNext) (tSeq (tIfS (tTest (tOp (rEqD K) (tOp rModU (tOp rFdivU (tVar 2) (tC (.int 120))) (tC (.int 2))) (tC (.int 0)))) (tRet (tTup (tCons (tTup (tCons (tC (.str (PySem.Str.ofString "got"))) (tCons (tOp rModU (tVar 2) (tVar 1)) (tCons (tOp (rAddU K) (tCB (rLenU K) (tCons (tVar 3) tNil)) (tOp rModU (tOp rFdivU (tVar 2) (tC (.int 240))) (tC (.int 9)))) tNil)))) (tCons (tC (.str (PySem.Str.ofString "NoLetter"))) tNil)))) tNext) (tRet (tTup (tCons (tTup (tCons (tC (.str (PySem.Str.ofString "got"))) (tCons (tOp rModU (tVar 2) (tVar 1)) (tCons (tOp rSub (tUn rNeg (tC (.int 1))) (tOp rModU (tOp rFdivU (tVar 2) (tC (.int 240))) (tC (.int 9)))) tNil)))) (tCons (tC (.str (PySem.Str.ofString "NoLetter"))) tNil))))))))))
/- _law_word(_law_cell): slots 0 _law_cell 1 _law_word_here 2 _law_at 3 _law_sign 4 _law_made -/
def t_l_word (K : PySem.W.Frag) : TS :=
  (tSeq (tAsg (tOp (rIx K) (tLst (tCons (tC (.str (PySem.Str.ofString "send"))) (tCons (tC (.str (PySem.Str.ofString "got"))) (tCons (tC (.str (PySem.Str.ofString "note"))) tNil)))) (tOp rModU (tVar 0) (tC (.int 3)))) (gName 1)) (tSeq (tAsg (tOp rModU (tOp rFdivU (tVar 0) (tC (.int 3))) (tOp (rAddU K) (tCB (rLenU K) (tCons (tVar 1) tNil)) (tC (.int 1)))) (gName 2)) (tSeq (tAsg (tOp (rIx K) (tC (.str (PySem.Str.ofString "abcdefghijklmnopqrstuvwxyzABCDEFGHIJKLMNOPQRSTUVWXYZ _"))) (tOp rModU (tOp rFdivU (tVar 0) (tC (.int 15))) (tC (.int 54)))) (gName 3)) (tSeq (tAsg (tLst (tCons (tOp (rAddU K) (tOp (rAddU K) (tSl (rSlU K) (tVar 1) tNoPart (tPart (tVar 2))) (tVar 3)) (tSl (rSlU K) (tVar 1) (tPart (tVar 2)) tNoPart)) (tCons (tOp (rAddU K) (tSl (rSlU K) (tVar 1) tNoPart (tPart (tVar 2))) (tSl (rSlU K) (tVar 1) (tPart (tOp (rAddU K) (tVar 2) (tC (.int 1)))) tNoPart)) (tCons (tOp (rAddU K) (tOp (rAddU K) (tSl (rSlU K) (tVar 1) tNoPart (tPart (tVar 2))) (tVar 3)) (tSl (rSlU K) (tVar 1) (tPart (tOp (rAddU K) (tVar 2) (tC (.int 1)))) tNoPart)) (tCons (tM0 rUpper (tVar 1)) tNil))))) (gName 4)) (tSeq (tAsg (tOp (rIx K) (tOp (rAddU K) (tVar 4) (tLst (tCons (tOp (rAddU K) (tVar 1) (tVar 3)) (tCons (tOp (rAddU K) (tVar 3) (tVar 1)) tNil)))) (tOp rModU (tOp rFdivU (tVar 0) (tC (.int 810))) (tC (.int 6)))) (gName 4)) (tSeq (tIfS (tTest (tOp (rInU K) (tVar 4) (tTup (tCons (tC (.str (PySem.Str.ofString "send"))) (tCons (tC (.str (PySem.Str.ofString "got"))) (tCons (tC (.str (PySem.Str.ofString "note"))) tNil)))))) (tAsg (tOp (rAddU K) (tVar 4) (tC (.str (PySem.Str.ofString "s")))) (gName 4)) tNext) (tRet (tVar 4))))))))
/- _law_wrong(_law_rows, _law_hands, _law_kind, _law_cell): slots 0 _law_rows 1 _law_hands 2 _law_kind 3 _law_cell 4 _law_hand 5 _law_more 6 _law_word_here 7 _law_fits 8 _law_some 9 _law_far -/
def t_l_wrong (K : PySem.W.Frag) (s__law_beyond : Sp) (s__law_word : Sp) (s__law_letter_wrong : Sp) : TS :=
  (tSeq (tAsg (tOp rModU (tVar 3) (tVar 1)) (gName 4)) (tSeq (tIfS (tAnd (tTest (tOp rLt (tVar 2) (tC (.int 2)))) (tTest (tOp (rEqD K) (tOp rModU (tOp rFdivU (tVar 3) (tC (.int 240))) (tC (.int 2))) (tC (.int 1))))) (tAsg (tCall s__law_beyond [] E0 (tCons (tVar 1) (tCons (tOp rFdivU (tVar 3) (tC (.int 480))) tNil))) (gName 4)) tNext) (tSeq (tIfS (tTest (tOp (rEqD K) (tVar 2) (tC (.int 0)))) (tSeq (tAsg (tOp rModU (tOp rMulU (tVar 3) (tC (.int 48271))) (tC (.int 2147483647))) (gName 5)) (tSeq (tAsg (tCall s__law_word [] E0 (tCons (tVar 5) tNil)) (gName 6)) (tSeq (tAsg (tOp (rIx K) (tLst (tCons (tTup (tCons (tVar 6) (tCons (tVar 4) (tCons (tVar 4) tNil)))) (tCons (tTup (tCons (tVar 6) (tCons (tVar 4) (tCons (tC (.int 0)) tNil)))) (tCons (tTup (tCons (tVar 6) (tCons (tVar 4) tNil))) tNil)))) (tOp rModU (tVar 5) (tC (.int 3)))) (gName 7)) (tRet (tTup (tCons (tOp (rIx K) (tLst (tCons (tVar 7) (tCons (tVar 7) (tCons (tVar 7) (tCons (tTup (tCons (tC (.str (PySem.Str.ofString ""))) (tCons (tVar 4) tNil))) (tCons (tTup (tCons (tVar 6) (tCons (tVar 4) (tCons (tVar 4) tNil)))) (tCons (tTup tNil) tNil))))))) (tOp rModU (tOp rFdivU (tVar 3) (tC (.int 40))) (tC (.int 6)))) (tCons (tC (.str (PySem.Str.ofString "NoRow"))) tNil))))))) tNext) (tSeq (tIfS (tTest (tOp (rEqD K) (tVar 2) (tC (.int 1)))) (tSeq (tAsg (tLst (tCons (tTup (tCons (tC (.str (PySem.Str.ofString "send"))) (tCons (tVar 4) tNil))) (tCons (tTup (tCons (tC (.str (PySem.Str.ofString "send"))) (tCons (tVar 4) (tCons (tVar 4) (tCons (tC (.int 0)) tNil))))) (tCons (tTup (tCons (tC (.str (PySem.Str.ofString "got"))) (tCons (tVar 4) tNil))) (tCons (tTup (tCons (tC (.str (PySem.Str.ofString "got"))) (tCons (tVar 4) (tCons (tC (.int 0)) (tCons (tC (.int 0)) tNil))))) (tCons (tTup (tCons (tC (.str (PySem.Str.ofString "note"))) tNil)) tNil)))))) (gName 8)) (tSeq (tDrop (tBM K "list" rAppend (tVar 8) (tCons (tTup (tCons (tC (.str (PySem.Str.ofString "note"))) (tCons (tVar 4) (tCons (tC (.int 0)) tNil)))) tNil))) (tRet (tTup (tCons (tOp (rIx K) (tVar 8) (tOp rModU (tOp rFdivU (tVar 3) (tC (.int 40))) (tC (.int 6)))) (tCons (tC (.str (PySem.Str.ofString "NoRow"))) tNil)))))) tNext) (tSeq (tIfS (tTest (tOp (rEqD K) (tVar 2) (tC (.int 2)))) (tSeq (tAsg (tCall s__law_beyond [] E0 (tCons (tVar 1) (tCons (tOp rFdivU (tVar 3) (tC (.int 40))) tNil))) (gName 9)) (tRet (tTup (tCons (tOp (rIx K) (tLst (tCons (tTup (tCons (tC (.str (PySem.Str.ofString "send"))) (tCons (tVar 9) (tCons (tVar 4) tNil)))) (tCons (tTup (tCons (tC (.str (PySem.Str.ofString "got"))) (tCons (tVar 9) (tCons (tC (.int 0)) tNil)))) (tCons (tTup (tCons (tC (.str (PySem.Str.ofString "note"))) (tCons (tVar 9) tNil))) (tCons (tTup (tCons (tC (.str (PySem.Str.ofString "send"))) (tCons (tVar 9) (tCons (tVar 9) tNil)))) tNil))))) (tOp rModU (tVar 3) (tC (.int 4)))) (tCons (tC (.str (PySem.Str.ofString "NoHand"))) tNil))))) tNext) (tSeq (tIfS (tTest (tOp (rEqD K) (tVar 2) (tC (.int 3)))) (tRet (tTup (tCons (tTup (tCons (tC (.str (PySem.Str.ofString "send"))) (tCons (tVar 4) (tCons (tCall s__law_beyond [] E0 (tCons (tVar 1) (tCons (tOp rFdivU (tVar 3) (tC (.int 40))) tNil))) tNil)))) (tCons (tC (.str (PySem.Str.ofString "NoHand"))) tNil)))) tNext) (tRet (tCall s__law_letter_wrong [] E0 (tCons (tVar 0) (tCons (tVar 1) (tCons (tVar 3) tNil)))))))))))
/- _law_history(_law_script, _law_hands): slots 0 _law_script 1 _law_hands 2 _law_cell 3 _law_rows 4 _law_kind 5 _law_due 6 _law_place 7 _law_wrong_here 8 _law_tail 9 _law_k -/
def t_l_history (K : PySem.W.Frag) (s__law_cell_at : Sp) (s__law_rows_by : Sp) (s__law_wrong : Sp) : TS :=
  (tSeq (tAsg (tCall s__law_cell_at [] E0 (tCons (tVar 0) (tCons (tC (.int 2)) tNil))) (gName 2)) (tSeq (tAsg (tCall s__law_rows_by [] E0 (tCons (tLc (iRng1 (tCons (tOp rModU (tVar 2) (tC (.int 61))) tNil)) (gName 9) tYes (tOp rModU (tOp rMulU (tOp (rAddU K) (tOp rFdivU (tVar 2) (tC (.int 7))) (tOp rMulU (tC (.int 104729)) (tVar 9))) (tC (.int 48271))) (tC (.int 2147483647))) [9]) (tCons (tVar 1) tNil))) (gName 3)) (tSeq (tAsg (tOp rModU (tCall s__law_cell_at [] E0 (tCons (tVar 0) (tCons (tC (.int 1)) tNil))) (tC (.int 12))) (gName 4)) (tSeq (tAsg (tC (.str (PySem.Str.ofString ""))) (gName 5)) (tSeq (tIfS (tTest (tOp rLt (tVar 4) (tC (.int 9)))) (tSeq (tAsg (tOp rModU (tCall s__law_cell_at [] E0 (tCons (tVar 0) (tCons (tC (.int 3)) tNil))) (tOp (rAddU K) (tCB (rLenU K) (tCons (tVar 3) tNil)) (tC (.int 1)))) (gName 6)) (tSeq (tAsg (tOp (rIx K) (tLst (tCons (tC (.int 0)) (tCons (tC (.int 1)) (tCons (tC (.int 2)) (tCons (tC (.int 3)) (tCons (tC (.int 4)) (tCons (tC (.int 4)) (tCons (tC (.int 4)) (tCons (tC (.int 0)) (tCons (tC (.int 0)) tNil)))))))))) (tVar 4)) (gName 4)) (tSeq (tAsg (tCall s__law_wrong [] E0 (tCons (tSl (rSlU K) (tVar 3) tNoPart (tPart (tVar 6))) (tCons (tVar 1) (tCons (tVar 4) (tCons (tCall s__law_cell_at [] E0 (tCons (tVar 0) (tCons (tC (.int 4)) tNil))) tNil))))) (gName 7)) (tSeq (tAsg (tOp (rIx K) (tVar 7) (tC (.int 1))) (gName 5)) (tSeq (tAsg (tSl (rSlU K) (tVar 3) (tPart (tVar 6)) tNoPart) (gName 8)) (tSeq (tIfS (tTest (tOp (rEqD K) (tOp rModU (tCall s__law_cell_at [] E0 (tCons (tVar 0) (tCons (tC (.int 5)) tNil))) (tC (.int 2))) (tC (.int 1)))) (tAsg (tOp (rAddU K) (tLst (tCons (tOp (rIx K) (tCall s__law_wrong [] E0 (tCons (tLst tNil) (tCons (tVar 1) (tCons (tOp rModU (tOp rFdivU (tCall s__law_cell_at [] E0 (tCons (tVar 0) (tCons (tC (.int 5)) tNil))) (tC (.int 2))) (tC (.int 4))) (tCons (tCall s__law_cell_at [] E0 (tCons (tVar 0) (tCons (tC (.int 6)) tNil))) tNil))))) (tC (.int 0))) tNil)) (tVar 8)) (gName 8)) tNext) (tAsg (tOp (rAddU K) (tOp (rAddU K) (tSl (rSlU K) (tVar 3) tNoPart (tPart (tVar 6))) (tLst (tCons (tOp (rIx K) (tVar 7) (tC (.int 0))) tNil))) (tVar 8)) (gName 3)))))))) tNext) (tSeq (tIfS (tTest (tOp (rEqD K) (tVar 4) (tC (.int 10)))) (tSeq (tAsg (tOp (rAddU K) (tOp (rAddU K) (tVar 3) (tOp rMulU (tLst (tCons (tTup (tCons (tC (.str (PySem.Str.ofString "note"))) (tCons (tOp rSub (tVar 1) (tC (.int 1))) tNil))) tNil)) (tOp rSub (tC (.int 1000)) (tCB (rLenU K) (tCons (tVar 3) tNil))))) (tOp rMulU (tLst (tCons (tTup (tCons (tC (.str (PySem.Str.ofString "note"))) (tCons (tC (.int 0)) tNil))) tNil)) (tOp rModU (tCall s__law_cell_at [] E0 (tCons (tVar 0) (tCons (tC (.int 3)) tNil))) (tC (.int 4))))) (gName 3)) (tSeq (tIfS (tTest (tOp (rEqD K) (tOp rModU (tCall s__law_cell_at [] E0 (tCons (tVar 0) (tCons (tC (.int 4)) tNil))) (tC (.int 3))) (tC (.int 1)))) (tSeq (tAsg (tTup (tCons (tC (.str (PySem.Str.ofString "sent"))) (tCons (tC (.int 0)) tNil))) (gSub (tVar 3) (tOp rModU (tCall s__law_cell_at [] E0 (tCons (tVar 0) (tCons (tC (.int 5)) tNil))) (tC (.int 1000))) rSetL)) (tAsg (tC (.str (PySem.Str.ofString "NoRow"))) (gName 5))) tNext) (tIfS (tTest (tOp rGt (tCB (rLenU K) (tCons (tVar 3) tNil)) (tC (.int 1000)))) (tAsg (tC (.str (PySem.Str.ofString "TooMany"))) (gName 5)) tNext))) tNext) (tRet (tLst (tCons (tVar 3) (tCons (tVar 5) tNil))))))))))
/- law(_law_script): slots 0 _law_script 1 _law_hands 2 _law_made 3 _law_rows 4 _law_due 5 _law_far 6 _law_handed 7 _law_found -/
def t_law_k02 (K : PySem.W.Frag) (s__law_cell_at : Sp) (s__law_history : Sp) (s__law_refusal : Sp) (s__law_turned : Sp) (s__law_refused_by_any : Sp) : TS :=
  (tSeq (tIfS (tOr (tTest (tOp (rNeD K) (tC (.int 40)) (tC (.int 40)))) (tTest (tOp (rNeD K) (tC (.int 1000)) (tC (.int 1000))))) (tRet (tC (.bl false))) tNext) (tSeq (tAsg (tOp (rAddU K) (tC (.int 1)) (tOp rModU (tCall s__law_cell_at [] E0 (tCons (tVar 0) (tCons (tC (.int 0)) tNil))) (tC (.int 40)))) (gName 1)) (tSeq (tAsg (tCall s__law_history [] E0 (tCons (tVar 0) (tCons (tVar 1) tNil))) (gName 2)) (tSeq (tAsg (tOp (rIx K) (tVar 2) (tC (.int 0))) (gName 3)) (tSeq (tAsg (tOp (rIx K) (tVar 2) (tC (.int 1))) (gName 4)) (tSeq (tIfS (tTest (tOp (rEqD K) (tOp rModU (tOp rFdivU (tCall s__law_cell_at [] E0 (tCons (tVar 0) (tCons (tC (.int 1)) tNil))) (tC (.int 12))) (tC (.int 5))) (tC (.int 1)))) (tSeq (tAsg (tOp rModU (tCall s__law_cell_at [] E0 (tCons (tVar 0) (tCons (tC (.int 7)) tNil))) (tOp rPow (tC (.int 10)) (tC (.int 60)))) (gName 5)) (tSeq (tAsg (tOp (rIx K) (tLst (tCons (tC (.int 0)) (tCons (tC (.int 41)) (tCons (tOp rMulU (tUn rNeg (tVar 5)) (tVar 5)) (tCons (tOp (rAddU K) (tC (.int 41)) (tOp rMulU (tVar 5) (tVar 5))) tNil))))) (tOp rModU (tVar 5) (tC (.int 4)))) (gName 1)) (tAsg (tC (.str (PySem.Str.ofString "NoHands"))) (gName 4)))) tNext) (tSeq (tAsg (tCB (rListU K) (tCons (tVar 3) tNil)) (gName 6)) (tSeq (tAsg (tCall s__law_refusal [] E0 (tCons (tVar 1) (tCons (tVar 6) tNil))) (gName 7)) (tSeq (tIfS (tOr (tTest (tOp (rNeD K) (tVar 7) (tVar 4))) (tOr (tTest (tOp (rNeD K) (tVar 6) (tVar 3))) (tTest (tOp (rNeD K) (tCall s__law_turned [] E0 (tCons (tVar 1) (tCons (tCB (rListU K) (tCons (tVar 3) tNil)) tNil))) (tVar 4))))) (tRet (tC (.bl false))) tNext) (tRet (tOp (rEqD K) (tCall s__law_refused_by_any [] E0 (tCons (tVar 1) (tCons (tCB (rListU K) (tCons (tVar 3) tNil)) tNil))) (tOp (rNeD K) (tVar 4) (tC (.str (PySem.Str.ofString "")))))))))))))))
/- _law_broken(_law_hands, _law_rows, _law_cell): slots 0 _law_hands 1 _law_rows 2 _law_cell 3 _law_kind 4 _law_hand 5 _law_sends 6 _law_far 7 _law_some 8 _law_odd 9 _law_at 10 _law_due 11 _law_row -/
def t_l_broken (K : PySem.W.Frag) : TS :=
  (tSeq (tAsg (tOp rModU (tVar 2) (tC (.int 10))) (gName 3)) (tSeq (tAsg (tOp rModU (tOp rFdivU (tVar 2) (tC (.int 10))) (tVar 0)) (gName 4)) (tSeq (tAsg (tCB (rLenU K) (tCons (tLc (iList K (tVar 1)) (gName 11) (tTest (tOp (rEqD K) (tOp (rIx K) (tVar 11) (tC (.int 0))) (tC (.str (PySem.Str.ofString "send"))))) (tVar 11) [11]) tNil)) (gName 5)) (tSeq (tIfS (tTest (tOp (rEqD K) (tVar 3) (tC (.int 0)))) (tRet (tTup (tCons (tC (.int 0)) (tCons (tVar 1) (tCons (tC (.str (PySem.Str.ofString "NoHands"))) tNil))))) tNext) (tSeq (tIfS (tTest (tOp (rEqD K) (tVar 3) (tC (.int 1)))) (tRet (tTup (tCons (tOp (rAddU K) (tC (.int 41)) (tOp rModU (tOp rFdivU (tVar 2) (tC (.int 10))) (tC (.int 9)))) (tCons (tVar 1) (tCons (tC (.str (PySem.Str.ofString "NoHands"))) tNil))))) tNext) (tSeq (tIfS (tTest (tOp (rEqD K) (tVar 3) (tC (.int 2)))) (tRet (tTup (tCons (tVar 0) (tCons (tOp (rAddU K) (tVar 1) (tOp rMulU (tLst (tCons (tTup (tCons (tC (.str (PySem.Str.ofString "note"))) (tCons (tVar 4) tNil))) tNil)) (tOp rSub (tC (.int 1001)) (tCB (rLenU K) (tCons (tVar 1) tNil))))) (tCons (tC (.str (PySem.Str.ofString "TooMany"))) tNil))))) tNext) (tSeq (tIfS (tTest (tOp (rEqD K) (tVar 3) (tC (.int 3)))) (tRet (tTup (tCons (tVar 0) (tCons (tOp (rAddU K) (tVar 1) (tLst (tCons (tTup (tCons (tC (.str (PySem.Str.ofString "send"))) (tCons (tC (.int 0)) (tCons (tVar 4) tNil)))) (tCons (tTup (tCons (tC (.str (PySem.Str.ofString "got"))) (tCons (tVar 4) (tCons (tVar 5) tNil)))) (tCons (tTup (tCons (tC (.str (PySem.Str.ofString "got"))) (tCons (tVar 4) (tCons (tVar 5) tNil)))) tNil))))) (tCons (tC (.str (PySem.Str.ofString "GotTwice"))) tNil))))) tNext) (tSeq (tIfS (tAnd (tTest (tOp (rEqD K) (tVar 3) (tC (.int 4)))) (tTest (tOp rGt (tVar 0) (tC (.int 1))))) (tRet (tTup (tCons (tVar 0) (tCons (tOp (rAddU K) (tVar 1) (tLst (tCons (tTup (tCons (tC (.str (PySem.Str.ofString "send"))) (tCons (tC (.int 0)) (tCons (tVar 4) tNil)))) (tCons (tTup (tCons (tC (.str (PySem.Str.ofString "got"))) (tCons (tOp rModU (tOp (rAddU K) (tVar 4) (tC (.int 1))) (tVar 0)) (tCons (tVar 5) tNil)))) tNil)))) (tCons (tC (.str (PySem.Str.ofString "NoLetter"))) tNil))))) tNext) (tSeq (tAsg (tOp (rIx K) (tLst (tCons (tOp (rAddU K) (tVar 0) (tOp rModU (tOp rFdivU (tVar 2) (tC (.int 10))) (tC (.int 9)))) (tCons (tOp rSub (tUn rNeg (tC (.int 1))) (tOp rModU (tOp rFdivU (tVar 2) (tC (.int 10))) (tC (.int 9)))) tNil))) (tOp rModU (tOp rFdivU (tVar 2) (tC (.int 90))) (tC (.int 2)))) (gName 6)) (tSeq (tAsg (tLst (tCons (tTup (tCons (tC (.str (PySem.Str.ofString "noted"))) (tCons (tVar 4) tNil))) (tCons (tTup (tCons (tC (.str (PySem.Str.ofString "noted"))) (tCons (tVar 4) tNil))) (tCons (tTup (tCons (tC (.str (PySem.Str.ofString "note"))) (tCons (tVar 6) tNil))) (tCons (tTup (tCons (tC (.str (PySem.Str.ofString "send"))) (tCons (tVar 4) (tCons (tVar 6) tNil)))) tNil))))) (gName 7)) (tSeq (tAsg (tOp (rIx K) (tLst (tCons (tTup (tCons (tC (.str (PySem.Str.ofString "note"))) tNil)) (tCons (tTup (tCons (tC (.str (PySem.Str.ofString "got"))) (tCons (tVar 4) tNil))) (tCons (tTup (tCons (tC (.str (PySem.Str.ofString "note"))) (tCons (tVar 4) (tCons (tC (.int 0)) tNil)))) (tCons (tTup (tCons (tC (.str (PySem.Str.ofString "send"))) (tCons (tVar 4) (tCons (tVar 4) (tCons (tC (.int 0)) tNil))))) (tCons (tTup tNil) tNil)))))) (tOp rModU (tOp rFdivU (tVar 2) (tC (.int 90))) (tC (.int 5)))) (gName 8)) (tSeq (tAsg (tOp (rAddU K) (tVar 7) (tLst (tCons (tTup (tCons (tC (.str (PySem.Str.ofString "got"))) (tCons (tVar 4) (tCons (tOp (rIx K) (tLst (tCons (tC (.int 1000)) (tCons (tUn rNeg (tC (.int 1))) tNil))) (tOp rModU (tOp rFdivU (tVar 2) (tC (.int 90))) (tC (.int 2)))) tNil)))) (tCons (tVar 8) tNil)))) (gName 7)) (tSeq (tAsg (tOp rModU (tOp rFdivU (tVar 2) (tC (.int 180))) (tOp (rAddU K) (tCB (rLenU K) (tCons (tVar 1) tNil)) (tC (.int 1)))) (gName 9)) (tSeq (tAsg (tOp (rIx K) (tLst (tCons (tC (.str (PySem.Str.ofString "NoRow"))) (tCons (tC (.str (PySem.Str.ofString "NoRow"))) (tCons (tC (.str (PySem.Str.ofString "NoHand"))) (tCons (tC (.str (PySem.Str.ofString "NoHand"))) (tCons (tC (.str (PySem.Str.ofString "NoLetter"))) (tCons (tC (.str (PySem.Str.ofString "NoRow"))) tNil))))))) (tOp rSub (tVar 3) (tC (.int 4)))) (gName 10)) (tSeq (tIfS (tTest (tOp (rEqD K) (tVar 3) (tC (.int 4)))) (tAsg (tVar 8) (gSub (tVar 7) (tC (.int 0)) rSetL)) tNext) (tRet (tTup (tCons (tVar 0) (tCons (tOp (rAddU K) (tOp (rAddU K) (tSl (rSlU K) (tVar 1) tNoPart (tPart (tVar 9))) (tLst (tCons (tOp (rIx K) (tVar 7) (tOp rSub (tVar 3) (tC (.int 4)))) tNil))) (tSl (rSlU K) (tVar 1) (tPart (tVar 9)) tNoPart)) (tCons (tVar 10) tNil))))))))))))))))))))
end Y

/-! Mb: the kinds of data, the classes of refusals, what a law promises. -/
namespace Y
open PySem PySem.Spec L2

inductive Er where
  | NoHands | TooMany | NoRow | NoHand | NoLetter | GotTwice | NoLine | Unsound
  deriving DecidableEq
/-- lists of whole numbers -/
abbrev dI (ns : List Int) : PyData := .list (ns.map .int)
theorem noLA_ints : ∀ ns : List Int, noLA (ns.map .int) = true
  | [] => rfl
  | n :: ns => by simp [noLA, noL, noLA_ints ns]
theorem shaped_int (i : Int) : SeqAt.shaped (.int i) = true := rfl
theorem lay_ints : ∀ ns : List Int, PyData.canLayAll0 (ns.map .int) = true
  | [] => by simp [PyData.canLayAll0]
  | n :: ns => by simp [PyData.canLayAll0, PyData.canLay0, lay_ints ns]
theorem depth_ints : ∀ ns : List Int, PyData.depthAll (ns.map .int) ≤ 1
  | [] => by simp [PyData.depthAll]
  | n :: ns => by
    have := depth_ints ns
    simp only [List.map_cons, PyData.depthAll, PyData.depth]
    omega
theorem shaped_list {ds : List PyData} {k : Nat} (h1 : PyData.canLayAll0 ds = true) (h2 : PyData.depthAll ds ≤ k) (hk : k ≤ 60) : SeqAt.shaped (.list ds) = true := by
  have h3 : PyData.depth (.list ds) ≤ 64 := by
    simp only [PyData.depth]
    omega
  show (PyData.canLay0 (.list ds) && decide (PyData.depth (.list ds) ≤ 64)) = true
  rw [Bool.and_eq_true]
  exact ⟨by simp only [PyData.canLay0]; exact h1, decide_eq_true h3⟩
theorem shaped_ints (ns : List Int) : SeqAt.shaped (dI ns) = true := shaped_list (lay_ints ns) (depth_ints ns) (by decide)
theorem eqv_ints : ∀ ns ms : List Int, PyData.eqvAll (ns.map .int) (ms.map .int) = decide (ns = ms)
  | [], [] => by simp [PyData.eqvAll]
  | [], m :: ms => by simp [PyData.eqvAll]
  | n :: ns, [] => by simp [PyData.eqvAll]
  | n :: ns, m :: ms => by
    simp only [List.map_cons, PyData.eqvAll, PyData.eqv, eqv_ints ns ms]
    by_cases h : n = m
    · subst h; simp
    · have : (n == m) = false := by simpa using h
      simp [this, h]
theorem eqv_dI (ns ms : List Int) : PyData.eqv (dI ns) (dI ms) = decide (ns = ms) := by
  simp only [PyData.eqv, eqv_ints]
theorem itm_dI {K : PySem.W.Frag} {H0 : Hp} {ω : Om} (ns : List Int) : Itm K H0 ω (.dat (dI ns)) (ns.map fun n => .dat (.int n)) := by
  have := Itm.dat (K := K) (H0 := H0) (ω := ω) (ns.map .int)
  rw [List.map_map] at this
  exact this
theorem itm_aI {K : PySem.W.Frag} {H0 : Hp} {ω : Om} (ns : List Int) : Itm K H0 ω (.arg (dI ns)) (ns.map fun n => .dat (.int n)) := by
  have := Itm.argT (K := K) (H0 := H0) (ω := ω) (ns.map .int) (noLA_ints ns)
  rw [List.map_map] at this
  exact this
theorem at_nat {α : Type} {xs : List α} {i : Int} {c : α} (h0 : 0 ≤ i) (h : xs[i.toNat]? = some c) : atI xs i = some c := by
  have e : i = (i.toNat : Int) := by omega
  rw [e]
  exact atI_nat h
/-- the cell of a script -/
def cellAt (ns : List Int) (k : Int) : Int := ns.getD k.toNat 0
/-- what the law promises -/
def spLaw (K : PySem.W.Frag) : Sp := fun vs H Q _ => ∃ (a : Addr) (ns : List Int), vs = [.ref a] ∧ SqL K H a (ns.map V.int) ∧ ns.length ≤ 63 ∧ ∀ H', Q (.bl true) H'
def R_law (ns : List Int) (ds : List PyData) (r : Res Er) : Prop := ds = [] ∧ ns.length ≤ 63 ∧ r = .ok (.bool true)
theorem law_imp {K : PySem.W.Frag} {C : Er → Addr} {vs : List V} {H : Hp} {Q : VK} {E : XK} (h : spLaw K vs H Q E) : PrS K C R_law vs H Q E := by
  obtain ⟨a, ns, rfl, hS, hl, q⟩ := h
  exact ⟨a, [], ns, [], .ok (.bool true), rfl, hS, .nil, ⟨rfl, hl, rfl⟩, fun v H' _ r => by cases r; exact q H'⟩
abbrev sp_law (K : PySem.W.Frag) (C : Er → Addr) : Sp := PrS K C R_law
theorem len_law {ns : List Int} {ds : List PyData} {r : Res Er} (h : R_law ns ds r) : ds.length + 1 = 1 := by rw [h.1]; rfl
end Y
namespace Y
open PySem PySem.Spec L2
theorem enA_map {α : Type} (xs : List α) (f : α → PyData) : enA (xs.map f) = xs.mapIdx fun i x => .dat (.tuple [.int (i : Nat), f x]) := by
  unfold enA
  apply List.ext_getElem?
  intro i
  rw [List.getElem?_mapIdx, List.getElem?_mapIdx, List.getElem?_map]
  cases xs[i]? <;> rfl
theorem map_idx {α : Type} (xs : List α) (f : α → A) : xs.map f = xs.mapIdx fun _ x => f x := by
  apply List.ext_getElem?
  intro i
  rw [List.getElem?_mapIdx, List.getElem?_map]
theorem rng_idx (n : Nat) (f : Nat → A) : (List.range n).map f = (List.range n).mapIdx fun _ i => f i := map_idx _ _
theorem mid_get {α : Type} {xs pre post : List α} {x : α} (h : xs = pre ++ x :: post) : xs[pre.length]? = some x := by
  subst h; simp
theorem rd_dI {ω : Om} {k : Nat} {ns : List Int} (h : ω[k]? = some (.lst (ns.map fun n => .dat (.int n)))) : Rd ω (.ptr k) (dI ns) := by
  refine .ptr h ?_
  have := RdA.dats (ω := ω) (ns.map .int)
  rw [List.map_map] at this
  exact this
def noLater : List Int → List Int → Bool
  | x :: xs, y :: ys => decide (x ≤ y) && noLater xs ys
  | _, _ => true
theorem noLater_iff : ∀ {xs ys : List Int}, xs.length = ys.length → (noLater xs ys = true ↔ ∀ (i : Nat) (x y : Int), xs[i]? = some x → ys[i]? = some y → x ≤ y)
  | [], [], _ => by simp [noLater]
  | [], _ :: _, h => by simp at h
  | _ :: _, [], h => by simp at h
  | x :: xs, y :: ys, h => by
    have ih := noLater_iff (xs := xs) (ys := ys) (by simpa using h)
    simp only [noLater, Bool.and_eq_true, decide_eq_true_eq, ih]
    constructor
    · rintro ⟨h1, h2⟩ i u v hu hv
      cases i with
      | zero => simp at hu hv; omega
      | succ i => exact h2 i u v (by simpa using hu) (by simpa using hv)
    · intro h2
      exact ⟨h2 0 x y rfl rfl, fun i u v hu hv => h2 (i + 1) u v (by simpa using hu) (by simpa using hv)⟩
theorem kb_bool : kitB "bool" "bool" = some true := by decide +kernel
theorem kb_bool_int : kitB "bool" "int" = some true := by decide +kernel
theorem kb_int : kitB "int" "int" = some true := by decide +kernel
theorem kb_int_bool : kitB "int" "bool" = some false := by decide +kernel
theorem kb_list : kitB "list" "list" = some true := by decide +kernel
theorem kb_tuple : kitB "tuple" "tuple" = some true := by decide +kernel
theorem kb_str : kitB "str" "str" = some true := by decide +kernel
end Y

namespace Y
open PySem PySem.Spec L2
local macro_rules | `(tactic| walk_at "y1") => `(tactic| first
  | (fail_if_success (with_reducible show SX _ (tSeq (tIfS _ _ _) _) _ _ _)); (with_reducible refine sx_seq ?_)
  | with_reducible refine sx_asg ?_
  | with_reducible refine sx_if ?_
  | with_reducible refine sx_ret ?_
  | with_reducible refine sx_retN ?_
  | with_reducible refine sx_next ?_
  | with_reducible refine sx_app ?_
  | with_reducible refine sx_clear ?_
  | with_reducible refine sx_setL ?_
  | with_reducible refine sx_dput ?_
  | with_reducible refine sx_drop ?_
  | with_reducible refine eg_var (by with_unfolding_all rfl) ?_
  | with_reducible refine eg_int ?_
  | with_reducible refine eg_bl ?_
  | with_reducible refine eg_str ?_
  | with_reducible refine eg_non ?_
  | with_reducible refine eg_raw ?_
  | with_reducible refine eg_op ?_
  | with_reducible refine eg_cb ?_
  | with_reducible refine eg_tup ?_
  | with_reducible refine eg_isN ?_
  | with_reducible refine eg_notN ?_
  | with_reducible refine eg_and ?_
  | with_reducible refine eg_or ?_
  | with_reducible refine eg_not ?_
  | with_reducible refine eg_dnew ?_
  | with_reducible refine eg_dget ?_
  | with_reducible refine eg_dnotin ?_
  | with_reducible refine eg_un ?_
  | with_reducible refine eg_partsNot ?_
  | with_reducible refine eg_partsIx ?_
  | with_reducible refine et_test ?_
  | with_reducible refine et_B ?_
  | with_reducible refine et_not ?_
  | with_reducible refine et_and ?_
  | with_reducible refine et_or ?_
  | with_reducible refine et_yes ?_
  | with_reducible refine ea_nil ?_
  | with_reducible refine ea_cons ?_
  | with_reducible refine el_lst ?_
  | with_reducible refine el_slL ?_
  | with_reducible refine el_op ?_
  | with_reducible refine el_cb ?_
  | with_reducible refine el_lstRev ?_
  | with_reducible refine el_rng ?_
  | with_reducible refine eo_none ?_
  | with_reducible refine eo_some ?_
  | with_reducible refine sr_list ?_
  | with_reducible refine sr_rng ?_
  | with_reducible refine sr_enum ?_
  | with_reducible refine eb_add ?_
  | with_reducible refine eb_sub ?_
  | with_reducible refine eb_fdivL (by decide) (by decide) ?_
  | with_reducible refine eb_mulL (by decide) (by decide) ?_
  | with_reducible refine eb_mulR (by decide) (by decide) ?_
  | with_reducible refine eb_powL (by decide) (by decide) (by decide) ?_
  | with_reducible refine eb_mod (by decide) ?_
  | with_reducible refine eb_lt ?_
  | with_reducible refine eb_le ?_
  | with_reducible refine eb_gt ?_
  | with_reducible refine eb_ge ?_
  | with_reducible refine eb_eqI ?_
  | with_reducible refine eb_neI ?_
  | with_reducible refine eb_eqB ?_)
local macro_rules | `(tactic| walk_at "y1") => `(tactic| first
  | with_reducible refine call_cell ?_
  | with_reducible refine Exists.intro _ (Exists.intro _ (Exists.intro _ (And.intro (Eq.refl [A.raw (V.ref _), A.dat (PyData.int _)]) (And.intro (by assumption) (And.intro (by first | decide | omega) ?_))))))
local macro_rules | `(tactic| walk_at "y") => `(tactic| (repeat' (walk_at "y1")))
local macro_rules | `(tactic| walk_at "yi") => `(tactic| ((repeat' (walk_at "y1")); (with_reducible refine sx_seq ?_); (repeat' (walk_at "y1"))))


/-! ### the script's cell -/
def R_l_cell_at (ns : List Int) (ds : List PyData) (r : Res Er) : Prop := ∃ k : Int, ds = [.int k] ∧ 0 ≤ k ∧ r = .ok (.int (cellAt ns k))
abbrev sp_l_cell_at (K : PySem.W.Frag) (C : Er → Addr) : Sp := PrS K C R_l_cell_at
theorem len_l_cell_at {ns : List Int} {ds : List PyData} {r : Res Er} (h : R_l_cell_at ns ds r) : ds.length + 1 = 2 := by
  obtain ⟨k, rfl, _⟩ := h; rfl
theorem wk_l_cell_at (K : PySem.W.Frag) (C : Er → Addr) (H : Hp) (a : Addr) (ns : List Int) (ds : List PyData) (r : Res Er) (hS : SqL K H a (ns.map V.int)) (h : R_l_cell_at ns ds r) : SX H (t_l_cell_at K) (some (.raw (.ref a)) :: entry ds 0) [] (HandR r) := by
  obtain ⟨k, rfl, hk, rfl⟩ := h
  show SX H (t_l_cell_at K) [some (.raw (.ref a)), some (.dat (.int k))] [] _
  unfold t_l_cell_at
  walk_at "yi"
  refine ec_len (.scr hS) ?_
  walk_at "y"
  refine ⟨_, rfl, fun h => ?_, fun h => ?_⟩
  · have hlt := of_decide_eq_true h
    rw [List.length_map] at hlt
    walk_at "y"
    refine eb_ixUL (.scr hS) (c := .dat (.int (cellAt ns k))) (at_nat hk ?_) ?_
    · rw [List.getElem?_map, List.getElem?_eq_getElem (by omega)]
      unfold cellAt
      rw [List.getD_eq_getElem?_getD, List.getElem?_eq_getElem (by omega)]
      rfl
    · exact .dat _
  · have hlt := of_decide_eq_false h
    rw [List.length_map] at hlt
    walk_at "y"
    have e : cellAt ns k = 0 := by
      unfold cellAt
      rw [List.getD_eq_getElem?_getD, List.getElem?_eq_none (by omega)]
      rfl
    rw [e]
    exact .dat _
/-- the call -/
theorem call_cell {K : PySem.W.Frag} {C : Er → Addr} {H0 : Hp} {δ : Sl} {ω : Om} {E : XK} {ts : TA} {P : A → Om → Prop} (h : EA H0 ts δ ω fun bs ω1 => ∃ a ns k, bs = [.raw (.ref a), .dat (.int k)] ∧ SqL K H0 a (ns.map V.int) ∧ 0 ≤ k ∧ P (.dat (.int (cellAt ns k))) ω1) : EG H0 (tCall (sp_l_cell_at K C) [] E ts) δ ω P :=
  eg_callS fun σ H vs as S Q q => h σ H vs as S Q fun bs ω' us H' ⟨a, ns, k, e, hS, hk, hp⟩ hl S' => q bs ω' us H' ⟨a, [.dat (.int k)], ns, [.int k], _, e, hS, .cons (.dat _) .nil, ⟨k, rfl, hk, rfl⟩, hp⟩ hl S'

theorem dI_rng (n : Nat) (g : Nat → Int) : (List.range n).map (fun i => PyData.int (g i)) = ((List.range n).map g).map .int := by
  rw [List.map_map]; rfl
end Y

/-! Mr: rows, letters, good histories: plain Lean. -/
namespace Y
open PySem PySem.Spec L2

inductive Row where
  | emp
  | mk (w : Str) (ns : List Int)
  deriving DecidableEq
abbrev Row.send (h t : Int) : Row := .mk wSend [h, t]
abbrev Row.got (h l : Int) : Row := .mk wGot [h, l]
abbrev Row.note (h : Int) : Row := .mk wNote [h]
def dRow : Row → PyData
  | .emp => .tuple []
  | .mk w ns => .tuple (.str w :: ns.map .int)
abbrev dRows (rows : List Row) : PyData := .list (rows.map dRow)
structure Let where
  s : Int
  t : Int
  p : Nat
  g : Option Nat
  deriving DecidableEq
def dOpt : Option Nat → PyData
  | none => .none
  | some g => .int (g : Nat)
def dLet (l : Let) : PyData := .tuple [.int l.s, .int l.t, .int (l.p : Nat), dOpt l.g]
abbrev dLets (f : List Let) : PyData := .list (f.map dLet)

theorem noL_row : ∀ r : Row, noL (dRow r) = true
  | .emp => rfl
  | .mk w ns => by simp [dRow, noL, noLA, noLA_ints]
theorem noL_opt : ∀ o : Option Nat, noL (dOpt o) = true
  | none => rfl
  | some _ => rfl
theorem noL_let (l : Let) : noL (dLet l) = true := by simp [dLet, noL, noLA, noL_opt]
theorem noLA_of {α : Type} {f : α → PyData} (h : ∀ x, noL (f x) = true) : ∀ xs : List α, noLA (xs.map f) = true
  | [] => rfl
  | x :: xs => by simp [noLA, h x, noLA_of h xs]
theorem noLA_rows (rows : List Row) : noLA (rows.map dRow) = true := noLA_of noL_row rows
theorem noLA_lets (f : List Let) : noLA (f.map dLet) = true := noLA_of noL_let f

/-! ### what is refused -/
def needRow : Row → Option Er
  | .emp => some .NoRow
  | .mk w ns => if isWord w = true then (if (ns.length : Int) + 1 = partsOf w then none else some .NoRow) else some .NoRow
def needHand (hands h : Int) : Option Er := if h < 0 ∨ hands ≤ h then some .NoHand else none
def needLetter (f : List Let) (hand l : Int) : Option Er :=
  if l < 0 ∨ (f.length : Int) ≤ l then some .NoLetter else
  match f[l.toNat]? with
  | none => some .NoLetter
  | some x => if x.t = hand then (match x.g with
    | none => none
    | some _ => some .GotTwice) else some .NoLetter
/-- one row -/
def stepL (hands : Int) (place : Nat) (f : List Let) (r : Row) : Except Er (List Let) :=
  match needRow r with
  | some e => .error e
  | none => match r with
    | .emp => .error .NoRow
    | .mk w ns =>
      let h := ns.getD 0 0
      let x := ns.getD 1 0
      match needHand hands h with
      | some e => .error e
      | none =>
        if w = wSend then (match needHand hands x with
          | some e => .error e
          | none => .ok (f ++ [⟨h, x, place, none⟩]))
        else if w = wGot then (match needLetter f h x with
          | some e => .error e
          | none => .ok (f.modify x.toNat fun l => { l with g := some place }))
        else .ok f
def goL (hands : Int) : Nat → List Let → List Row → Except Er (List Let)
  | _, f, [] => .ok f
  | k, f, r :: rows => match stepL hands k f r with
    | .error e => .error e
    | .ok f' => goL hands (k + 1) f' rows
def lettersM (hands : Int) (rows : List Row) : Except Er (List Let) :=
  if hands < 1 ∨ 40 < hands then .error .NoHands else if 1000 < rows.length then .error .TooMany else goL hands 0 [] rows
theorem goL_append (hands : Int) : ∀ (a b : List Row) (k : Nat) (f : List Let), goL hands k f (a ++ b) = match goL hands k f a with
    | .error e => .error e
    | .ok f' => goL hands (k + a.length) f' b
  | [], b, k, f => rfl
  | r :: a, b, k, f => by
    simp only [List.cons_append, goL]
    cases stepL hands k f r with
    | error e => rfl
    | ok f' =>
      simp only
      rw [goL_append hands a b (k + 1) f', List.length_cons, show k + 1 + a.length = k + (a.length + 1) by omega]
theorem goL_snoc (hands : Int) (a : List Row) (r : Row) (f f' : List Let) (k : Nat) (h : goL hands k f a = .ok f') : goL hands k f (a ++ [r]) = stepL hands (k + a.length) f' r := by
  rw [goL_append, h]
  simp only [goL]
  cases stepL hands (k + a.length) f' r <;> rfl
theorem goL_bad (hands : Int) (a b : List Row) (r : Row) (f f' : List Let) (k : Nat) (e : Er) (h : goL hands k f a = .ok f') (hr : stepL hands (k + a.length) f' r = .error e) : goL hands k f (a ++ r :: b) = .error e := by
  rw [goL_append, h]
  simp only [goL, hr]
theorem stepL_len {hands : Int} {k : Nat} {f f' : List Let} {r : Row} (h : stepL hands k f r = .ok f') : f'.length ≤ f.length + 1 := by
  unfold stepL at h
  split at h
  · cases h
  · split at h
    · cases h
    · simp only at h
      split at h
      · cases h
      · split at h
        · split at h
          · cases h
          · cases h; simp
        · split at h
          · split at h
            · cases h
            · cases h; simp
          · cases h; omega
theorem goL_len {hands : Int} : ∀ {rows : List Row} {k : Nat} {f f' : List Let}, goL hands k f rows = .ok f' → f'.length ≤ f.length + rows.length
  | [], k, f, f', h => by cases h; simp
  | r :: rows, k, f, f', h => by
    simp only [goL] at h
    split at h
    · cases h
    · rename_i f1 h1
      have := stepL_len h1
      have := goL_len h
      simp only [List.length_cons]
      omega
def toRes {α : Type} (enc : α → PyData) : Except Er α → Res Er
  | .ok x => .ok (enc x)
  | .error e => .er e
def optRes : Option Er → Res Er
  | none => .ok .none
  | some e => .er e
end Y

namespace Y
open PySem PySem.Spec L2
local macro_rules | `(tactic| walk_at "y1") => `(tactic| first
  | (fail_if_success (with_reducible show SX _ (tSeq (tIfS _ _ _) _) _ _ _)); (with_reducible refine sx_seq ?_)
  | with_reducible refine sx_asg ?_
  | with_reducible refine sx_if ?_
  | with_reducible refine sx_ret ?_
  | with_reducible refine sx_retN ?_
  | with_reducible refine sx_next ?_
  | with_reducible refine sx_app ?_
  | with_reducible refine sx_clear ?_
  | with_reducible refine sx_setL ?_
  | with_reducible refine sx_dput ?_
  | with_reducible refine sx_drop ?_
  | with_reducible refine eg_var (by with_unfolding_all rfl) ?_
  | with_reducible refine eg_int ?_
  | with_reducible refine eg_bl ?_
  | with_reducible refine eg_str ?_
  | with_reducible refine eg_non ?_
  | with_reducible refine eg_raw ?_
  | with_reducible refine eg_op ?_
  | with_reducible refine eg_cb ?_
  | with_reducible refine eg_tup ?_
  | with_reducible refine eg_isN ?_
  | with_reducible refine eg_notN ?_
  | with_reducible refine eg_and ?_
  | with_reducible refine eg_or ?_
  | with_reducible refine eg_not ?_
  | with_reducible refine eg_dnew ?_
  | with_reducible refine eg_dget ?_
  | with_reducible refine eg_dnotin ?_
  | with_reducible refine eg_un ?_
  | with_reducible refine eg_partsNot ?_
  | with_reducible refine eg_partsIx ?_
  | with_reducible refine et_test ?_
  | with_reducible refine et_B ?_
  | with_reducible refine et_not ?_
  | with_reducible refine et_and ?_
  | with_reducible refine et_or ?_
  | with_reducible refine et_yes ?_
  | with_reducible refine ea_nil ?_
  | with_reducible refine ea_cons ?_
  | with_reducible refine el_lst ?_
  | with_reducible refine el_slL ?_
  | with_reducible refine el_op ?_
  | with_reducible refine el_cb ?_
  | with_reducible refine el_lstRev ?_
  | with_reducible refine el_rng ?_
  | with_reducible refine eo_none ?_
  | with_reducible refine eo_some ?_
  | with_reducible refine sr_list ?_
  | with_reducible refine sr_rng ?_
  | with_reducible refine sr_enum ?_
  | with_reducible refine eb_add ?_
  | with_reducible refine eb_sub ?_
  | with_reducible refine eb_fdivL (by decide) (by decide) ?_
  | with_reducible refine eb_mulL (by decide) (by decide) ?_
  | with_reducible refine eb_mulR (by decide) (by decide) ?_
  | with_reducible refine eb_powL (by decide) (by decide) (by decide) ?_
  | with_reducible refine eb_mod (by decide) ?_
  | with_reducible refine eb_lt ?_
  | with_reducible refine eb_le ?_
  | with_reducible refine eb_gt ?_
  | with_reducible refine eb_ge ?_
  | with_reducible refine eb_eqI ?_
  | with_reducible refine eb_neI ?_
  | with_reducible refine eb_eqB ?_)
local macro_rules | `(tactic| walk_at "y1") => `(tactic| first
  | with_reducible refine call_cell ?_
  | with_reducible refine Exists.intro _ (Exists.intro _ (Exists.intro _ (And.intro (Eq.refl [A.raw (V.ref _), A.dat (PyData.int _)]) (And.intro (by assumption) (And.intro (by first | decide | omega) ?_))))))
local macro_rules | `(tactic| walk_at "y") => `(tactic| (repeat' (walk_at "y1")))
local macro_rules | `(tactic| walk_at "yi") => `(tactic| ((repeat' (walk_at "y1")); (with_reducible refine sx_seq ?_); (repeat' (walk_at "y1"))))


theorem isWord_cases {w : Str} (h : isWord w = true) : w = wSend ∨ w = wGot ∨ w = wNote := by
  unfold isWord at h
  simp only [Bool.or_eq_true, decide_eq_true_eq] at h
  rcases h with (h | h) | h
  · exact .inl h
  · exact .inr (.inl h)
  · exact .inr (.inr h)
theorem sh_send : SeqAt.shaped (.str wSend) = true := by decide +kernel
theorem sh_got : SeqAt.shaped (.str wGot) = true := by decide +kernel
theorem sh_note : SeqAt.shaped (.str wNote) = true := by decide +kernel
theorem sh_word {w : Str} (h : isWord w = true) : SeqAt.shaped (.str w) = true := by
  rcases isWord_cases h with rfl | rfl | rfl
  · exact sh_send
  · exact sh_got
  · exact sh_note
theorem ne_sg : ¬ wSend = wGot := by decide +kernel
theorem ne_gs : ¬ wGot = wSend := by decide +kernel
theorem ne_ns : ¬ wNote = wSend := by decide +kernel
theorem ne_ng : ¬ wNote = wGot := by decide +kernel
theorem ne_sn : ¬ wSend = wNote := by decide +kernel
theorem ne_gn : ¬ wGot = wNote := by decide +kernel
theorem at_cons {α : Type} {x : α} {xs : List α} : atI (x :: xs) 0 = some x := at_nat (by decide) rfl
theorem at_ns {w : PyData} {ns : List Int} {j : Nat} {x : Int} (h : ns[j]? = some x) : atI (w :: ns.map .int) ((j + 1 : Nat) : Int) = some (.int x) := atI_nat (by rw [List.getElem?_cons_succ, List.getElem?_map, h]; rfl)

/-! ### need_row -/
def R_need_row (ds : List PyData) (r : Res Er) : Prop := ∃ x : Row, ds = [dRow x] ∧ r = optRes (needRow x)
abbrev sp_need_row (K : PySem.W.Frag) (C : Er → Addr) : Sp := Pr C R_need_row
theorem len_need_row {ds : List PyData} {r : Res Er} (h : R_need_row ds r) : ds.length = 1 := by
  obtain ⟨x, rfl, _⟩ := h; rfl
theorem wk_need_row (K : PySem.W.Frag) (C : Er → Addr) (H : Hp) (E : XK) (ds : List PyData) (r : Res Er) (h : R_need_row ds r) (hE : ∀ e, r = .er e → ∀ H', Same H H' → E (.ref (C e)) none H') : SX H (t_need_row K E (C .NoRow)) (entry ds 0) [] (HandR r) := by
  obtain ⟨x, rfl, rfl⟩ := h
  have e0 : entry [dRow x] 0 = [some (.dat (dRow x))] := by unfold entry; rw [List.map_singleton, ent_dat (noL_row x)]; rfl
  rw [e0]
  unfold t_need_row
  cases x with
  | emp =>
    refine sx_seq ?_
    walk_at "y"
    refine ec_lenT (.dat []) ?_
    walk_at "y"
    refine ⟨true, rfl, iteT ⟨fun _ => ?_, fun z => by cases z⟩⟩
    exact sx_exit (hE _ rfl)
  | mk w ns =>
    refine sx_seq ?_
    walk_at "y"
    refine ec_lenT (.dat _) ?_
    walk_at "y"
    refine ⟨false, by simp; omega, iteF ?_⟩
    walk_at "y"
    refine eb_ixUT (.dat _) (d := .str w) at_cons ?_
    refine ⟨w, rfl, _, rfl, fun hw => ?_, fun hw => ?_⟩
    · have hw : isWord w = false := by simpa using hw
      exact sx_exit (hE _ (by simp [optRes, needRow, hw]))
    · have hw : isWord w = true := by simpa using hw
      walk_at "y"
      refine ec_lenT (.dat _) ?_
      walk_at "y"
      refine eb_ixUT (.dat _) (d := .str w) at_cons ?_
      refine ⟨w, rfl, hw, ?_⟩
      walk_at "y"
      have el : ((PyData.str w :: ns.map .int).length : Int) = ns.length + 1 := by simp
      refine ⟨_, rfl, fun h => ?_, fun h => ?_⟩
      · have h : ¬ ((PyData.str w :: ns.map .int).length : Int) = partsOf w := by simpa using h
        rw [el] at h
        exact sx_exit (hE _ (by simp [optRes, needRow, hw, h]))
      · have h : ((PyData.str w :: ns.map .int).length : Int) = partsOf w := by simpa using h
        rw [el] at h
        walk_at "y"
        have e : optRes (needRow (.mk w ns)) = Res.ok .none := by simp [optRes, needRow, hw, h]
        rw [e]
        rfl

/-! ### need_hand -/
def R_need_hand (ds : List PyData) (r : Res Er) : Prop := ∃ n h : Int, ds = [.int n, .int h] ∧ r = optRes (needHand n h)
abbrev sp_need_hand (K : PySem.W.Frag) (C : Er → Addr) : Sp := Pr C R_need_hand
theorem len_need_hand {ds : List PyData} {r : Res Er} (h : R_need_hand ds r) : ds.length = 2 := by
  obtain ⟨x, y, rfl, _⟩ := h; rfl
theorem wk_need_hand (K : PySem.W.Frag) (C : Er → Addr) (H : Hp) (E : XK) (ds : List PyData) (r : Res Er) (h : R_need_hand ds r) (hE : ∀ e, r = .er e → ∀ H', Same H H' → E (.ref (C e)) none H') : SX H (t_need_hand K E (C .NoHand)) (entry ds 0) [] (HandR r) := by
  obtain ⟨n, h, rfl, rfl⟩ := h
  show SX H (t_need_hand K E (C .NoHand)) [some (.dat (.int n)), some (.dat (.int h))] [] _
  unfold t_need_hand
  walk_at "y"
  refine ⟨_, rfl, ?_⟩
  split
  · rename_i h1
    have h1 := of_decide_eq_true h1
    refine ⟨fun _ => ?_, fun z => by cases z⟩
    exact sx_exit (hE _ (by simp [optRes, needHand, h1]))
  · rename_i h1
    have h1 : ¬ h < 0 := by simpa using h1
    walk_at "y"
    refine ⟨_, rfl, fun h2 => ?_, fun h2 => ?_⟩
    · have h2 := of_decide_eq_true h2
      exact sx_exit (hE _ (by simp [optRes, needHand, h2]))
    · have h2 := of_decide_eq_false h2
      walk_at "y"
      have e : optRes (needHand n h) = Res.ok .none := by simp [optRes, needHand, h1, h2]
      rw [e]
      rfl

/-! ### need_letter -/
def R_need_letter (ds : List PyData) (r : Res Er) : Prop := ∃ (f : List Let) (h l : Int), ds = [dLets f, .int h, .int l] ∧ r = optRes (needLetter f h l)
abbrev sp_need_letter (K : PySem.W.Frag) (C : Er → Addr) : Sp := Pr C R_need_letter
theorem len_need_letter {ds : List PyData} {r : Res Er} (h : R_need_letter ds r) : ds.length = 3 := by
  obtain ⟨f, x, y, rfl, _⟩ := h; rfl
theorem itm_aLets {K : PySem.W.Frag} {H0 : Hp} {ω : Om} (f : List Let) : Itm K H0 ω (.arg (dLets f)) (f.map fun l => .dat (dLet l)) := by
  have := Itm.argT (K := K) (H0 := H0) (ω := ω) (f.map dLet) (noLA_lets f)
  rw [List.map_map] at this
  exact this
theorem itm_dLets {K : PySem.W.Frag} {H0 : Hp} {ω : Om} (f : List Let) : Itm K H0 ω (.dat (dLets f)) (f.map fun l => .dat (dLet l)) := by
  have := Itm.dat (K := K) (H0 := H0) (ω := ω) (f.map dLet)
  rw [List.map_map] at this
  exact this
theorem at_let {f : List Let} {l : Int} {x : Let} (h0 : 0 ≤ l) (h : f[l.toNat]? = some x) : atI (f.map fun l => A.dat (dLet l)) l = some (.dat (dLet x)) := at_nat h0 (by rw [List.getElem?_map, h]; rfl)
theorem isNo_opt (o : Option Nat) : isNo (dOpt o) = o.isNone := by cases o <;> rfl
theorem wk_need_letter (K : PySem.W.Frag) (C : Er → Addr) (H : Hp) (E : XK) (ds : List PyData) (r : Res Er) (h : R_need_letter ds r) (hE : ∀ e, r = .er e → ∀ H', Same H H' → E (.ref (C e)) none H') : SX H (t_need_letter K E (C .NoLetter) (C .GotTwice)) (entry ds 0) [] (HandR r) := by
  obtain ⟨f, h, l, rfl, rfl⟩ := h
  show SX H (t_need_letter K E (C .NoLetter) (C .GotTwice)) [some (.arg (dLets f)), some (.dat (.int h)), some (.dat (.int l))] [] _
  unfold t_need_letter
  refine sx_seq ?_
  walk_at "y"
  refine ⟨_, rfl, ?_⟩
  split
  · rename_i h1
    have h1 := of_decide_eq_true h1
    refine ⟨fun _ => ?_, fun z => by cases z⟩
    exact sx_exit (hE _ (by simp [optRes, needLetter, h1]))
  · rename_i h1
    have h1 : ¬ l < 0 := by simpa using h1
    walk_at "y"
    refine ec_len (itm_aLets f) ?_
    walk_at "y"
    refine ⟨_, rfl, fun h2 => ?_, fun h2 => ?_⟩
    · have h2 := of_decide_eq_true h2
      rw [List.length_map] at h2
      exact sx_exit (hE _ (by simp [optRes, needLetter, h2]))
    · have h2 := of_decide_eq_false h2
      rw [List.length_map] at h2
      obtain ⟨x, hx⟩ : ∃ x, f[l.toNat]? = some x := ⟨_, List.getElem?_eq_getElem (by omega)⟩
      walk_at "yi"
      refine eb_ixUL (itm_aLets f) (at_let (by omega) hx) ?_
      walk_at "y"
      refine eb_ixUT (.dat _) (d := .int x.t) rfl ?_
      walk_at "y"
      refine ⟨_, rfl, fun h3 => ?_, fun h3 => ?_⟩
      · have h3 : ¬ x.t = h := by simpa using h3
        exact sx_exit (hE _ (by simp [optRes, needLetter, h1, h2, hx, h3]))
      · have h3 : x.t = h := by simpa using h3
        walk_at "y"
        refine eb_ixUL (itm_aLets f) (at_let (by omega) hx) ?_
        walk_at "y"
        refine eb_ixUT (.dat _) (d := dOpt x.g) rfl ?_
        refine ⟨_, rfl, _, rfl, fun h4 => ?_, fun h4 => ?_⟩
        · rw [isNo_opt] at h4
          cases hg : x.g with
          | none => rw [hg] at h4; cases h4
          | some q => exact sx_exit (hE _ (by simp [optRes, needLetter, h1, h2, hx, h3, hg]))
        · rw [isNo_opt] at h4
          cases hg : x.g with
          | none =>
            walk_at "y"
            have e : optRes (needLetter f h l) = Res.ok .none := by simp [optRes, needLetter, h1, h2, hx, h3, hg]
            rw [e]
            rfl
          | some q => rw [hg] at h4; cases h4
end Y

namespace Y
open PySem PySem.Spec L2
local macro_rules | `(tactic| walk_at "y1") => `(tactic| first
  | (fail_if_success (with_reducible show SX _ (tSeq (tIfS _ _ _) _) _ _ _)); (with_reducible refine sx_seq ?_)
  | with_reducible refine sx_asg ?_
  | with_reducible refine sx_if ?_
  | with_reducible refine sx_ret ?_
  | with_reducible refine sx_retN ?_
  | with_reducible refine sx_next ?_
  | with_reducible refine sx_app ?_
  | with_reducible refine sx_clear ?_
  | with_reducible refine sx_setL ?_
  | with_reducible refine sx_dput ?_
  | with_reducible refine sx_drop ?_
  | with_reducible refine eg_var (by with_unfolding_all rfl) ?_
  | with_reducible refine eg_int ?_
  | with_reducible refine eg_bl ?_
  | with_reducible refine eg_str ?_
  | with_reducible refine eg_non ?_
  | with_reducible refine eg_raw ?_
  | with_reducible refine eg_op ?_
  | with_reducible refine eg_cb ?_
  | with_reducible refine eg_tup ?_
  | with_reducible refine eg_isN ?_
  | with_reducible refine eg_notN ?_
  | with_reducible refine eg_and ?_
  | with_reducible refine eg_or ?_
  | with_reducible refine eg_not ?_
  | with_reducible refine eg_dnew ?_
  | with_reducible refine eg_dget ?_
  | with_reducible refine eg_dnotin ?_
  | with_reducible refine eg_un ?_
  | with_reducible refine eg_partsNot ?_
  | with_reducible refine eg_partsIx ?_
  | with_reducible refine et_test ?_
  | with_reducible refine et_B ?_
  | with_reducible refine et_not ?_
  | with_reducible refine et_and ?_
  | with_reducible refine et_or ?_
  | with_reducible refine et_yes ?_
  | with_reducible refine ea_nil ?_
  | with_reducible refine ea_cons ?_
  | with_reducible refine el_lst ?_
  | with_reducible refine el_slL ?_
  | with_reducible refine el_op ?_
  | with_reducible refine el_cb ?_
  | with_reducible refine el_lstRev ?_
  | with_reducible refine el_rng ?_
  | with_reducible refine eo_none ?_
  | with_reducible refine eo_some ?_
  | with_reducible refine sr_list ?_
  | with_reducible refine sr_rng ?_
  | with_reducible refine sr_enum ?_
  | with_reducible refine eb_add ?_
  | with_reducible refine eb_sub ?_
  | with_reducible refine eb_fdivL (by decide) (by decide) ?_
  | with_reducible refine eb_mulL (by decide) (by decide) ?_
  | with_reducible refine eb_mulR (by decide) (by decide) ?_
  | with_reducible refine eb_powL (by decide) (by decide) (by decide) ?_
  | with_reducible refine eb_mod (by decide) ?_
  | with_reducible refine eb_lt ?_
  | with_reducible refine eb_le ?_
  | with_reducible refine eb_gt ?_
  | with_reducible refine eb_ge ?_
  | with_reducible refine eb_eqI ?_
  | with_reducible refine eb_neI ?_
  | with_reducible refine eb_eqB ?_)
local macro_rules | `(tactic| walk_at "y1") => `(tactic| first
  | with_reducible refine call_cell ?_
  | with_reducible refine Exists.intro _ (Exists.intro _ (Exists.intro _ (And.intro (Eq.refl [A.raw (V.ref _), A.dat (PyData.int _)]) (And.intro (by assumption) (And.intro (by first | decide | omega) ?_))))))
local macro_rules | `(tactic| walk_at "y") => `(tactic| (repeat' (walk_at "y1")))
local macro_rules | `(tactic| walk_at "yi") => `(tactic| ((repeat' (walk_at "y1")); (with_reducible refine sx_seq ?_); (repeat' (walk_at "y1"))))


section
variable {K : PySem.W.Frag} {C : Er → Addr} {H0 : Hp} {δ : Sl} {ω : Om} {E : XK} {ts : TA} {P : A → Om → Prop}
theorem call_need_row (h : EA H0 ts δ ω fun bs ω1 => ∃ x, RdA ω1 bs [dRow x] ∧ (∀ e, needRow x = some e → ∀ H', Same H0 H' → E (.ref (C e)) none H') ∧ (needRow x = none → P (.dat .none) ω1)) : EG H0 (tCall (sp_need_row K C) [] E ts) δ ω P :=
  eg_call fun σ H vs as S Q q => h σ H vs as S Q fun bs ω' us H' ⟨x, hr, h1, h2⟩ hl S' => q bs ω' us H' ⟨_, _, hr, ⟨x, rfl, rfl⟩, by
    cases e : needRow x with
    | none => exact h2 e
    | some e' => exact h1 e' e⟩ hl S'
theorem call_need_hand (h : EA H0 ts δ ω fun bs ω1 => ∃ n x, RdA ω1 bs [.int n, .int x] ∧ (∀ e, needHand n x = some e → ∀ H', Same H0 H' → E (.ref (C e)) none H') ∧ (needHand n x = none → P (.dat .none) ω1)) : EG H0 (tCall (sp_need_hand K C) [] E ts) δ ω P :=
  eg_call fun σ H vs as S Q q => h σ H vs as S Q fun bs ω' us H' ⟨n, x, hr, h1, h2⟩ hl S' => q bs ω' us H' ⟨_, _, hr, ⟨n, x, rfl, rfl⟩, by
    cases e : needHand n x with
    | none => exact h2 e
    | some e' => exact h1 e' e⟩ hl S'
theorem call_need_letter (h : EA H0 ts δ ω fun bs ω1 => ∃ f x l, RdA ω1 bs [dLets f, .int x, .int l] ∧ (∀ e, needLetter f x l = some e → ∀ H', Same H0 H' → E (.ref (C e)) none H') ∧ (needLetter f x l = none → P (.dat .none) ω1)) : EG H0 (tCall (sp_need_letter K C) [] E ts) δ ω P :=
  eg_call fun σ H vs as S Q q => h σ H vs as S Q fun bs ω' us H' ⟨f, x, l, hr, h1, h2⟩ hl S' => q bs ω' us H' ⟨_, _, hr, ⟨f, x, l, rfl, rfl⟩, by
    cases e : needLetter f x l with
    | none => exact h2 e
    | some e' => exact h1 e' e⟩ hl S'
end
abbrev lLets (f : List Let) : Ob := .lst (f.map fun l => .dat (dLet l))
theorem rd_lets {ω : Om} {k : Nat} {f : List Let} (h : ω[k]? = some (lLets f)) : Rd ω (.ptr k) (dLets f) := by
  refine .ptr h ?_
  have := RdA.dats (ω := ω) (f.map dLet)
  rw [List.map_map] at this
  exact this
theorem fin_lets {ω : Om} {k : Nat} {f : List Let} (h : ω[k]? = some (lLets f)) : Fin ω (.ptr k) (dLets f) := by
  refine .ptr h ?_
  have := FinA.dats (ω := ω) (f.map dLet)
  rw [List.map_map] at this
  exact this
theorem row_word {x : Row} (h : needRow x = none) : ∃ w ns, x = .mk w ns ∧ isWord w = true ∧ (ns.length : Int) + 1 = partsOf w := by
  cases x with
  | emp => cases h
  | mk w ns =>
    by_cases hw : isWord w = true
    · by_cases hl : (ns.length : Int) + 1 = partsOf w
      · exact ⟨w, ns, rfl, hw, hl⟩
      · simp [needRow, hw, hl] at h
    · simp [needRow, hw] at h
theorem parts_ge (w : Str) : 2 ≤ partsOf w := by unfold partsOf; split <;> decide

theorem modify_set {α : Type} {f : List α} {i : Nat} {x : α} {g : α → α} (h : f[i]? = some x) : f.modify i g = f.set i (g x) := by
  apply List.ext_getElem?
  intro j
  rw [List.getElem?_modify, List.getElem?_set]
  by_cases hj : i = j
  · subst hj
    have hl := (List.getElem?_eq_some_iff.mp h).1
    rw [h]
    simp [hl]
  · rw [if_neg hj]
    cases f[j]? with
    | none => rfl
    | some y => simp [hj]
/-! ### letters -/
def R_letters (ds : List PyData) (r : Res Er) : Prop := ∃ (hands : Int) (rows : List Row), ds = [.int hands, dRows rows] ∧ r = toRes dLets (lettersM hands rows)
abbrev sp_letters (K : PySem.W.Frag) (C : Er → Addr) : Sp := Pr C R_letters
theorem len_letters {ds : List PyData} {r : Res Er} (h : R_letters ds r) : ds.length = 2 := by
  obtain ⟨f, x, rfl, _⟩ := h; rfl
theorem wk_letters (K : PySem.W.Frag) (C : Er → Addr) (H : Hp) (E : XK) (ds : List PyData) (r : Res Er) (h : R_letters ds r) (hE : ∀ e, r = .er e → ∀ H', Same H H' → E (.ref (C e)) none H') :
    SX H (t_letters K E (sp_need_row K C) (sp_need_hand K C) (sp_need_letter K C) (C .NoHands) (C .TooMany)) (entry ds 3) [] (HandR r) := by
  obtain ⟨hands, rows, rfl, rfl⟩ := h
  show SX H (t_letters K E (sp_need_row K C) (sp_need_hand K C) (sp_need_letter K C) (C .NoHands) (C .TooMany)) [some (.dat (.int hands)), some (.arg (dRows rows)), none, none, none] [] _
  unfold t_letters
  refine sx_seq ?_
  walk_at "y"
  refine ⟨_, rfl, ?_⟩
  split
  · rename_i h1
    have h1 := of_decide_eq_true h1
    exact ⟨fun _ => sx_exit (hE _ (by simp [toRes, lettersM, h1])), fun z => by cases z⟩
  rename_i h1
  have h1 : ¬ hands < 1 := by simpa using h1
  walk_at "y"
  refine ⟨_, rfl, fun h2 => ?_, fun h2 => ?_⟩
  · have h2 := of_decide_eq_true h2
    exact sx_exit (hE _ (by simp [toRes, lettersM, h2]))
  have h2 := of_decide_eq_false h2
  walk_at "yi"
  refine ec_len (.argT _ (noLA_rows rows)) ?_
  walk_at "y"
  refine ⟨_, rfl, fun h3 => ?_, fun h3 => ?_⟩
  · have h3 := of_decide_eq_true h3
    rw [List.length_map, List.length_map] at h3
    exact sx_exit (hE _ (by
      have h3' : 1000 < rows.length := by omega
      simp [toRes, lettersM, h1, h2, h3']))
  have h3 := of_decide_eq_false h3
  rw [List.length_map, List.length_map] at h3
  have hM : lettersM hands rows = goL hands 0 [] rows := by
    have h3' : ¬ 1000 < rows.length := by omega
    simp [lettersM, h1, h2, h3']
  rw [hM] at hE ⊢
  walk_at "y"
  refine el_own (el_lst ?_)
  walk_at "y"
  refine ⟨by decide, ?_⟩
  walk_at "y"
  refine sx_forP (xs := rows) (it := fun i x => .dat (.tuple [.int (i : Nat), dRow x])) (fun pre δ ω => ∃ a b f, δ = [some (.dat (.int hands)), some (.arg (dRows rows)), some (.ptr 0), a, b] ∧ ω = [lLets f] ∧ goL hands 0 [] pre = .ok f) ?_ ?_ ?_
  · walk_at "y"
    refine ⟨_, rows.map dRow, rfl, .argT _ (noLA_rows rows), enA_map _ _, ⟨_, _, [], rfl, rfl, rfl⟩, ?_⟩
    rintro pre δ ω ⟨_, _, _, rfl, rfl, _⟩
    exact .argT _ (noLA_rows rows)
  · rintro pre x post δ ω e ⟨a, b, f, rfl, rfl, hf⟩
    refine ⟨_, gx_tup2, ?_⟩
    have bad : ∀ e', stepL hands pre.length f x = .error e' → ∀ H', Same H H' → E (.ref (C e')) none H' := fun e' he => hE e' (by
      rw [e, goL_bad hands pre post x [] f 0 e' hf (by rw [Nat.zero_add]; exact he)]; rfl)
    have good : ∀ f', stepL hands pre.length f x = .ok f' → goL hands 0 [] (pre ++ [x]) = .ok f' := fun f' he => by
      rw [goL_snoc hands pre x [] f 0 hf, Nat.zero_add, he]
    have hlen : f.length ≤ pre.length := by have := goL_len hf; simpa using this
    have hpl : pre.length < rows.length := by rw [e]; simp
    walk_at "y"
    refine call_need_row ?_
    walk_at "y"
    refine ⟨x, .cons (.dat _) .nil, fun e' he => bad e' (by simp [stepL, he]), fun hrow => ?_⟩
    obtain ⟨w, ns, rfl, hw, hpn⟩ := row_word hrow
    have hp2 := parts_ge w
    obtain ⟨u, hu⟩ : ∃ u, ns[0]? = some u := ⟨_, List.getElem?_eq_getElem (by omega)⟩
    have hu0 : ns.getD 0 0 = u := by rw [List.getD_eq_getElem?_getD, hu]; rfl
    walk_at "y"
    refine call_need_hand ?_
    walk_at "y"
    refine eb_ixUT (.dat _) (d := .int u) (at_ns (j := 0) hu) ?_
    walk_at "y"
    refine ⟨hands, u, .cons (.dat _) (.cons (.dat _) .nil), fun e' he => bad e' (by simp only [stepL, hrow, hu0, he]), fun hh => ?_⟩
    walk_at "y"
    have next : ∀ (J : List Let), True := fun _ => trivial
    refine sx_cut (fun δ ω => ∃ f1, δ = [some (.dat (.int hands)), some (.arg (dRows rows)), some (.ptr 0), some (.dat (.int (pre.length : Nat))), some (.dat (dRow (.mk w ns)))] ∧ ω = [lLets f1] ∧ (if w = wSend then stepL hands pre.length f (.mk w ns) = .ok f1 else f1 = f)) ?_ ?_
    · walk_at "y"
      refine eb_ixUT (.dat _) (d := .str w) at_cons ?_
      walk_at "y"
      refine eb_eqS (sh_word hw) sh_send ?_
      refine ⟨_, rfl, fun hs => ?_, fun hs => ?_⟩
      · have hs : w = wSend := of_decide_eq_true hs
        subst hs
        have hns : ns.length = 2 := by
          have : partsOf wSend = 3 := by decide +kernel
          omega
        obtain ⟨v, hv⟩ : ∃ v, ns[1]? = some v := ⟨_, List.getElem?_eq_getElem (by omega)⟩
        have hv0 : ns.getD 1 0 = v := by rw [List.getD_eq_getElem?_getD, hv]; rfl
        walk_at "y"
        refine call_need_hand ?_
        walk_at "y"
        refine eb_ixUT (.dat _) (d := .int v) (at_ns (j := 1) hv) ?_
        walk_at "y"
        refine ⟨hands, v, .cons (.dat _) (.cons (.dat _) .nil), fun e' he => bad e' (by simp only [stepL, hrow, hu0, hh, hv0, he, if_true]), fun hh2 => ?_⟩
        walk_at "y"
        refine ⟨0, _, rfl, rfl, ?_⟩
        walk_at "y"
        refine eb_ixUT (.dat _) (d := .int u) (at_ns (j := 0) hu) ?_
        walk_at "y"
        refine eb_ixUT (.dat _) (d := .int v) (at_ns (j := 1) hv) ?_
        walk_at "y"
        refine ⟨[.int u, .int v, .int (pre.length : Nat), .none], rfl, szOk (show 4 ≤ 16777216 by decide), ?_⟩
        walk_at "y"
        refine ⟨_, _, rfl, rfl, szLt (by rw [List.length_map]; omega), ?_⟩
        refine ⟨f ++ [⟨u, v, pre.length, none⟩], rfl, ?_, ?_⟩
        · show [Ob.lst _] = [Ob.lst ((f ++ [(⟨u, v, pre.length, none⟩ : Let)]).map fun l => .dat (dLet l))]
          rw [List.map_append]; rfl
        · rw [if_pos rfl]
          simp only [stepL, hrow, hu0, hh, hv0, hh2, if_true]
      · have hs : ¬ w = wSend := of_decide_eq_false hs
        walk_at "y"
        exact ⟨f, rfl, rfl, by rw [if_neg hs]⟩
    · rintro δ ω ⟨f1, rfl, rfl, h5⟩
      walk_at "y"
      refine eb_ixUT (.dat _) (d := .str w) at_cons ?_
      walk_at "y"
      refine eb_eqS (sh_word hw) sh_got ?_
      refine ⟨_, rfl, fun hs => ?_, fun hs => ?_⟩
      · have hs : w = wGot := of_decide_eq_true hs
        subst hs
        rw [if_neg ne_gs] at h5
        subst h5
        have hns : ns.length = 2 := by
          have : partsOf wGot = 3 := by decide +kernel
          omega
        obtain ⟨v, hv⟩ : ∃ v, ns[1]? = some v := ⟨_, List.getElem?_eq_getElem (by omega)⟩
        have hv0 : ns.getD 1 0 = v := by rw [List.getD_eq_getElem?_getD, hv]; rfl
        walk_at "y"
        refine call_need_letter ?_
        walk_at "y"
        refine eb_ixUT (.dat _) (d := .int u) (at_ns (j := 0) hu) ?_
        walk_at "y"
        refine eb_ixUT (.dat _) (d := .int v) (at_ns (j := 1) hv) ?_
        walk_at "y"
        refine ⟨f1, u, v, .cons (rd_lets rfl) (.cons (.dat _) (.cons (.dat _) .nil)), fun e' he => bad e' (by simp only [stepL, hrow, hu0, hh, hv0, he, if_neg ne_gs, if_true]), fun hl => ?_⟩
        have hv1 : 0 ≤ v ∧ v < (f1.length : Int) := by
          refine Classical.byContradiction fun z => ?_
          have z2 : v < 0 ∨ (f1.length : Int) ≤ v := by omega
          simp [needLetter, z2] at hl
        obtain ⟨l, hx⟩ : ∃ l, f1[v.toNat]? = some l := ⟨_, List.getElem?_eq_getElem (by omega)⟩
        walk_at "y"
        refine eg_slT ?_
        walk_at "y"
        refine eb_ixUT (.dat _) (d := .int v) (at_ns (j := 1) hv) ?_
        refine eb_ixUL (.ptr rfl) (at_let hv1.1 hx) ?_
        walk_at "y"
        refine ⟨3, rfl, [.int l.s, .int l.t, .int (l.p : Nat), dOpt l.g], .dat _, ?_, ?_⟩
        · show ¬ (HT.sIx 4 0 none = 0 ∧ HT.sIx 4 4 (some 3) = 4)
          decide
        walk_at "y"
        refine ⟨[.int (pre.length : Nat)], rfl, szOk (show 1 ≤ 16777216 by decide), ?_⟩
        refine eb_catT (.dat [.int l.s, .int l.t, .int (l.p : Nat)]) (.dat _) (by simp) (by simp) (szOk (show 4 ≤ 16777216 by decide)) ?_
        walk_at "y"
        refine eb_ixUT (.dat _) (d := .int v) (at_ns (j := 1) hv) ?_
        refine ⟨0, v, v.toNat, _, rfl, rfl, rfl, ?_, ?_⟩
        · unfold ixN
          rw [List.length_map, if_pos hv1.1, if_pos hv1.2]
        · refine ⟨_, _, f1.modify v.toNat fun l => { l with g := some pre.length }, rfl, ?_, ?_⟩
          · show [Ob.lst ((f1.map fun l => .dat (dLet l)).set v.toNat (.dat (dLet { l with g := some pre.length })))] = _
            rw [modify_set hx, ← List.map_set (f := fun l => A.dat (dLet l))]
          · refine good _ ?_
            simp only [stepL, hrow, hu0, hh, hv0, hl, if_neg ne_gs, if_true]
      · have hs : ¬ w = wGot := of_decide_eq_false hs
        walk_at "y"
        refine ⟨_, _, f1, rfl, rfl, ?_⟩
        by_cases hs2 : w = wSend
        · rw [if_pos hs2] at h5
          exact good f1 h5
        · rw [if_neg hs2] at h5
          subst h5
          exact good f1 (by simp only [stepL, hrow, hu0, hh, if_neg hs2, if_neg hs])
  · rintro δ ω ⟨a, b, f, rfl, rfl, hf⟩
    walk_at "y"
    rw [hf]
    exact fin_lets rfl
end Y

namespace Y
open PySem PySem.Spec L2
local macro_rules | `(tactic| walk_at "y1") => `(tactic| first
  | (fail_if_success (with_reducible show SX _ (tSeq (tIfS _ _ _) _) _ _ _)); (with_reducible refine sx_seq ?_)
  | with_reducible refine sx_asg ?_
  | with_reducible refine sx_if ?_
  | with_reducible refine sx_ret ?_
  | with_reducible refine sx_retN ?_
  | with_reducible refine sx_next ?_
  | with_reducible refine sx_app ?_
  | with_reducible refine sx_clear ?_
  | with_reducible refine sx_setL ?_
  | with_reducible refine sx_dput ?_
  | with_reducible refine sx_drop ?_
  | with_reducible refine eg_var (by with_unfolding_all rfl) ?_
  | with_reducible refine eg_int ?_
  | with_reducible refine eg_bl ?_
  | with_reducible refine eg_str ?_
  | with_reducible refine eg_non ?_
  | with_reducible refine eg_raw ?_
  | with_reducible refine eg_op ?_
  | with_reducible refine eg_cb ?_
  | with_reducible refine eg_tup ?_
  | with_reducible refine eg_isN ?_
  | with_reducible refine eg_notN ?_
  | with_reducible refine eg_and ?_
  | with_reducible refine eg_or ?_
  | with_reducible refine eg_not ?_
  | with_reducible refine eg_dnew ?_
  | with_reducible refine eg_dget ?_
  | with_reducible refine eg_dnotin ?_
  | with_reducible refine eg_un ?_
  | with_reducible refine eg_partsNot ?_
  | with_reducible refine eg_partsIx ?_
  | with_reducible refine et_test ?_
  | with_reducible refine et_B ?_
  | with_reducible refine et_not ?_
  | with_reducible refine et_and ?_
  | with_reducible refine et_or ?_
  | with_reducible refine et_yes ?_
  | with_reducible refine ea_nil ?_
  | with_reducible refine ea_cons ?_
  | with_reducible refine el_lst ?_
  | with_reducible refine el_slL ?_
  | with_reducible refine el_op ?_
  | with_reducible refine el_cb ?_
  | with_reducible refine el_lstRev ?_
  | with_reducible refine el_rng ?_
  | with_reducible refine eo_none ?_
  | with_reducible refine eo_some ?_
  | with_reducible refine sr_list ?_
  | with_reducible refine sr_rng ?_
  | with_reducible refine sr_enum ?_
  | with_reducible refine eb_add ?_
  | with_reducible refine eb_sub ?_
  | with_reducible refine eb_fdivL (by decide) (by decide) ?_
  | with_reducible refine eb_mulL (by decide) (by decide) ?_
  | with_reducible refine eb_mulR (by decide) (by decide) ?_
  | with_reducible refine eb_powL (by decide) (by decide) (by decide) ?_
  | with_reducible refine eb_mod (by decide) ?_
  | with_reducible refine eb_lt ?_
  | with_reducible refine eb_le ?_
  | with_reducible refine eb_gt ?_
  | with_reducible refine eb_ge ?_
  | with_reducible refine eb_eqI ?_
  | with_reducible refine eb_neI ?_
  | with_reducible refine eb_eqB ?_)
local macro_rules | `(tactic| walk_at "y1") => `(tactic| first
  | with_reducible refine call_cell ?_
  | with_reducible refine Exists.intro _ (Exists.intro _ (Exists.intro _ (And.intro (Eq.refl [A.raw (V.ref _), A.dat (PyData.int _)]) (And.intro (by assumption) (And.intro (by first | decide | omega) ?_))))))
local macro_rules | `(tactic| walk_at "y") => `(tactic| (repeat' (walk_at "y1")))
local macro_rules | `(tactic| walk_at "yi") => `(tactic| ((repeat' (walk_at "y1")); (with_reducible refine sx_seq ?_); (repeat' (walk_at "y1"))))


/-! ### _law_hands_by -/
def handsBy (c : Int) : Int := if c / 5 % 8 = 1 then 1 + c / 40 % 40 else 1 + c % 5
theorem handsBy_ok (c : Int) : 1 ≤ handsBy c ∧ handsBy c ≤ 40 := by unfold handsBy; split <;> omega
def R_l_hands_by (ds : List PyData) (r : Res Er) : Prop := ∃ c : Int, ds = [.int c] ∧ r = .ok (.int (handsBy c))
abbrev sp_l_hands_by (K : PySem.W.Frag) (C : Er → Addr) : Sp := Pr C R_l_hands_by
theorem len_l_hands_by {ds : List PyData} {r : Res Er} (h : R_l_hands_by ds r) : ds.length = 1 := by
  obtain ⟨f, rfl, _⟩ := h; rfl
theorem wk_l_hands_by (K : PySem.W.Frag) (C : Er → Addr) (H : Hp) (ds : List PyData) (r : Res Er) (h : R_l_hands_by ds r) : SX H (t_l_hands_by K) (entry ds 0) [] (HandR r) := by
  obtain ⟨c, rfl, rfl⟩ := h
  show SX H (t_l_hands_by K) [some (.dat (.int c))] [] _
  unfold t_l_hands_by
  walk_at "yi"
  refine ⟨_, rfl, fun h => ?_, fun h => ?_⟩
  · have h := of_decide_eq_true h
    walk_at "y"
    rw [show handsBy c = 1 + c / 40 % 40 from if_pos h]
    exact .dat _
  · have h := of_decide_eq_false h
    walk_at "y"
    rw [show handsBy c = 1 + c % 5 from if_neg h]
    exact .dat _

/-! ### _law_cells_by -/
def cellsBy (ns : List Int) (first : Int) : List Int :=
  if cellAt ns 1 % 4 = 1 then (List.range (cellAt ns 1 / 4 % 61 + 100 * (cellAt ns 1 / 244 % 8 / 7)).toNat).map fun k : Nat => (cellAt ns 1 / 4 + 104729 * (k : Int)) * 48271 % 2147483647
  else cutA ns (some first) (some (first + 960))
theorem cutA_len {α : Type} (xs : List α) (lo hi : Option Int) : (cutA xs lo hi).length ≤ xs.length := by
  unfold cutA
  rw [List.length_take, List.length_drop]
  omega
theorem cellsBy_len {ns : List Int} {first : Int} (h : ns.length ≤ 63) : (cellsBy ns first).length ≤ 160 := by
  unfold cellsBy
  split
  · rw [List.length_map, List.length_range]; omega
  · have := cutA_len ns (some first) (some (first + 960)); omega
def R_l_cells_by (ns : List Int) (ds : List PyData) (r : Res Er) : Prop := ∃ k : Int, ds = [.int k] ∧ ns.length ≤ 63 ∧ r = .ok (dI (cellsBy ns k))
abbrev sp_l_cells_by (K : PySem.W.Frag) (C : Er → Addr) : Sp := PrS K C R_l_cells_by
theorem len_l_cells_by {ns : List Int} {ds : List PyData} {r : Res Er} (h : R_l_cells_by ns ds r) : ds.length + 1 = 2 := by
  obtain ⟨k, rfl, _⟩ := h; rfl
theorem cutA_map {α β : Type} (f : α → β) (xs : List α) (lo hi : Option Int) : cutA (xs.map f) lo hi = (cutA xs lo hi).map f := by
  unfold cutA
  rw [List.length_map, List.map_take, List.map_drop]
theorem wk_l_cells_by (K : PySem.W.Frag) (C : Er → Addr) (H : Hp) (a : Addr) (ns : List Int) (ds : List PyData) (r : Res Er) (hS : SqL K H a (ns.map V.int)) (h : R_l_cells_by ns ds r) : SX H (t_l_cells_by K (sp_l_cell_at K C)) (some (.raw (.ref a)) :: entry ds 3) [] (HandR r) := by
  obtain ⟨k, rfl, hn, rfl⟩ := h
  show SX H (t_l_cells_by K (sp_l_cell_at K C)) [some (.raw (.ref a)), some (.dat (.int k)), none, none, none] [] _
  unfold t_l_cells_by
  walk_at "y"
  walk_at "yi"
  refine ⟨_, rfl, fun h => ?_, fun h => ?_⟩
  · have h := of_decide_eq_true h
    have h1 : 0 ≤ cellAt ns 1 / 4 % 61 + 100 * (cellAt ns 1 / 244 % 8 / 7) := by omega
    have h2 : cellAt ns 1 / 4 % 61 + 100 * (cellAt ns 1 / 244 % 8 / 7) ≤ 160 := by omega
    walk_at "y"
    refine el_dat (el_lcR (n := (cellAt ns 1 / 4 % 61 + 100 * (cellAt ns 1 / 244 % 8 / 7)).toNat) (by omega) (fun _ => true) (fun i => .int ((cellAt ns 1 / 4 + 104729 * (i : Int)) * 48271 % 2147483647)) ?_ ?_ ?_)
    · walk_at "y"
      rw [show (((cellAt ns 1 / 4 % 61 + 100 * (cellAt ns 1 / 244 % 8 / 7)).toNat : Nat) : Int) = cellAt ns 1 / 4 % 61 + 100 * (cellAt ns 1 / 244 % 8 / 7) by omega]
      exact ⟨rfl, rfl⟩
    · rintro i hi ω' ⟨acc, rfl⟩
      refine ⟨?_, fun _ => ?_⟩
      · walk_at "y"
        exact ⟨rfl, rfl⟩
      · walk_at "y"
        exact ⟨rfl, rfl⟩
    rw [filter_yes]
    refine ⟨_, rfl, ?_⟩
    rw [dI_rng, show cellsBy ns k = _ from if_pos h]
    exact .dat _
  · have h := of_decide_eq_false h
    walk_at "y"
    refine el_dat ?_
    walk_at "y"
    refine ⟨k, rfl, ?_⟩
    walk_at "y"
    refine ⟨_, rfl, _, .scr hS, ?_⟩
    refine ⟨(cutA ns (some k) (some (k + 960))).map .int, by rw [cutA_map, List.map_map]; rfl, ?_⟩
    rw [show cellsBy ns k = _ from if_neg h]
    exact .dat _

/-! ### _law_whole -/
def isInt : PyData → Bool
  | .int _ => true
  | _ => false
def R_l_whole (ds : List PyData) (r : Res Er) : Prop := ∃ d : PyData, ds = [d] ∧ (∀ kv, d ≠ .dict kv) ∧ r = .ok (.bool (isInt d))
abbrev sp_l_whole (K : PySem.W.Frag) (C : Er → Addr) : Sp := Pr C R_l_whole
theorem len_l_whole {ds : List PyData} {r : Res Er} (h : R_l_whole ds r) : ds.length = 1 := by
  obtain ⟨f, rfl, _⟩ := h; rfl
theorem rd_ent {ω : Om} (d : PyData) : Rd ω (ent d) d := by
  unfold ent
  split
  · exact .dat d
  · exact .arg d
theorem kb_none_int : kitB "NoneType" "int" = some false := by decide +kernel
theorem kb_str_int : kitB "str" "int" = some false := by decide +kernel
theorem kb_list_int : kitB "list" "int" = some false := by decide +kernel
theorem kb_tuple_int : kitB "tuple" "int" = some false := by decide +kernel
theorem wk_l_whole (K : PySem.W.Frag) (C : Er → Addr) (H : Hp) (ds : List PyData) (r : Res Er) (h : R_l_whole ds r) : SX H (t_l_whole K) (entry ds 0) [] (HandR r) := by
  obtain ⟨d, rfl, hd, rfl⟩ := h
  show SX H (t_l_whole K) [some (ent d)] [] _
  unfold t_l_whole
  walk_at "y"
  have other : ∀ P : A → Om → Prop, kitB (tyN d) "int" = some false → P (.dat (.bool false)) [] → EC H (rIsi K) [ent d, A.raw (V.ty "int")] [some (ent d)] [] P := fun P k p => ec_isi (rd_ent d) k p
  cases d with
  | none => exact other _ kb_none_int ⟨_, rfl, iteF (.dat _)⟩
  | str x => exact other _ kb_str_int ⟨_, rfl, iteF (.dat _)⟩
  | list x => exact other _ kb_list_int ⟨_, rfl, iteF (.dat _)⟩
  | tuple x => exact other _ kb_tuple_int ⟨_, rfl, iteF (.dat _)⟩
  | dict x => exact absurd rfl (hd x)
  | int i =>
    refine ec_isi (d := .int i) (rd_ent _) kb_int ?_
    refine ⟨_, rfl, iteT ?_⟩
    walk_at "y"
    refine ec_isi (d := .int i) (rd_ent _) kb_int_bool ?_
    exact ⟨_, rfl, .dat _⟩
  | bool i =>
    refine ec_isi (d := .bool i) (rd_ent _) kb_bool_int ?_
    refine ⟨_, rfl, iteT ?_⟩
    walk_at "y"
    refine ec_isi (d := .bool i) (rd_ent _) kb_bool ?_
    exact ⟨_, rfl, .dat _⟩
section
variable {K : PySem.W.Frag} {C : Er → Addr} {H0 : Hp} {δ : Sl} {ω : Om} {E : XK} {ts : TA} {P : A → Om → Prop}
theorem call_hands_by (h : EA H0 ts δ ω fun bs ω1 => ∃ c, bs = [.dat (.int c)] ∧ P (.dat (.int (handsBy c))) ω1) : EG H0 (tCall (sp_l_hands_by K C) [] E ts) δ ω P :=
  eg_call fun σ H vs as S Q q => h σ H vs as S Q fun bs ω' us H' ⟨c, e, hp⟩ hl S' => q bs ω' us H' ⟨_, _, by rw [e]; exact .cons (.dat _) .nil, ⟨c, rfl, rfl⟩, hp⟩ hl S'
theorem call_cells_by (h : EA H0 ts δ ω fun bs ω1 => ∃ a ns k, bs = [.raw (.ref a), .dat (.int k)] ∧ SqL K H0 a (ns.map V.int) ∧ ns.length ≤ 63 ∧ P (.dat (dI (cellsBy ns k))) ω1) : EG H0 (tCall (sp_l_cells_by K C) [] E ts) δ ω P :=
  eg_callS fun σ H vs as S Q q => h σ H vs as S Q fun bs ω' us H' ⟨a, ns, k, e, hS, hk, hp⟩ hl S' => q bs ω' us H' ⟨a, [.dat (.int k)], ns, [.int k], _, e, hS, .cons (.dat _) .nil, ⟨k, rfl, hk, rfl⟩, hp⟩ hl S'
theorem call_whole (h : EA H0 ts δ ω fun bs ω1 => ∃ d, RdA ω1 bs [d] ∧ (∀ kv, d ≠ .dict kv) ∧ P (.dat (.bool (isInt d))) ω1) : EG H0 (tCall (sp_l_whole K C) [] E ts) δ ω P :=
  eg_call fun σ H vs as S Q q => h σ H vs as S Q fun bs ω' us H' ⟨c, e, hd, hp⟩ hl S' => q bs ω' us H' ⟨_, _, e, ⟨c, rfl, hd, rfl⟩, hp⟩ hl S'
theorem call_letters (h : EA H0 ts δ ω fun bs ω1 => ∃ hands rows, RdA ω1 bs [.int hands, dRows rows] ∧ (∀ e, lettersM hands rows = .error e → ∀ H', Same H0 H' → E (.ref (C e)) none H') ∧ (∀ f, lettersM hands rows = .ok f → P (.dat (dLets f)) ω1)) : EG H0 (tCall (sp_letters K C) [] E ts) δ ω P :=
  eg_call fun σ H vs as S Q q => h σ H vs as S Q fun bs ω' us H' ⟨n, x, hr, h1, h2⟩ hl S' => q bs ω' us H' ⟨_, _, hr, ⟨n, x, rfl, rfl⟩, by
    cases e : lettersM n x with
    | ok f => exact h2 f e
    | error e' => exact h1 e' e⟩ hl S'
end
end Y

namespace Y
open PySem PySem.Spec L2
local macro_rules | `(tactic| walk_at "y1") => `(tactic| first
  | (fail_if_success (with_reducible show SX _ (tSeq (tIfS _ _ _) _) _ _ _)); (with_reducible refine sx_seq ?_)
  | with_reducible refine sx_asg ?_
  | with_reducible refine sx_if ?_
  | with_reducible refine sx_ret ?_
  | with_reducible refine sx_retN ?_
  | with_reducible refine sx_next ?_
  | with_reducible refine sx_app ?_
  | with_reducible refine sx_clear ?_
  | with_reducible refine sx_setL ?_
  | with_reducible refine sx_dput ?_
  | with_reducible refine sx_drop ?_
  | with_reducible refine eg_var (by with_unfolding_all rfl) ?_
  | with_reducible refine eg_int ?_
  | with_reducible refine eg_bl ?_
  | with_reducible refine eg_str ?_
  | with_reducible refine eg_non ?_
  | with_reducible refine eg_raw ?_
  | with_reducible refine eg_op ?_
  | with_reducible refine eg_cb ?_
  | with_reducible refine eg_tup ?_
  | with_reducible refine eg_isN ?_
  | with_reducible refine eg_notN ?_
  | with_reducible refine eg_and ?_
  | with_reducible refine eg_or ?_
  | with_reducible refine eg_not ?_
  | with_reducible refine eg_dnew ?_
  | with_reducible refine eg_dget ?_
  | with_reducible refine eg_dnotin ?_
  | with_reducible refine eg_un ?_
  | with_reducible refine eg_partsNot ?_
  | with_reducible refine eg_partsIx ?_
  | with_reducible refine et_test ?_
  | with_reducible refine et_B ?_
  | with_reducible refine et_not ?_
  | with_reducible refine et_and ?_
  | with_reducible refine et_or ?_
  | with_reducible refine et_yes ?_
  | with_reducible refine ea_nil ?_
  | with_reducible refine ea_cons ?_
  | with_reducible refine el_lst ?_
  | with_reducible refine el_slL ?_
  | with_reducible refine el_op ?_
  | with_reducible refine el_cb ?_
  | with_reducible refine el_lstRev ?_
  | with_reducible refine el_rng ?_
  | with_reducible refine eo_none ?_
  | with_reducible refine eo_some ?_
  | with_reducible refine sr_list ?_
  | with_reducible refine sr_rng ?_
  | with_reducible refine sr_enum ?_
  | with_reducible refine eb_add ?_
  | with_reducible refine eb_sub ?_
  | with_reducible refine eb_fdivL (by decide) (by decide) ?_
  | with_reducible refine eb_mulL (by decide) (by decide) ?_
  | with_reducible refine eb_mulR (by decide) (by decide) ?_
  | with_reducible refine eb_powL (by decide) (by decide) (by decide) ?_
  | with_reducible refine eb_mod (by decide) ?_
  | with_reducible refine eb_lt ?_
  | with_reducible refine eb_le ?_
  | with_reducible refine eb_gt ?_
  | with_reducible refine eb_ge ?_
  | with_reducible refine eb_eqI ?_
  | with_reducible refine eb_neI ?_
  | with_reducible refine eb_eqB ?_)
local macro_rules | `(tactic| walk_at "y1") => `(tactic| first
  | with_reducible refine call_cell ?_
  | with_reducible refine Exists.intro _ (Exists.intro _ (Exists.intro _ (And.intro (Eq.refl [A.raw (V.ref _), A.dat (PyData.int _)]) (And.intro (by assumption) (And.intro (by first | decide | omega) ?_))))))
local macro_rules | `(tactic| walk_at "y") => `(tactic| (repeat' (walk_at "y1")))
local macro_rules | `(tactic| walk_at "yi") => `(tactic| ((repeat' (walk_at "y1")); (with_reducible refine sx_seq ?_); (repeat' (walk_at "y1"))))


/-! ### _law_rows_by -/
structure RB where
  rows : List Row
  sent : List Int
  waits : List Int
def rbStep (hands : Int) (st : RB) (c : Int) : RB :=
  if 5 < c % 8 then { st with rows := st.rows ++ [.note (c / 8 % hands)] }
  else if 2 < c % 8 ∧ st.waits ≠ [] then
    let l := st.waits.getD (c / 8 % (st.waits.length : Int)).toNat 0
    { st with rows := st.rows ++ [.got (st.sent.getD l.toNat 0) l], waits := st.waits.filter fun x => decide (x ≠ l) }
  else { rows := st.rows ++ [.send (c / 8 % hands) (c / 8 / hands % hands)], sent := st.sent ++ [c / 8 / hands % hands], waits := st.waits ++ [(st.sent.length : Int)] }
def rbGo (hands : Int) (cells : List Int) : RB := cells.foldl (rbStep hands) ⟨[], [], []⟩
def rowsBy (cells : List Int) (hands : Int) : List Row := (rbGo hands cells).rows
theorem rbGo_snoc (hands : Int) (cells : List Int) (c : Int) : rbGo hands (cells ++ [c]) = rbStep hands (rbGo hands cells) c := by
  unfold rbGo; rw [List.foldl_append]; rfl
/-- what holds of what is built -/
structure RBok (st : RB) (n : Nat) : Prop where
  len : st.rows.length = n
  sl : st.sent.length ≤ n
  wl : st.waits.length ≤ n
  w : ∀ x ∈ st.waits, 0 ≤ x ∧ x < (st.sent.length : Int)
theorem rb_ok (hands : Int) : ∀ (cells : List Int), RBok (rbGo hands cells) cells.length := by
  intro cells
  have : ∀ n (l : List Int), l.length = n → RBok (rbGo hands l) n := by
    intro n
    induction n with
    | zero => intro l hl; cases l with
      | nil => exact ⟨rfl, Nat.le_refl _, Nat.le_refl _, fun x hx => by cases hx⟩
      | cons => simp at hl
    | succ n ih =>
      intro l hl
      have hne : l ≠ [] := fun e => by subst e; simp at hl
      obtain ⟨c, hc⟩ : ∃ c, l.getLast? = some c := ⟨_, List.getLast?_eq_some_getLast hne⟩
      have e : l = l.dropLast ++ [l.getLast hne] := (List.dropLast_concat_getLast hne).symm
      rw [e, rbGo_snoc]
      have ok := ih l.dropLast (by rw [List.length_dropLast]; omega)
      generalize rbGo hands l.dropLast = st at ok
      generalize l.getLast hne = c
      obtain ⟨h1, h2, h3, h4⟩ := ok
      unfold rbStep
      split
      · exact ⟨by simp [h1], by simp; omega, by simp; omega, h4⟩
      · split
        · refine ⟨by simp [h1], by simp; omega, ?_, fun x hx => h4 x (List.mem_filter.mp hx).1⟩
          have := List.length_filter_le (fun x => decide (x ≠ st.waits.getD (c / 8 % (st.waits.length : Int)).toNat 0)) st.waits
          simp only at this ⊢
          omega
        · refine ⟨by simp [h1], by simp; omega, by simp; omega, fun x hx => ?_⟩
          simp only at hx ⊢
          rw [List.length_append, List.length_singleton]
          rcases List.mem_append.mp hx with hx | hx
          · have := h4 x hx; omega
          · simp at hx; omega
  exact this _ cells rfl
abbrev lRows (rows : List Row) : Ob := .lst (rows.map fun r => .dat (dRow r))
abbrev lInts (ns : List Int) : Ob := .lst (ns.map fun n => .dat (.int n))
theorem lRows_snoc (rows : List Row) (r : Row) (d : PyData) (e : d = dRow r) : (some (Ob.lst (rows.map (fun r => A.dat (dRow r)) ++ [.dat d])) : Option Ob) = some (lRows (rows ++ [r])) := by
  rw [e]; show _ = some (Ob.lst (List.map _ _)); rw [List.map_append]; rfl
theorem lInts_snoc (ns : List Int) (n : Int) : (some (Ob.lst (ns.map (fun r => A.dat (.int r)) ++ [.dat (.int n)])) : Option Ob) = some (lInts (ns ++ [n])) := by
  show _ = some (Ob.lst (List.map _ _)); rw [List.map_append]; rfl
def R_l_rows_by (ds : List PyData) (r : Res Er) : Prop := ∃ (cells : List Int) (hands : Int), ds = [dI cells, .int hands] ∧ 1 ≤ hands ∧ hands ≤ 40 ∧ cells.length ≤ 100000 ∧ r = .ok (dRows (rowsBy cells hands))
abbrev sp_l_rows_by (K : PySem.W.Frag) (C : Er → Addr) : Sp := Pr C R_l_rows_by
theorem len_l_rows_by {ds : List PyData} {r : Res Er} (h : R_l_rows_by ds r) : ds.length = 2 := by
  obtain ⟨f, x, rfl, _⟩ := h; rfl
theorem fin_rows {ω : Om} {k : Nat} {f : List Row} (h : ω[k]? = some (lRows f)) : Fin ω (.ptr k) (dRows f) := by
  refine .ptr h ?_
  have := FinA.dats (ω := ω) (f.map dRow)
  rw [List.map_map] at this
  exact this
theorem wk_l_rows_by (K : PySem.W.Frag) (C : Er → Addr) (H : Hp) (ds : List PyData) (r : Res Er) (h : R_l_rows_by ds r) : SX H (t_l_rows_by K) (entry ds 8) [] (HandR r) := by
  obtain ⟨cells, hands, rfl, hh0, hh1, hz, rfl⟩ := h
  show SX H (t_l_rows_by K) [some (.arg (dI cells)), some (.dat (.int hands)), none, none, none, none, none, none, none, none] [] _
  unfold t_l_rows_by
  walk_at "y"
  refine el_own (el_lst ?_)
  walk_at "y"
  refine ⟨szOk (by decide), ?_⟩
  walk_at "y"
  refine el_own (el_lst ?_)
  walk_at "y"
  refine ⟨szOk (by decide), ?_⟩
  walk_at "y"
  refine el_own (el_lst ?_)
  walk_at "y"
  refine ⟨szOk (by decide), ?_⟩
  walk_at "y"
  refine sx_forP (xs := cells) (it := fun _ c => .dat (.int c)) (fun pre δ ω => ∃ k a b c d, δ = [some (.arg (dI cells)), some (.dat (.int hands)), some (.ptr 0), some (.ptr 1), some (.ptr k), a, b, c, d, none] ∧ 2 ≤ k ∧ ω[0]? = some (lRows (rbGo hands pre).rows) ∧ ω[1]? = some (lInts (rbGo hands pre).sent) ∧ ω[k]? = some (lInts (rbGo hands pre).waits)) ?_ ?_ ?_
  · walk_at "y"
    refine ⟨_, itm_aI cells, map_idx _ _, ⟨2, _, _, _, _, rfl, Nat.le_refl _, rfl, rfl, rfl⟩, ?_⟩
    rintro pre δ ω _
    exact itm_aI cells
  · rintro pre x post δ ω e ⟨k, a, b, c, d, rfl, hk, h0, h1, h2⟩
    refine ⟨_, gx_name, ?_⟩
    have hpl : pre.length < cells.length := by rw [e]; simp
    obtain ⟨g1, g2, g3, g4⟩ := rb_ok hands pre
    rw [rbGo_snoc]
    generalize rbGo hands pre = st at h0 h1 h2 g1 g2 g3 g4
    have k0 : k ≠ 0 := by omega
    have k1 : k ≠ 1 := by omega
    have l0 := (List.getElem?_eq_some_iff.mp h0).1
    have l1 := (List.getElem?_eq_some_iff.mp h1).1
    have l2 := (List.getElem?_eq_some_iff.mp h2).1
    walk_at "y"
    refine ⟨_, rfl, fun c1 => ?_, fun c1 => ?_⟩
    · have c1 := of_decide_eq_true c1
      walk_at "y"
      refine ⟨0, _, rfl, h0, ?_⟩
      walk_at "y"
      refine eb_mod (by omega) ?_
      walk_at "y"
      refine ⟨[.str wNote, .int (x / 8 % hands)], rfl, szOk (show 2 ≤ 16777216 by decide), ?_⟩
      walk_at "y"
      refine ⟨_, _, rfl, h0, szLt (by rw [List.length_map]; omega), k, _, _, _, _, rfl, hk, ?_, ?_, ?_⟩
      · rw [List.getElem?_set_self l0]
        unfold rbStep
        rw [if_pos c1]
        exact lRows_snoc _ _ _ rfl
      · rw [List.getElem?_set_ne (by decide), h1]
        unfold rbStep
        rw [if_pos c1]
      · rw [List.getElem?_set_ne (fun z => k0 z.symm), h2]
        unfold rbStep
        rw [if_pos c1]
    have c1 := of_decide_eq_false c1
    walk_at "y"
    -- is there one to get?
    have send : SX H (tSeq (tDrop (tBM K "list" rAppend (tVar 2) (tCons (tTup (tCons (tC (.str (PySem.Str.ofString "send"))) (tCons (tOp rModU (tVar 7) (tVar 1)) (tCons (tOp rModU (tOp rFdivU (tVar 7) (tVar 1)) (tVar 1)) tNil)))) tNil))) (tSeq (tDrop (tBM K "list" rAppend (tVar 4) (tCons (tCB (rLenU K) (tCons (tVar 3) tNil)) tNil))) (tDrop (tBM K "list" rAppend (tVar 3) (tCons (tOp rModU (tOp rFdivU (tVar 7) (tVar 1)) (tVar 1)) tNil)))))
        [some (.arg (dI cells)), some (.dat (.int hands)), some (.ptr 0), some (.ptr 1), some (.ptr k), some (.dat (.int x)), some (.dat (.int (x % 8))), some (.dat (.int (x / 8))), d, none] ω
        { nx := fun δ ω => ∃ k a b c d, δ = [some (.arg (dI cells)), some (.dat (.int hands)), some (.ptr 0), some (.ptr 1), some (.ptr k), a, b, c, d, none] ∧ 2 ≤ k ∧ ω[0]? = some (lRows (st.rows ++ [.send (x / 8 % hands) (x / 8 / hands % hands)])) ∧ ω[1]? = some (lInts (st.sent ++ [x / 8 / hands % hands])) ∧ ω[k]? = some (lInts (st.waits ++ [(st.sent.length : Int)])), rt := fun _ _ => False } := by
      walk_at "y"
      refine ⟨0, _, rfl, h0, ?_⟩
      walk_at "y"
      refine eb_mod (by omega) ?_
      walk_at "y"
      refine eb_fdivL (by omega) (by omega) ?_
      walk_at "y"
      refine eb_mod (by omega) ?_
      walk_at "y"
      refine ⟨[.str wSend, .int (x / 8 % hands), .int (x / 8 / hands % hands)], rfl, szOk (show 3 ≤ 16777216 by decide), ?_⟩
      walk_at "y"
      refine ⟨_, _, rfl, h0, szLt (by rw [List.length_map]; omega), ?_⟩
      walk_at "y"
      refine ⟨k, _, rfl, by rw [List.getElem?_set_ne (fun z => k0 z.symm)]; exact h2, ?_⟩
      walk_at "y"
      refine ec_len (.ptr (by rw [List.getElem?_set_ne (by decide)]; exact h1)) ?_
      walk_at "y"
      refine ⟨_, _, rfl, by rw [List.getElem?_set_ne (fun z => k0 z.symm)]; exact h2, szLt (by rw [List.length_map]; omega), ?_⟩
      walk_at "y"
      refine ⟨1, _, rfl, by rw [List.getElem?_set_ne k1, List.getElem?_set_ne (by decide)]; exact h1, ?_⟩
      walk_at "y"
      refine eb_fdivL (by omega) (by omega) ?_
      walk_at "y"
      refine eb_mod (by omega) ?_
      walk_at "y"
      refine ⟨_, _, rfl, by rw [List.getElem?_set_ne k1, List.getElem?_set_ne (by decide)]; exact h1, szLt (by rw [List.length_map]; omega), ?_⟩
      refine ⟨k, _, _, _, _, rfl, hk, ?_, ?_, ?_⟩
      · rw [List.getElem?_set_ne (by decide), List.getElem?_set_ne k0, List.getElem?_set_self l0]
        exact lRows_snoc _ _ _ rfl
      · rw [List.getElem?_set_self (by simpa using l1)]
        exact lInts_snoc _ _
      · rw [List.getElem?_set_ne (fun z => k1 z.symm), List.getElem?_set_self (by simpa using l2)]
        rw [List.length_map]
        exact lInts_snoc _ _
    have send' : ∀ (P : Post), P.nx = (fun δ ω => ∃ k a b c d, δ = [some (.arg (dI cells)), some (.dat (.int hands)), some (.ptr 0), some (.ptr 1), some (.ptr k), a, b, c, d, none] ∧ 2 ≤ k ∧ ω[0]? = some (lRows (rbStep hands st x).rows) ∧ ω[1]? = some (lInts (rbStep hands st x).sent) ∧ ω[k]? = some (lInts (rbStep hands st x).waits)) → ¬ (2 < x % 8 ∧ st.waits ≠ []) → SX H (tSeq (tDrop (tBM K "list" rAppend (tVar 2) (tCons (tTup (tCons (tC (.str (PySem.Str.ofString "send"))) (tCons (tOp rModU (tVar 7) (tVar 1)) (tCons (tOp rModU (tOp rFdivU (tVar 7) (tVar 1)) (tVar 1)) tNil)))) tNil))) (tSeq (tDrop (tBM K "list" rAppend (tVar 4) (tCons (tCB (rLenU K) (tCons (tVar 3) tNil)) tNil))) (tDrop (tBM K "list" rAppend (tVar 3) (tCons (tOp rModU (tOp rFdivU (tVar 7) (tVar 1)) (tVar 1)) tNil)))))
        [some (.arg (dI cells)), some (.dat (.int hands)), some (.ptr 0), some (.ptr 1), some (.ptr k), some (.dat (.int x)), some (.dat (.int (x % 8))), some (.dat (.int (x / 8))), d, none] ω P := fun P hP hno σ H' vs as S D cv => send σ H' vs as S D ⟨fun δ ω σ' H'' h S' => cv.nx δ ω σ' H'' (by
          rw [hP]
          unfold rbStep
          rw [if_neg c1, if_neg hno]
          exact h) S', fun _ _ _ _ _ _ z _ => z.elim, fun _ _ _ _ z _ => z.elim, fun _ _ _ _ z _ => z.elim⟩
    refine ⟨_, rfl, ?_⟩
    split
    · rename_i c2
      have c2 := of_decide_eq_true c2
      walk_at "y"
      refine el_dat (el_lst ?_)
      walk_at "y"
      refine ⟨szOk (by decide), [], rfl, ?_⟩
      refine eb_neD (d := dI st.waits) (e := dI []) (rd_dI h2) (.dat _) (shaped_ints _) (shaped_ints _) ?_
      rw [eqv_dI]
      refine ⟨_, rfl, fun c3 => ?_, fun c3 => ?_⟩
      · have c3 : st.waits ≠ [] := by simpa using c3
        have hwl : 0 < st.waits.length := List.length_pos_iff.mpr c3
        have q1 : 0 ≤ x / 8 % (st.waits.length : Int) := Int.emod_nonneg _ (by omega)
        have q2 : x / 8 % (st.waits.length : Int) < st.waits.length := Int.emod_lt_of_pos _ (by omega)
        obtain ⟨l, hl⟩ : ∃ l, st.waits[(x / 8 % (st.waits.length : Int)).toNat]? = some l := ⟨_, List.getElem?_eq_getElem (by omega)⟩
        have hlD : st.waits.getD (x / 8 % (st.waits.length : Int)).toNat 0 = l := by rw [List.getD_eq_getElem?_getD, hl]; rfl
        have hl2 := g4 l (List.mem_of_getElem? hl)
        obtain ⟨t, ht⟩ : ∃ t, st.sent[l.toNat]? = some t := ⟨_, List.getElem?_eq_getElem (by omega)⟩
        have htD : st.sent.getD l.toNat 0 = t := by rw [List.getD_eq_getElem?_getD, ht]; rfl
        have estep : rbStep hands st x = { st with rows := st.rows ++ [.got t l], waits := st.waits.filter fun y => decide (y ≠ l) } := by
          unfold rbStep
          rw [if_neg c1, if_pos ⟨c2, c3⟩]
          simp only [hlD, htD]
        walk_at "y"
        refine ec_len (.ptr h2) ?_
        rw [List.length_map]
        refine eb_mod (by omega) ?_
        refine eb_ixUL (.ptr h2) (c := .dat (.int l)) (at_nat q1 (by rw [List.getElem?_map, hl]; rfl)) ?_
        walk_at "y"
        refine el_own (el_lcL (K := K) st.waits (fun n => .dat (.int n)) (by omega) (fun y => decide (y ≠ l)) (fun y => .int y) ?_ ?_ ?_)
        · walk_at "y"
          exact ⟨rfl, .ptr h2, fun acc => .ptr (by rw [List.getElem?_append_left l2]; exact h2)⟩
        · rintro y hy ω' ⟨acc, rfl⟩
          refine ⟨?_, fun _ => ?_⟩
          · walk_at "y"
            refine ⟨_, rfl, ?_, rfl⟩
            simp
          · walk_at "y"
            exact ⟨rfl, rfl⟩
        walk_at "y"
        have a0 : (ω ++ [Ob.lst (((st.waits.filter fun y => decide (y ≠ l)).map PyData.int).map A.dat)])[0]? = some (lRows st.rows) := by rw [List.getElem?_append_left l0]; exact h0
        have a1 : (ω ++ [Ob.lst (((st.waits.filter fun y => decide (y ≠ l)).map PyData.int).map A.dat)])[1]? = some (lInts st.sent) := by rw [List.getElem?_append_left l1]; exact h1
        refine ⟨0, _, rfl, a0, ?_⟩
        walk_at "y"
        refine eb_ixUL (.ptr a1) (c := .dat (.int t)) (at_nat hl2.1 (by rw [List.getElem?_map, ht]; rfl)) ?_
        walk_at "y"
        refine ⟨[.str wGot, .int t, .int l], rfl, szOk (show 3 ≤ 16777216 by decide), ?_⟩
        walk_at "y"
        refine ⟨_, _, rfl, a0, szLt (by rw [List.length_map]; omega), ω.length, _, _, _, _, rfl, by omega, ?_, ?_, ?_⟩
        · rw [List.getElem?_set_self (by simp), estep]
          exact lRows_snoc _ _ _ rfl
        · rw [List.getElem?_set_ne (by decide), a1, estep]
        · rw [List.getElem?_set_ne (by omega), estep]
          simp [List.map_map]
      · have c3 : st.waits = [] := by simpa using c3
        exact send' _ rfl (fun z => z.2 c3)
    · rename_i c2
      have c2 : ¬ 2 < x % 8 := by simpa using c2
      exact ⟨fun z => (nomatch z), fun _ => send' _ rfl (fun z => c2 z.1)⟩
  · rintro δ ω ⟨k, a, b, c, d, rfl, hk, h0, _, _⟩
    walk_at "y"
    exact fin_rows h0
end Y

/-! Mr2: good histories: plain Lean. -/
namespace Y
open PySem PySem.Spec L2

theorem isW_send : isWord wSend = true := by decide +kernel
theorem isW_got : isWord wGot = true := by decide +kernel
theorem isW_note : isWord wNote = true := by decide +kernel
theorem po_send : partsOf wSend = 3 := by decide +kernel
theorem po_got : partsOf wGot = 3 := by decide +kernel
theorem po_note : partsOf wNote = 2 := by decide +kernel
theorem needRow_send (h t : Int) : needRow (.send h t) = none := by simp [needRow, isW_send, po_send]
theorem needRow_got (h t : Int) : needRow (.got h t) = none := by simp [needRow, isW_got, po_got]
theorem needRow_note (h : Int) : needRow (.note h) = none := by simp [needRow, isW_note, po_note]
theorem needHand_ok {hands h : Int} : needHand hands h = none ↔ 0 ≤ h ∧ h < hands := by
  unfold needHand
  constructor
  · intro e
    split at e
    · cases e
    · omega
  · intro e
    rw [if_neg (by omega)]
theorem needLetter_ok {f : List Let} {h l : Int} : needLetter f h l = none ↔ 0 ≤ l ∧ ∃ y, f[l.toNat]? = some y ∧ y.t = h ∧ y.g = none := by
  unfold needLetter
  constructor
  · intro e
    split at e
    · cases e
    · rename_i h1
      refine ⟨by omega, ?_⟩
      split at e
      · cases e
      · rename_i y hy
        split at e
        · rename_i ht
          split at e
          · rename_i hg
            exact ⟨y, hy, ht, hg⟩
          · cases e
        · cases e
  · rintro ⟨h0, y, hy, ht, hg⟩
    have := (List.getElem?_eq_some_iff.mp hy).1
    rw [if_neg (by omega), hy]
    simp only [ht, hg, if_true]
theorem stepL_send {hands h t : Int} {k : Nat} {f : List Let} (h1 : 0 ≤ h ∧ h < hands) (h2 : 0 ≤ t ∧ t < hands) : stepL hands k f (.send h t) = .ok (f ++ [⟨h, t, k, none⟩]) := by
  have a := needHand_ok.mpr h1
  have b := needHand_ok.mpr h2
  unfold stepL
  rw [needRow_send]
  simp only [List.getD_cons_zero, List.getD_cons_succ, a, b, if_true]
theorem stepL_got {hands h l : Int} {k : Nat} {f : List Let} (h1 : 0 ≤ h ∧ h < hands) (h2 : 0 ≤ l) {y : Let} (hy : f[l.toNat]? = some y) (ht : y.t = h) (hg : y.g = none) : stepL hands k f (.got h l) = .ok (f.set l.toNat { y with g := some k }) := by
  have a := needHand_ok.mpr h1
  have b := needLetter_ok.mpr ⟨h2, y, hy, ht, hg⟩
  unfold stepL
  rw [needRow_got]
  simp only [List.getD_cons_zero, List.getD_cons_succ, a, b, if_true]
  rw [if_neg ne_gs, modify_set hy]
theorem stepL_note {hands h : Int} {k : Nat} {f : List Let} (h1 : 0 ≤ h ∧ h < hands) : stepL hands k f (.note h) = .ok f := by
  have a := needHand_ok.mpr h1
  unfold stepL
  rw [needRow_note]
  simp only [List.getD_cons_zero, a]
  rw [if_neg ne_ns, if_neg ne_ng]
/-- the other way: what a row that goes well is -/
inductive StepOk (hands : Int) (k : Nat) (f : List Let) : Row → List Let → Prop
  | send {h t : Int} (h1 : 0 ≤ h ∧ h < hands) (h2 : 0 ≤ t ∧ t < hands) : StepOk hands k f (.send h t) (f ++ [⟨h, t, k, none⟩])
  | got {h : Int} {l : Nat} {y : Let} (h1 : 0 ≤ h ∧ h < hands) (hy : f[l]? = some y) (ht : y.t = h) (hg : y.g = none) : StepOk hands k f (.got h (l : Int)) (f.set l { y with g := some k })
  | note {h : Int} (h1 : 0 ≤ h ∧ h < hands) : StepOk hands k f (.note h) f
theorem stepOk_of {hands : Int} {k : Nat} {f f' : List Let} {r : Row} (h : stepL hands k f r = .ok f') : StepOk hands k f r f' := by
  have hrow : needRow r = none := by
    unfold stepL at h
    cases e : needRow r with
    | none => rfl
    | some e' => rw [e] at h; cases h
  obtain ⟨w, ns, rfl, hw, hp⟩ := row_word hrow
  have hw3 : w = wSend ∨ w = wGot ∨ w = wNote := by simpa [isWord, or_assoc] using hw
  have two : ∀ {a : List Int}, (a.length : Int) + 1 = 3 → ∃ x y, a = [x, y] := by
    intro a ha
    match a, ha with
    | [x, y], _ => exact ⟨x, y, rfl⟩
    | [], ha => simp at ha
    | [x], ha => simp at ha
    | x :: y :: z :: a, ha => simp only [List.length_cons] at ha; omega
  rcases hw3 with rfl | rfl | rfl
  · rw [po_send] at hp
    obtain ⟨x, y, rfl⟩ := two hp
    cases e1 : needHand hands x with
    | some e => simp [stepL, hrow, e1] at h
    | none =>
      cases e2 : needHand hands y with
      | some e => simp [stepL, hrow, e1, e2] at h
      | none =>
        have a := needHand_ok.mp e1
        have b := needHand_ok.mp e2
        have h3 := stepL_send (k := k) (f := f) a b
        rw [show stepL hands k f (.mk wSend [x, y]) = _ from h3] at h
        cases h
        exact .send a b
  · rw [po_got] at hp
    obtain ⟨x, y, rfl⟩ := two hp
    cases e1 : needHand hands x with
    | some e => simp [stepL, hrow, e1] at h
    | none =>
      cases e2 : needLetter f x y with
      | some e => simp [stepL, hrow, e1, e2, ne_gs] at h
      | none =>
        have a := needHand_ok.mp e1
        obtain ⟨b, z, hz, ht, hg⟩ := needLetter_ok.mp e2
        have h3 := stepL_got (k := k) (f := f) a b hz ht hg
        rw [show stepL hands k f (.mk wGot [x, y]) = _ from h3] at h
        cases h
        have := StepOk.got (k := k) (l := y.toNat) a hz ht hg
        rw [show ((y.toNat : Nat) : Int) = y by omega] at this
        exact this
  · rw [po_note] at hp
    obtain ⟨x, rfl⟩ : ∃ x, ns = [x] := by
      match ns, hp with
      | [x], _ => exact ⟨x, rfl⟩
      | [], ha => simp at ha
      | x :: y :: a, ha => simp only [List.length_cons] at ha; omega
    cases e1 : needHand hands x with
    | some e => simp [stepL, hrow, e1] at h
    | none =>
      have a := needHand_ok.mp e1
      have h3 := stepL_note (k := k) (f := f) a
      rw [show stepL hands k f (.mk wNote [x]) = _ from h3] at h
      cases h
      exact .note a
theorem goL_split {hands : Int} {a b : List Row} {f0 f : List Let} {k : Nat} (h : goL hands k f0 (a ++ b) = .ok f) : ∃ f1, goL hands k f0 a = .ok f1 ∧ goL hands (k + a.length) f1 b = .ok f := by
  rw [goL_append] at h
  cases e : goL hands k f0 a with
  | error e' => rw [e] at h; cases h
  | ok f1 => rw [e] at h; exact ⟨f1, rfl, h⟩
/-- the letters up to a place, and the row there -/
theorem goL_at {hands : Int} {rows : List Row} {f : List Let} (h : goL hands 0 [] rows = .ok f) {k : Nat} {r : Row} (hk : rows[k]? = some r) : ∃ f1 f2, goL hands 0 [] (rows.take k) = .ok f1 ∧ StepOk hands k f1 r f2 ∧ goL hands 0 [] (rows.take (k + 1)) = .ok f2 := by
  obtain ⟨hl, hr⟩ := List.getElem?_eq_some_iff.mp hk
  have e : rows = rows.take (k + 1) ++ rows.drop (k + 1) := (List.take_append_drop _ _).symm
  rw [e] at h
  obtain ⟨f2, h2, _⟩ := goL_split h
  have e2 : rows.take (k + 1) = rows.take k ++ [r] := by rw [List.take_add_one, hk]; rfl
  have h2' := h2
  rw [e2] at h2'
  obtain ⟨f1, h1, h3⟩ := goL_split h2'
  refine ⟨f1, f2, h1, ?_, h2⟩
  rw [List.length_take, Nat.zero_add, Nat.min_eq_left (by omega)] at h3
  simp only [goL] at h3
  cases es : stepL hands k f1 r with
  | error e' => rw [es] at h3; cases h3
  | ok f' => rw [es] at h3; cases h3; exact stepOk_of es
theorem range_mid {n : Nat} {pre post : List Nat} {x : Nat} (e : List.range n = pre ++ x :: post) : x = pre.length ∧ pre.length < n := by
  have h := mid_get e
  obtain ⟨h1, h2⟩ := List.getElem?_eq_some_iff.mp h
  rw [List.length_range] at h1
  rw [List.getElem_range] at h2
  exact ⟨h2.symm, h1⟩
theorem range_done {n : Nat} : (List.range n).length = n := List.length_range

/-! ### the built history is good -/
theorem snoc_ind {P : List Int → Prop} (h0 : P []) (hs : ∀ l c, P l → P (l ++ [c])) : ∀ l, P l := by
  have : ∀ n (l : List Int), l.length = n → P l := by
    intro n
    induction n with
    | zero => intro l hl; cases l with
      | nil => exact h0
      | cons => simp at hl
    | succ n ih =>
      intro l hl
      have hne : l ≠ [] := fun e => by subst e; simp at hl
      rw [(List.dropLast_concat_getLast hne).symm]
      exact hs _ _ (ih l.dropLast (by rw [List.length_dropLast]; omega))
  exact fun l => this _ l rfl
structure RBgood (hands : Int) (st : RB) (f : List Let) : Prop where
  go : goL hands 0 [] st.rows = .ok f
  sent : f.map Let.t = st.sent
  wait : ∀ x ∈ st.waits, ∃ y, f[x.toNat]? = some y ∧ y.g = none
  rng : ∀ y ∈ f, 0 ≤ y.t ∧ y.t < hands
theorem rb_good {hands : Int} (hh : 1 ≤ hands) : ∀ cells : List Int, ∃ f, RBgood hands (rbGo hands cells) f := by
  refine snoc_ind ⟨[], rfl, rfl, fun x hx => (by cases hx), fun y hy => (by cases hy)⟩ fun l c ⟨f, hf⟩ => ?_
  have ok := rb_ok hands l
  rw [rbGo_snoc]
  generalize rbGo hands l = st at hf ok
  obtain ⟨hgo, hsent, hwait, hrng⟩ := hf
  have hm : ∀ z : Int, 0 ≤ z % hands ∧ z % hands < hands := fun z => ⟨Int.emod_nonneg _ (by omega), Int.emod_lt_of_pos _ (by omega)⟩
  have hlen : f.length = st.sent.length := by rw [← hsent, List.length_map]
  unfold rbStep
  split
  · refine ⟨f, ?_, hsent, hwait, hrng⟩
    simp only
    rw [goL_snoc _ _ _ _ _ _ hgo]
    exact stepL_note (hm _)
  split
  · rename_i h1
    have hwl : 0 < st.waits.length := List.length_pos_iff.mpr h1.2
    have q1 : 0 ≤ c / 8 % (st.waits.length : Int) := Int.emod_nonneg _ (by omega)
    have q2 : c / 8 % (st.waits.length : Int) < st.waits.length := Int.emod_lt_of_pos _ (by omega)
    obtain ⟨v, hv⟩ : ∃ l, st.waits[(c / 8 % (st.waits.length : Int)).toNat]? = some l := ⟨_, List.getElem?_eq_getElem (by omega)⟩
    have hvD : st.waits.getD (c / 8 % (st.waits.length : Int)).toNat 0 = v := by rw [List.getD_eq_getElem?_getD, hv]; rfl
    have hvm := List.mem_of_getElem? hv
    obtain ⟨y, hy, hg⟩ := hwait v hvm
    have hv2 := ok.w v hvm
    have ht : st.sent.getD v.toNat 0 = y.t := by rw [← hsent, List.getD_eq_getElem?_getD, List.getElem?_map, hy]; rfl
    simp only [hvD, ht]
    refine ⟨f.set v.toNat { y with g := some (0 + st.rows.length) }, ?_, ?_, ?_, ?_⟩
    · rw [goL_snoc _ _ _ _ _ _ hgo]
      exact stepL_got (hrng y (List.mem_of_getElem? hy)) hv2.1 hy rfl hg
    · rw [List.map_set, hsent]
      apply List.ext_getElem?
      intro j
      rw [List.getElem?_set]
      split
      · rename_i e
        subst e
        rw [← hsent, List.getElem?_map, hy, List.length_map, if_pos (List.getElem?_eq_some_iff.mp hy).1]
        rfl
      · rfl
    · intro x hx
      simp only at hx
      obtain ⟨hx1, hx2⟩ := List.mem_filter.mp hx
      have hx2 := of_decide_eq_true hx2
      obtain ⟨z, hz, hzg⟩ := hwait x hx1
      have := ok.w x hx1
      exact ⟨z, by rw [List.getElem?_set_ne (by omega)]; exact hz, hzg⟩
    · intro z hz
      rcases List.mem_or_eq_of_mem_set hz with h | h
      · exact hrng z h
      · rw [h]; exact hrng y (List.mem_of_getElem? hy)
  · refine ⟨f ++ [⟨c / 8 % hands, c / 8 / hands % hands, 0 + st.rows.length, none⟩], ?_, ?_, ?_, ?_⟩
    · simp only
      rw [goL_snoc _ _ _ _ _ _ hgo]
      exact stepL_send (hm _) (hm _)
    · rw [List.map_append, hsent]; rfl
    · intro x hx
      simp only at hx
      rcases List.mem_append.mp hx with hx | hx
      · obtain ⟨z, hz, hzg⟩ := hwait x hx
        exact ⟨z, by rw [List.getElem?_append_left (List.getElem?_eq_some_iff.mp hz).1]; exact hz, hzg⟩
      · have hx : x = (st.sent.length : Int) := by simpa using hx
        subst hx
        refine ⟨⟨c / 8 % hands, c / 8 / hands % hands, 0 + st.rows.length, none⟩, ?_, rfl⟩
        rw [Int.toNat_natCast, ← hlen, List.getElem?_append_right (Nat.le_refl _), Nat.sub_self]
        rfl
    · intro z hz
      rcases List.mem_append.mp hz with h | h
      · exact hrng z h
      · rw [List.mem_singleton.mp h]; exact hm _
theorem good_rows {hands : Int} {cells : List Int} (h1 : 1 ≤ hands) (h2 : hands ≤ 40) (hc : cells.length ≤ 1000) : ∃ f, lettersM hands (rowsBy cells hands) = .ok f := by
  obtain ⟨f, hf⟩ := rb_good h1 cells
  have := (rb_ok hands cells).len
  refine ⟨f, ?_⟩
  unfold lettersM
  rw [if_neg (by omega), if_neg (by unfold rowsBy; omega)]
  exact hf.go
theorem lettersM_ok {hands : Int} {rows : List Row} {f : List Let} (h : lettersM hands rows = .ok f) : 1 ≤ hands ∧ hands ≤ 40 ∧ rows.length ≤ 1000 ∧ goL hands 0 [] rows = .ok f := by
  unfold lettersM at h
  split at h
  · cases h
  · split at h
    · cases h
    · exact ⟨by omega, by omega, by omega, h⟩
theorem goL_need {hands : Int} {rows : List Row} {f : List Let} (h : goL hands 0 [] rows = .ok f) : ∀ r ∈ rows, needRow r = none := by
  intro r hr
  obtain ⟨k, hk⟩ := List.getElem?_of_mem hr
  obtain ⟨f1, f2, _, hst, _⟩ := goL_at h hk
  cases hst with
  | send => exact needRow_send _ _
  | got => exact needRow_got _ _
  | note => exact needRow_note _
theorem lay_row {r : Row} (h : needRow r = none) : PyData.canLay0 (dRow r) = true ∧ PyData.depth (dRow r) ≤ 2 := by
  obtain ⟨w, ns, rfl, hw, _⟩ := row_word h
  have hs := sh_word hw
  have hs2 : (PyData.canLay0 (.str w) && decide (PyData.depth (.str w) ≤ 64)) = true := hs
  rw [Bool.and_eq_true] at hs2
  have hd := depth_ints ns
  constructor
  · simp only [dRow, PyData.canLay0, PyData.canLayAll0, Bool.and_eq_true]
    exact ⟨by simpa only [PyData.canLay0] using hs2.1, lay_ints ns⟩
  · simp only [dRow, PyData.depth, PyData.depthAll]
    omega
theorem lay_rows : ∀ {rows : List Row}, (∀ r ∈ rows, needRow r = none) → PyData.canLayAll0 (rows.map dRow) = true ∧ PyData.depthAll (rows.map dRow) ≤ 2
  | [], _ => ⟨by simp [PyData.canLayAll0], by simp [PyData.depthAll]⟩
  | r :: rows, h => by
    obtain ⟨a, b⟩ := lay_row (h r (by simp))
    obtain ⟨c, d⟩ := lay_rows (rows := rows) fun r hr => h r (by simp [hr])
    constructor
    · simp only [List.map_cons, PyData.canLayAll0, Bool.and_eq_true]; exact ⟨a, c⟩
    · simp only [List.map_cons, PyData.depthAll]; omega
theorem shaped_rows {rows : List Row} (h : ∀ r ∈ rows, needRow r = none) : SeqAt.shaped (dRows rows) = true := shaped_list (lay_rows h).1 (lay_rows h).2 (by decide)
theorem eqv_ints_refl (ns : List Int) : PyData.eqvAll (ns.map .int) (ns.map .int) = true := by rw [eqv_ints]; simp
theorem eqv_row_refl (r : Row) : PyData.eqv (dRow r) (dRow r) = true := by
  cases r with
  | emp => simp [dRow, PyData.eqv, PyData.eqvAll]
  | mk w ns => simp only [dRow, PyData.eqv, PyData.eqvAll, eqv_ints_refl, beq_self_eq_true, Bool.and_true]
theorem eqv_rows_refl (rows : List Row) : PyData.eqv (dRows rows) (dRows rows) = true := by
  simp only [PyData.eqv]
  induction rows with
  | nil => simp [PyData.eqvAll]
  | cons r rows ih => simp only [List.map_cons, PyData.eqvAll, eqv_row_refl, ih, Bool.and_true]
theorem rd_rows {ω : Om} {k : Nat} {rows : List Row} (h : ω[k]? = some (lRows rows)) : Rd ω (.ptr k) (dRows rows) := by
  refine .ptr h ?_
  have := RdA.dats (ω := ω) (rows.map dRow)
  rw [List.map_map] at this
  exact this
theorem itm_rowsD {K : PySem.W.Frag} {H0 : Hp} {ω : Om} (rows : List Row) : Itm K H0 ω (.dat (dRows rows)) (rows.map fun r => .dat (dRow r)) := by
  have := Itm.dat (K := K) (H0 := H0) (ω := ω) (rows.map dRow)
  rw [List.map_map] at this
  exact this
theorem itm_rows {K : PySem.W.Frag} {H0 : Hp} {ω : Om} (rows : List Row) : Itm K H0 ω (.arg (dRows rows)) (rows.map fun r => .dat (dRow r)) := by
  have := Itm.argT (K := K) (H0 := H0) (ω := ω) (rows.map dRow) (noLA_rows rows)
  rw [List.map_map] at this
  exact this
end Y

namespace Y
open PySem PySem.Spec L2
local macro_rules | `(tactic| walk_at "y1") => `(tactic| first
  | (fail_if_success (with_reducible show SX _ (tSeq (tIfS _ _ _) _) _ _ _)); (with_reducible refine sx_seq ?_)
  | with_reducible refine sx_asg ?_
  | with_reducible refine sx_if ?_
  | with_reducible refine sx_ret ?_
  | with_reducible refine sx_retN ?_
  | with_reducible refine sx_next ?_
  | with_reducible refine sx_app ?_
  | with_reducible refine sx_clear ?_
  | with_reducible refine sx_setL ?_
  | with_reducible refine sx_dput ?_
  | with_reducible refine sx_drop ?_
  | with_reducible refine eg_var (by with_unfolding_all rfl) ?_
  | with_reducible refine eg_int ?_
  | with_reducible refine eg_bl ?_
  | with_reducible refine eg_str ?_
  | with_reducible refine eg_non ?_
  | with_reducible refine eg_raw ?_
  | with_reducible refine eg_op ?_
  | with_reducible refine eg_cb ?_
  | with_reducible refine eg_tup ?_
  | with_reducible refine eg_isN ?_
  | with_reducible refine eg_notN ?_
  | with_reducible refine eg_and ?_
  | with_reducible refine eg_or ?_
  | with_reducible refine eg_not ?_
  | with_reducible refine eg_dnew ?_
  | with_reducible refine eg_dget ?_
  | with_reducible refine eg_dnotin ?_
  | with_reducible refine eg_un ?_
  | with_reducible refine eg_partsNot ?_
  | with_reducible refine eg_partsIx ?_
  | with_reducible refine et_test ?_
  | with_reducible refine et_B ?_
  | with_reducible refine et_not ?_
  | with_reducible refine et_and ?_
  | with_reducible refine et_or ?_
  | with_reducible refine et_yes ?_
  | with_reducible refine ea_nil ?_
  | with_reducible refine ea_cons ?_
  | with_reducible refine el_lst ?_
  | with_reducible refine el_slL ?_
  | with_reducible refine el_op ?_
  | with_reducible refine el_cb ?_
  | with_reducible refine el_lstRev ?_
  | with_reducible refine el_rng ?_
  | with_reducible refine eo_none ?_
  | with_reducible refine eo_some ?_
  | with_reducible refine sr_list ?_
  | with_reducible refine sr_rng ?_
  | with_reducible refine sr_enum ?_
  | with_reducible refine eb_add ?_
  | with_reducible refine eb_sub ?_
  | with_reducible refine eb_fdivL (by decide) (by decide) ?_
  | with_reducible refine eb_mulL (by decide) (by decide) ?_
  | with_reducible refine eb_mulR (by decide) (by decide) ?_
  | with_reducible refine eb_powL (by decide) (by decide) (by decide) ?_
  | with_reducible refine eb_mod (by decide) ?_
  | with_reducible refine eb_lt ?_
  | with_reducible refine eb_le ?_
  | with_reducible refine eb_gt ?_
  | with_reducible refine eb_ge ?_
  | with_reducible refine eb_eqI ?_
  | with_reducible refine eb_neI ?_
  | with_reducible refine eb_eqB ?_)
local macro_rules | `(tactic| walk_at "y1") => `(tactic| first
  | with_reducible refine call_cell ?_
  | with_reducible refine Exists.intro _ (Exists.intro _ (Exists.intro _ (And.intro (Eq.refl [A.raw (V.ref _), A.dat (PyData.int _)]) (And.intro (by assumption) (And.intro (by first | decide | omega) ?_))))))
local macro_rules | `(tactic| walk_at "y") => `(tactic| (repeat' (walk_at "y1")))
local macro_rules | `(tactic| walk_at "yi") => `(tactic| ((repeat' (walk_at "y1")); (with_reducible refine sx_seq ?_); (repeat' (walk_at "y1"))))


section
variable {K : PySem.W.Frag} {C : Er → Addr} {H0 : Hp} {δ : Sl} {ω : Om} {E : XK} {ts : TA} {P : A → Om → Prop}
theorem call_rows_by (h : EA H0 ts δ ω fun bs ω1 => ∃ cells hands, RdA ω1 bs [dI cells, .int hands] ∧ 1 ≤ hands ∧ hands ≤ 40 ∧ cells.length ≤ 100000 ∧ P (.dat (dRows (rowsBy cells hands))) ω1) : EG H0 (tCall (sp_l_rows_by K C) [] E ts) δ ω P :=
  eg_call fun σ H vs as S Q q => h σ H vs as S Q fun bs ω' us H' ⟨c, n, hr, h1, h2, h3, hp⟩ hl S' => q bs ω' us H' ⟨_, _, hr, ⟨c, n, rfl, h1, h2, h3, rfl⟩, hp⟩ hl S'
theorem EA.imp {P P' : List A → Om → Prop} (h : EA H0 ts δ ω P) (i : ∀ a ω', P a ω' → P' a ω') : EA H0 ts δ ω P' := fun σ H vs as S Q q => h σ H vs as S Q fun a ω' v H' hp S => q a ω' v H' (i a ω' hp) S
theorem call_letters_ok {hands : Int} {rows : List Row} {f : List Let} (hf : lettersM hands rows = .ok f) (h : EA H0 ts δ ω fun bs ω1 => RdA ω1 bs [.int hands, dRows rows] ∧ P (.dat (dLets f)) ω1) : EG H0 (tCall (sp_letters K C) [] E ts) δ ω P :=
  call_letters (EA.imp h fun bs ω1 ⟨a, b⟩ => ⟨hands, rows, a, fun e he => (by rw [hf] at he; cases he), fun f' hf' => (by rw [hf] at hf'; cases hf'; exact b)⟩)
end

/-! ### _law_letters_by -/
def dLetL (l : Let) : PyData := .list [.int l.s, .int l.t, .int (l.p : Nat), dOpt l.g]
abbrev oLet (l : Let) : Ob := .lst [.dat (.int l.s), .dat (.int l.t), .dat (.int (l.p : Nat)), .dat (dOpt l.g)]
def omL (f : List Let) : Om := .lst ((List.range f.length).map fun i => .ptr (i + 1)) :: f.map oLet
theorem omL_len (f : List Let) : (omL f).length = f.length + 1 := by simp [omL]
theorem omL_snoc (f : List Let) (l : Let) : (omL f ++ [oLet l]).set 0 (.lst ((List.range f.length).map (fun i => A.ptr (i + 1)) ++ [.ptr (omL f).length])) = omL (f ++ [l]) := by
  rw [omL_len]
  show _ :: (f.map oLet ++ [oLet l]) = _ :: _
  rw [List.map_append, List.length_append, List.length_singleton, List.range_succ, List.map_append]
  rfl
theorem omL_set (f : List Let) (i : Nat) (l : Let) : (omL f).set (i + 1) (oLet l) = omL (f.set i l) := by
  show _ :: (f.map oLet).set i (oLet l) = _ :: (f.set i l).map oLet
  rw [List.length_set, List.map_set]
theorem omL_get {f : List Let} {i : Nat} {l : Let} (h : f[i]? = some l) : (omL f)[i + 1]? = some (oLet l) := by
  show (f.map oLet)[i]? = _
  rw [List.getElem?_map, h]; rfl
theorem fin_omL (f : List Let) : Fin (omL f) (.ptr 0) (.list (f.map dLetL)) := by
  refine .ptr rfl ?_
  have go : ∀ (g : List Let) (k : Nat), (∀ i l, g[i]? = some l → (omL f)[k + i + 1]? = some (oLet l)) → FinA (omL f) ((List.range' k g.length).map fun i => A.ptr (i + 1)) (g.map dLetL) := by
    intro g
    induction g with
    | nil => intro k _; exact .nil
    | cons l g ih =>
      intro k h
      refine .cons (.ptr (h 0 l rfl) (.cons (.dat _) (.cons (.dat _) (.cons (.dat _) (.cons (.dat _) .nil))))) (ih (k + 1) fun i l' hl => ?_)
      have := h (i + 1) l' hl
      rw [show k + 1 + i + 1 = k + (i + 1) + 1 by omega]
      exact this
  have := go f 0 fun i l h => by rw [Nat.zero_add]; exact omL_get h
  rw [← List.range_eq_range'] at this
  exact this
def R_l_letters_by (ds : List PyData) (r : Res Er) : Prop := ∃ (hands : Int) (rows : List Row) (f : List Let), ds = [dRows rows] ∧ lettersM hands rows = .ok f ∧ r = .ok (.list (f.map dLetL))
abbrev sp_l_letters_by (K : PySem.W.Frag) (C : Er → Addr) : Sp := Pr C R_l_letters_by
theorem len_l_letters_by {ds : List PyData} {r : Res Er} (h : R_l_letters_by ds r) : ds.length = 1 := by
  obtain ⟨f, x, _, rfl, _⟩ := h; rfl
theorem at_row {rows : List Row} {k : Nat} {r : Row} (h : rows[k]? = some r) : atI (rows.map fun r => A.dat (dRow r)) (k : Int) = some (.dat (dRow r)) := at_nat (Int.natCast_nonneg _) (by rw [Int.toNat_natCast, List.getElem?_map, h]; rfl)
theorem shw_send : SeqAt.shaped (.str wSend) = true := by decide +kernel
theorem shw_got : SeqAt.shaped (.str wGot) = true := by decide +kernel
theorem shw_note : SeqAt.shaped (.str wNote) = true := by decide +kernel
theorem wk_l_letters_by (K : PySem.W.Frag) (C : Er → Addr) (H : Hp) (ds : List PyData) (r : Res Er) (h : R_l_letters_by ds r) : SX H (t_l_letters_by K) (entry ds 2) [] (HandR r) := by
  obtain ⟨hands, rows, f, rfl, hf, rfl⟩ := h
  obtain ⟨_, _, hz, hgo⟩ := lettersM_ok hf
  show SX H (t_l_letters_by K) [some (.arg (dRows rows)), none, none] [] _
  unfold t_l_letters_by
  walk_at "y"
  refine el_own (el_lst ?_)
  walk_at "y"
  refine ⟨szOk (by decide), ?_⟩
  walk_at "y"
  refine sx_forP (xs := List.range rows.length) (it := fun _ c => .dat (.int (c : Nat))) (fun pre δ ω => ∃ a f1, δ = [some (.arg (dRows rows)), some (.ptr 0), a] ∧ ω = omL f1 ∧ goL hands 0 [] (rows.take pre.length) = .ok f1) ?_ ?_ ?_
  · walk_at "y"
    refine ec_len (itm_rows rows) ?_
    walk_at "y"
    refine ⟨_, rfl, by rw [List.length_map]; omega, ?_⟩
    rw [List.length_map]
    exact ⟨map_idx _ _, ⟨none, [], rfl, rfl, rfl⟩, fun _ _ _ _ => trivial⟩
  · rintro pre x post δ ω e ⟨a, f1, rfl, rfl, hf1⟩
    obtain ⟨rfl, hpl⟩ := range_mid e
    obtain ⟨r, hr⟩ : ∃ r, rows[pre.length]? = some r := ⟨_, List.getElem?_eq_getElem hpl⟩
    obtain ⟨f1', f2, hf1', hst, hf2⟩ := goL_at hgo hr
    rw [hf1] at hf1'
    cases hf1'
    have hfl := goL_len hf1
    rw [List.length_take, List.length_nil] at hfl
    refine ⟨_, gx_name, ?_⟩
    rw [List.length_append, List.length_singleton]
    have row : ∀ {ω : Om}, Itm K H ω (.arg (dRows rows)) (rows.map fun r => .dat (dRow r)) := itm_rows rows
    have hat := at_row hr
    have ten : ∀ (w : Str) (ns : List Int), r = .mk w ns → dRow r = .tuple (.str w :: ns.map .int) := fun w ns e => by rw [e]; rfl
    cases hst with
    | @send h t h1 h2 =>
      walk_at "yi"
      refine eb_ixUL row hat ?_
      walk_at "y"
      refine eb_ixUT (.dat _) (d := .str wSend) at_cons ?_
      walk_at "y"
      refine eb_eqS shw_send shw_send ?_
      refine ⟨_, rfl, fun _ => ?_, fun z => absurd rfl (of_decide_eq_false z)⟩
      walk_at "y"
      refine ⟨0, _, rfl, rfl, ?_⟩
      walk_at "y"
      refine el_own (el_lst ?_)
      walk_at "y"
      refine eb_ixUL row hat ?_
      walk_at "y"
      refine eb_ixUT (.dat _) (d := .int h) (at_ns (ns := [h, t]) (j := 0) rfl) ?_
      walk_at "y"
      refine eb_ixUL row hat ?_
      walk_at "y"
      refine eb_ixUT (.dat _) (d := .int t) (at_ns (ns := [h, t]) (j := 1) rfl) ?_
      walk_at "y"
      refine ⟨szOk (by simp), ?_⟩
      walk_at "y"
      refine ⟨_, _, rfl, rfl, szLt (by rw [List.length_map, List.length_range]; omega), ?_⟩
      walk_at "y"
      refine eb_ixUL row hat ?_
      walk_at "y"
      refine eb_ixUT (.dat _) (d := .str wSend) at_cons ?_
      walk_at "y"
      refine eb_eqS shw_send shw_got ?_
      refine ⟨_, rfl, fun z => absurd (of_decide_eq_true z) ne_sg, fun _ => ?_⟩
      walk_at "y"
      refine ⟨_, _, rfl, omL_snoc f1 ⟨h, t, pre.length, none⟩, hf2⟩
    | @got h l y h1 hy ht hg =>
      have hl := (List.getElem?_eq_some_iff.mp hy).1
      walk_at "yi"
      refine eb_ixUL row hat ?_
      walk_at "y"
      refine eb_ixUT (.dat _) (d := .str wGot) at_cons ?_
      walk_at "y"
      refine eb_eqS shw_got shw_send ?_
      refine ⟨_, rfl, fun z => absurd (of_decide_eq_true z) ne_gs, fun _ => ?_⟩
      walk_at "y"
      refine eb_ixUL row hat ?_
      walk_at "y"
      refine eb_ixUT (.dat _) (d := .str wGot) at_cons ?_
      walk_at "y"
      refine eb_eqS shw_got shw_got ?_
      refine ⟨_, rfl, fun _ => ?_, fun z => absurd rfl (of_decide_eq_false z)⟩
      walk_at "y"
      refine eb_ixUL row hat ?_
      walk_at "y"
      refine eb_ixUT (.dat _) (d := .int (l : Int)) (at_ns (ns := [h, (l : Int)]) (j := 1) rfl) ?_
      refine eb_ixUL (.ptr rfl) (c := .ptr (l + 1)) (at_nat (Int.natCast_nonneg _) (by rw [Int.toNat_natCast, List.getElem?_map, List.getElem?_range hl]; rfl)) ?_
      walk_at "y"
      refine ⟨l + 1, 3, 3, _, rfl, rfl, omL_get hy, rfl, ?_⟩
      refine ⟨_, _, rfl, omL_set f1 l { y with g := some pre.length }, hf2⟩
    | @note h h1 =>
      walk_at "yi"
      refine eb_ixUL row hat ?_
      walk_at "y"
      refine eb_ixUT (.dat _) (d := .str wNote) at_cons ?_
      walk_at "y"
      refine eb_eqS shw_note shw_send ?_
      refine ⟨_, rfl, fun z => absurd (of_decide_eq_true z) ne_ns, fun _ => ?_⟩
      walk_at "y"
      refine eb_ixUL row hat ?_
      walk_at "y"
      refine eb_ixUT (.dat _) (d := .str wNote) at_cons ?_
      walk_at "y"
      refine eb_eqS shw_note shw_got ?_
      refine ⟨_, rfl, fun z => absurd (of_decide_eq_true z) ne_ng, fun _ => ?_⟩
      walk_at "y"
      exact ⟨_, _, rfl, rfl, hf2⟩
  · rintro δ ω ⟨a, f1, rfl, rfl, hf1⟩
    walk_at "y"
    rw [range_done, List.take_length, hgo] at hf1
    cases hf1
    exact fin_omL f
end Y

namespace Y
open PySem PySem.Spec L2
local macro_rules | `(tactic| walk_at "y1") => `(tactic| first
  | (fail_if_success (with_reducible show SX _ (tSeq (tIfS _ _ _) _) _ _ _)); (with_reducible refine sx_seq ?_)
  | with_reducible refine sx_asg ?_
  | with_reducible refine sx_if ?_
  | with_reducible refine sx_ret ?_
  | with_reducible refine sx_retN ?_
  | with_reducible refine sx_next ?_
  | with_reducible refine sx_app ?_
  | with_reducible refine sx_clear ?_
  | with_reducible refine sx_setL ?_
  | with_reducible refine sx_dput ?_
  | with_reducible refine sx_drop ?_
  | with_reducible refine eg_var (by with_unfolding_all rfl) ?_
  | with_reducible refine eg_int ?_
  | with_reducible refine eg_bl ?_
  | with_reducible refine eg_str ?_
  | with_reducible refine eg_non ?_
  | with_reducible refine eg_raw ?_
  | with_reducible refine eg_op ?_
  | with_reducible refine eg_cb ?_
  | with_reducible refine eg_tup ?_
  | with_reducible refine eg_isN ?_
  | with_reducible refine eg_notN ?_
  | with_reducible refine eg_and ?_
  | with_reducible refine eg_or ?_
  | with_reducible refine eg_not ?_
  | with_reducible refine eg_dnew ?_
  | with_reducible refine eg_dget ?_
  | with_reducible refine eg_dnotin ?_
  | with_reducible refine eg_un ?_
  | with_reducible refine eg_partsNot ?_
  | with_reducible refine eg_partsIx ?_
  | with_reducible refine et_test ?_
  | with_reducible refine et_B ?_
  | with_reducible refine et_not ?_
  | with_reducible refine et_and ?_
  | with_reducible refine et_or ?_
  | with_reducible refine et_yes ?_
  | with_reducible refine ea_nil ?_
  | with_reducible refine ea_cons ?_
  | with_reducible refine el_lst ?_
  | with_reducible refine el_slL ?_
  | with_reducible refine el_op ?_
  | with_reducible refine el_cb ?_
  | with_reducible refine el_lstRev ?_
  | with_reducible refine el_rng ?_
  | with_reducible refine eo_none ?_
  | with_reducible refine eo_some ?_
  | with_reducible refine sr_list ?_
  | with_reducible refine sr_rng ?_
  | with_reducible refine sr_enum ?_
  | with_reducible refine eb_add ?_
  | with_reducible refine eb_sub ?_
  | with_reducible refine eb_fdivL (by decide) (by decide) ?_
  | with_reducible refine eb_mulL (by decide) (by decide) ?_
  | with_reducible refine eb_mulR (by decide) (by decide) ?_
  | with_reducible refine eb_powL (by decide) (by decide) (by decide) ?_
  | with_reducible refine eb_mod (by decide) ?_
  | with_reducible refine eb_lt ?_
  | with_reducible refine eb_le ?_
  | with_reducible refine eb_gt ?_
  | with_reducible refine eb_ge ?_
  | with_reducible refine eb_eqI ?_
  | with_reducible refine eb_neI ?_
  | with_reducible refine eb_eqB ?_)
local macro_rules | `(tactic| walk_at "y1") => `(tactic| first
  | with_reducible refine call_cell ?_
  | with_reducible refine Exists.intro _ (Exists.intro _ (Exists.intro _ (And.intro (Eq.refl [A.raw (V.ref _), A.dat (PyData.int _)]) (And.intro (by assumption) (And.intro (by first | decide | omega) ?_))))))
local macro_rules | `(tactic| walk_at "y") => `(tactic| (repeat' (walk_at "y1")))
local macro_rules | `(tactic| walk_at "yi") => `(tactic| ((repeat' (walk_at "y1")); (with_reducible refine sx_seq ?_); (repeat' (walk_at "y1"))))


/-! ### the names of the refusals -/
def erName : Er → Str
  | .NoHands => PySem.Str.ofString "NoHands"
  | .TooMany => PySem.Str.ofString "TooMany"
  | .NoRow => PySem.Str.ofString "NoRow"
  | .NoHand => PySem.Str.ofString "NoHand"
  | .NoLetter => PySem.Str.ofString "NoLetter"
  | .GotTwice => PySem.Str.ofString "GotTwice"
  | .NoLine => PySem.Str.ofString "NoLine"
  | .Unsound => PySem.Str.ofString "Unsound"
def noName : Str := PySem.Str.ofString ""
/-- how a thing ends, by name -/
def endName : Option Er → Str
  | none => noName
  | some e => erName e
def erOf {α : Type} : Except Er α → Option Er
  | .ok _ => none
  | .error e => some e
theorem sh_end (o : Option Er) : SeqAt.shaped (.str (endName o)) = true := by
  cases o with
  | none => decide +kernel
  | some e => cases e <;> decide +kernel
theorem endName_inj {o p : Option Er} (h : endName o = endName p) : o = p := by
  revert h
  cases o with
  | none => cases p with
    | none => intro _; rfl
    | some e => cases e <;> decide +kernel
  | some d => cases p with
    | none => cases d <;> decide +kernel
    | some e => cases d <;> cases e <;> first | (intro _; rfl) | decide +kernel
def XmOk (K : PySem.W.Frag) (C : Er → Addr) (es : List Er) : Prop := ∀ e ∈ es, ∀ h ∈ es, PySem.W.exmOne K (.ref (C e)) (.ref (C h)) = some (decide (e = h))
def IsOk (K : PySem.W.Frag) (C : Er → Addr) (cL : Addr) (es : List Er) : Prop := ∀ e ∈ es, IsE K cL (C e)
theorem took_of {K : PySem.W.Frag} {C : Er → Addr} {e : Er} : ∀ {L : List Er}, (∀ h ∈ L, PySem.W.exmOne K (.ref (C e)) (.ref (C h)) = some (decide (e = h))) → e ∈ L → Took K (.ref (C e)) (L.map fun h => (C h, erName h)) (erName e)
  | [], _, h => by cases h
  | h :: L, hx, hm => by
    by_cases c : e = h
    · subst c
      refine .inl ⟨?_, rfl⟩
      have := hx e List.mem_cons_self
      rw [decide_eq_true rfl] at this
      exact this
    · refine .inr ⟨?_, took_of (fun h hh => hx h (List.mem_cons_of_mem _ hh)) ?_⟩
      · have := hx h List.mem_cons_self
        rw [decide_eq_false c] at this
        exact this
      · rcases List.mem_cons.mp hm with z | z
        · exact absurd z c
        · exact z
abbrev es6 : List Er := [.NoHands, .TooMany, .NoRow, .NoHand, .NoLetter, .GotTwice]
abbrev es7 : List Er := [.NoHands, .TooMany, .NoRow, .NoHand, .NoLetter, .GotTwice, .NoLine]
abbrev es8 : List Er := [.NoHands, .TooMany, .NoRow, .NoHand, .NoLetter, .GotTwice, .NoLine, .Unsound]
theorem needRow_er {x : Row} {e : Er} (h : needRow x = some e) : e ∈ es6 := by
  cases x with
  | emp => cases h; decide
  | mk w ns =>
    simp only [needRow] at h
    split at h
    · split at h
      · cases h
      · cases h; decide
    · cases h; decide
theorem needHand_erX {n x : Int} {e : Er} (h : needHand n x = some e) : e = .NoHand := by
  unfold needHand at h
  split at h
  · cases h; rfl
  · cases h
theorem needLetter_er {f : List Let} {x l : Int} {e : Er} (h : needLetter f x l = some e) : e ∈ es6 := by
  unfold needLetter at h
  split at h
  · cases h; decide
  · split at h
    · cases h; decide
    · split at h
      · split at h
        · cases h
        · cases h; decide
      · cases h; decide
theorem stepL_er {n : Int} {k : Nat} {f : List Let} {x : Row} {e : Er} (h : stepL n k f x = .error e) : e ∈ es6 := by
  unfold stepL at h
  split at h
  · rename_i e' he
    cases h
    exact needRow_er he
  · split at h
    · cases h; decide
    · simp only at h
      split at h
      · rename_i e' he
        cases h
        rw [needHand_erX he]
        decide
      · split at h
        · split at h
          · rename_i e' he
            cases h
            rw [needHand_erX he]
            decide
          · cases h
        · split at h
          · split at h
            · rename_i e' he
              cases h
              exact needLetter_er he
            · cases h
          · cases h
theorem goL_er {n : Int} : ∀ {rows : List Row} {k : Nat} {f : List Let} {e : Er}, goL n k f rows = .error e → e ∈ es6
  | [], k, f, e, h => by cases h
  | r :: rows, k, f, e, h => by
    simp only [goL] at h
    split at h
    · rename_i e' he
      cases h
      exact stepL_er he
    · exact goL_er h
theorem letters_er {n : Int} {rows : List Row} {e : Er} (h : lettersM n rows = .error e) : e ∈ es6 := by
  unfold lettersM at h
  split at h
  · cases h; decide
  · split at h
    · cases h; decide
    · exact goL_er h
theorem es67 {e : Er} (h : e ∈ es6) : e ∈ es7 := by
  simp only [List.mem_cons, List.not_mem_nil, or_false] at h ⊢
  rcases h with h | h | h | h | h | h <;> simp [h]
theorem es78 {e : Er} (h : e ∈ es7) : e ∈ es8 := by
  simp only [List.mem_cons, List.not_mem_nil, or_false] at h ⊢
  rcases h with h | h | h | h | h | h | h <;> simp [h]
/-! ### k02's three defs -/
def R_l_refusal (ds : List PyData) (r : Res Er) : Prop := ∃ (hands : Int) (rows : List Row), ds = [.int hands, dRows rows] ∧ r = .ok (.str (endName (erOf (lettersM hands rows))))
abbrev sp_l_refusal (K : PySem.W.Frag) (C : Er → Addr) : Sp := Pr C R_l_refusal
abbrev sp_l_turned (K : PySem.W.Frag) (C : Er → Addr) : Sp := Pr C R_l_refusal
theorem len_l_refusal {ds : List PyData} {r : Res Er} (h : R_l_refusal ds r) : ds.length = 2 := by
  obtain ⟨_, _, rfl, _⟩ := h; rfl
theorem len_l_turned {ds : List PyData} {r : Res Er} (h : R_l_refusal ds r) : ds.length = 2 := len_l_refusal h
theorem wk_l_refusal (K : PySem.W.Frag) (C : Er → Addr) (X : XmOk K C es6) (H : Hp) (ds : List PyData) (r : Res Er) (h : R_l_refusal ds r) : SX H (t_l_refusal K (sp_letters K C) (C .NoHands) (C .TooMany) (C .NoRow) (C .NoHand) (C .NoLetter) (C .GotTwice)) (entry ds 0) [] (HandR r) := by
  obtain ⟨hands, rows, rfl, rfl⟩ := h
  show SX H (t_l_refusal K (sp_letters K C) (C .NoHands) (C .TooMany) (C .NoRow) (C .NoHand) (C .NoLetter) (C .GotTwice)) [some (.dat (.int hands)), some (.arg (dRows rows))] [] _
  unfold t_l_refusal
  refine sx_seq (sx_tryM ?_)
  walk_at "y"
  refine ⟨_, _, .cons (.dat _) (.cons (.arg _) .nil), ⟨hands, rows, rfl, rfl⟩, ?_⟩
  cases hl : lettersM hands rows with
  | ok f =>
    show SX H _ _ _ _
    walk_at "y"
    exact .dat _
  | error e =>
    have he := letters_er hl
    exact ⟨erName e, took_of (L := es6) (X e he) he, .dat _⟩
theorem wk_l_turned (K : PySem.W.Frag) (C : Er → Addr) (X : XmOk K C es6) (H : Hp) (ds : List PyData) (r : Res Er) (h : R_l_refusal ds r) : SX H (t_l_turned K (sp_letters K C) (C .GotTwice) (C .NoLetter) (C .NoHand) (C .NoRow) (C .TooMany) (C .NoHands)) (entry ds 0) [] (HandR r) := by
  obtain ⟨hands, rows, rfl, rfl⟩ := h
  show SX H (t_l_turned K (sp_letters K C) (C .GotTwice) (C .NoLetter) (C .NoHand) (C .NoRow) (C .TooMany) (C .NoHands)) [some (.dat (.int hands)), some (.arg (dRows rows))] [] _
  unfold t_l_turned
  refine sx_seq (sx_tryM ?_)
  walk_at "y"
  refine ⟨_, _, .cons (.dat _) (.cons (.arg _) .nil), ⟨hands, rows, rfl, rfl⟩, ?_⟩
  cases hl : lettersM hands rows with
  | ok f =>
    show SX H _ _ _ _
    walk_at "y"
    exact .dat _
  | error e =>
    have he := letters_er hl
    refine ⟨erName e, took_of (L := [.GotTwice, .NoLetter, .NoHand, .NoRow, .TooMany, .NoHands]) (fun h hh => X e he h ?_) ?_, .dat _⟩
    · simp only [List.mem_cons, List.not_mem_nil, or_false] at hh ⊢
      rcases hh with h | h | h | h | h | h <;> simp [h]
    · simp only [List.mem_cons, List.not_mem_nil, or_false] at he ⊢
      rcases he with h | h | h | h | h | h <;> simp [h]
def R_l_refused_by_any (ds : List PyData) (r : Res Er) : Prop := ∃ (hands : Int) (rows : List Row), ds = [.int hands, dRows rows] ∧ r = .ok (.bool (erOf (lettersM hands rows)).isSome)
abbrev sp_l_refused_by_any (K : PySem.W.Frag) (C : Er → Addr) : Sp := Pr C R_l_refused_by_any
theorem len_l_refused_by_any {ds : List PyData} {r : Res Er} (h : R_l_refused_by_any ds r) : ds.length = 2 := by
  obtain ⟨_, _, rfl, _⟩ := h; rfl
theorem wk_l_refused_by_any (K : PySem.W.Frag) (C : Er → Addr) (cL : Addr) (X : IsOk K C cL es6) (H : Hp) (ds : List PyData) (r : Res Er) (h : R_l_refused_by_any ds r) : SX H (t_l_refused_by_any K (sp_letters K C) cL) (entry ds 1) [] (HandR r) := by
  obtain ⟨hands, rows, rfl, rfl⟩ := h
  show SX H (t_l_refused_by_any K (sp_letters K C) cL) [some (.dat (.int hands)), some (.arg (dRows rows)), none] [] _
  unfold t_l_refused_by_any
  refine sx_seq (sx_tryA (by simp) ?_)
  walk_at "y"
  refine ⟨_, _, .cons (.dat _) (.cons (.arg _) .nil), ⟨hands, rows, rfl, rfl⟩, ?_⟩
  cases hl : lettersM hands rows with
  | ok f =>
    show SX H _ _ _ _
    walk_at "y"
    exact .dat _
  | error e => exact ⟨X e (letters_er hl), .dat _⟩
end Y

namespace Y
open PySem PySem.Spec L2
local macro_rules | `(tactic| walk_at "y1") => `(tactic| first
  | (fail_if_success (with_reducible show SX _ (tSeq (tIfS _ _ _) _) _ _ _)); (with_reducible refine sx_seq ?_)
  | with_reducible refine sx_asg ?_
  | with_reducible refine sx_if ?_
  | with_reducible refine sx_ret ?_
  | with_reducible refine sx_retN ?_
  | with_reducible refine sx_next ?_
  | with_reducible refine sx_app ?_
  | with_reducible refine sx_clear ?_
  | with_reducible refine sx_setL ?_
  | with_reducible refine sx_dput ?_
  | with_reducible refine sx_drop ?_
  | with_reducible refine eg_var (by with_unfolding_all rfl) ?_
  | with_reducible refine eg_int ?_
  | with_reducible refine eg_bl ?_
  | with_reducible refine eg_str ?_
  | with_reducible refine eg_non ?_
  | with_reducible refine eg_raw ?_
  | with_reducible refine eg_op ?_
  | with_reducible refine eg_cb ?_
  | with_reducible refine eg_tup ?_
  | with_reducible refine eg_isN ?_
  | with_reducible refine eg_notN ?_
  | with_reducible refine eg_and ?_
  | with_reducible refine eg_or ?_
  | with_reducible refine eg_not ?_
  | with_reducible refine eg_dnew ?_
  | with_reducible refine eg_dget ?_
  | with_reducible refine eg_dnotin ?_
  | with_reducible refine eg_un ?_
  | with_reducible refine eg_partsNot ?_
  | with_reducible refine eg_partsIx ?_
  | with_reducible refine et_test ?_
  | with_reducible refine et_B ?_
  | with_reducible refine et_not ?_
  | with_reducible refine et_and ?_
  | with_reducible refine et_or ?_
  | with_reducible refine et_yes ?_
  | with_reducible refine ea_nil ?_
  | with_reducible refine ea_cons ?_
  | with_reducible refine el_lst ?_
  | with_reducible refine el_slL ?_
  | with_reducible refine el_op ?_
  | with_reducible refine el_cb ?_
  | with_reducible refine el_lstRev ?_
  | with_reducible refine el_rng ?_
  | with_reducible refine eo_none ?_
  | with_reducible refine eo_some ?_
  | with_reducible refine sr_list ?_
  | with_reducible refine sr_rng ?_
  | with_reducible refine sr_enum ?_
  | with_reducible refine eb_add ?_
  | with_reducible refine eb_sub ?_
  | with_reducible refine eb_fdivL (by decide) (by decide) ?_
  | with_reducible refine eb_mulL (by decide) (by decide) ?_
  | with_reducible refine eb_mulR (by decide) (by decide) ?_
  | with_reducible refine eb_powL (by decide) (by decide) (by decide) ?_
  | with_reducible refine eb_mod (by decide) ?_
  | with_reducible refine eb_lt ?_
  | with_reducible refine eb_le ?_
  | with_reducible refine eb_gt ?_
  | with_reducible refine eb_ge ?_
  | with_reducible refine eb_eqI ?_
  | with_reducible refine eb_neI ?_
  | with_reducible refine eb_eqB ?_)
local macro_rules | `(tactic| walk_at "y1") => `(tactic| first
  | with_reducible refine call_cell ?_
  | with_reducible refine Exists.intro _ (Exists.intro _ (Exists.intro _ (And.intro (Eq.refl [A.raw (V.ref _), A.dat (PyData.int _)]) (And.intro (by assumption) (And.intro (by first | decide | omega) ?_))))))
local macro_rules | `(tactic| walk_at "y") => `(tactic| (repeat' (walk_at "y1")))
local macro_rules | `(tactic| walk_at "yi") => `(tactic| ((repeat' (walk_at "y1")); (with_reducible refine sx_seq ?_); (repeat' (walk_at "y1"))))


/-! ### _law_broken: plain -/
def isSendB : Row → Bool
  | .emp => false
  | .mk w _ => decide (w = wSend)
theorem isSendB_s (h t : Int) : isSendB (.send h t) = true := show decide (wSend = wSend) = true from decide_eq_true rfl
theorem sends_count {hands : Int} : ∀ {rows : List Row} {k : Nat} {f f' : List Let}, goL hands k f rows = .ok f' → f'.length = f.length + (rows.filter isSendB).length
  | [], k, f, f', h => by cases h; rfl
  | r :: rows, k, f, f', h => by
    simp only [goL] at h
    split at h
    · cases h
    · rename_i f1 h1
      have ih := sends_count h
      have st := stepOk_of h1
      cases st with
      | send a b =>
        rw [List.filter_cons, if_pos (isSendB_s _ _), List.length_cons]
        rw [List.length_append, List.length_singleton] at ih
        omega
      | got a hy ht hg =>
        rw [List.filter_cons, if_neg (show ¬ isSendB (Row.got _ _) = true from fun z => ne_gs (of_decide_eq_true z))]
        rw [List.length_set] at ih
        exact ih
      | note a =>
        rw [List.filter_cons, if_neg (show ¬ isSendB (Row.note _) = true from fun z => ne_ns (of_decide_eq_true z))]
        exact ih
def wNoted : Str := PySem.Str.ofString "noted"
theorem not_noted : isWord wNoted = false := by decide +kernel
def handB (n : Int) (c : Int) : Int := c / 10 % n
def farB (n : Int) (c : Int) : Int := if c / 90 % 2 = 0 then n + c / 10 % 9 else -1 - c / 10 % 9
def oddB (n : Int) (c : Int) : Row :=
  if c / 90 % 5 = 0 then .mk wNote [] else if c / 90 % 5 = 1 then .mk wGot [handB n c] else if c / 90 % 5 = 2 then .mk wNote [handB n c, 0] else if c / 90 % 5 = 3 then .mk wSend [handB n c, handB n c, 0] else .emp
def lostB (c : Int) : Int := if c / 90 % 2 = 0 then 1000 else -1
def rowB (n : Int) (c : Int) : Row :=
  if c % 10 = 4 then oddB n c else if c % 10 = 5 then .mk wNoted [handB n c] else if c % 10 = 6 then .note (farB n c) else if c % 10 = 7 then .send (handB n c) (farB n c) else if c % 10 = 8 then .got (handB n c) (lostB c) else oddB n c
def dueB (c : Int) : Er := if c % 10 = 4 then .NoRow else if c % 10 = 5 then .NoRow else if c % 10 = 6 then .NoHand else if c % 10 = 7 then .NoHand else if c % 10 = 8 then .NoLetter else .NoRow
def atB (c : Int) (len : Nat) : Int := c / 180 % ((len : Int) + 1)
structure Bm where
  n : Int
  rows : Option (List Row)
  due : Er
def brokenM (n : Int) (rows : List Row) (s : Nat) (c : Int) : Bm :=
  if c % 10 = 0 then ⟨0, none, .NoHands⟩
  else if c % 10 = 1 then ⟨41 + c / 10 % 9, none, .NoHands⟩
  else if c % 10 = 2 then ⟨n, some (rows ++ List.replicate (1001 - rows.length) (.note (handB n c))), .TooMany⟩
  else if c % 10 = 3 then ⟨n, some (rows ++ [.send 0 (handB n c), .got (handB n c) (s : Int), .got (handB n c) (s : Int)]), .GotTwice⟩
  else if c % 10 = 4 ∧ 1 < n then ⟨n, some (rows ++ [.send 0 (handB n c), .got ((handB n c + 1) % n) (s : Int)]), .NoLetter⟩
  else ⟨n, some (rows.take (atB c rows.length).toNat ++ [rowB n c] ++ rows.drop (atB c rows.length).toNat), dueB c⟩
theorem needRow_bad {w : Str} {ns : List Int} (h : isWord w = false) : needRow (.mk w ns) = some .NoRow := by simp [needRow, h]
theorem needRow_len {w : Str} {ns : List Int} (hw : isWord w = true) (h : ¬ (ns.length : Int) + 1 = partsOf w) : needRow (.mk w ns) = some .NoRow := by simp [needRow, hw, h]
theorem odd_bad (n c : Int) : needRow (oddB n c) = some .NoRow := by
  unfold oddB
  split
  · exact needRow_len isW_note (by rw [po_note]; simp)
  split
  · exact needRow_len isW_got (by rw [po_got]; simp)
  split
  · exact needRow_len isW_note (by rw [po_note]; simp)
  split
  · exact needRow_len isW_send (by rw [po_send]; simp)
  · rfl
theorem step_row {n : Int} {k : Nat} {f : List Let} {x : Row} {e : Er} (h : needRow x = some e) : stepL n k f x = .error e := by simp only [stepL, h]
theorem far_bad {n : Int} (hn : 0 ≤ n) (c : Int) : needHand n (farB n c) = some .NoHand := by
  have h0 : 0 ≤ c / 10 % 9 := Int.emod_nonneg _ (by decide)
  unfold farB needHand
  split
  · rw [if_pos (by omega)]
  · rw [if_pos (by omega)]
theorem step_note {n x : Int} {k : Nat} {f : List Let} (h : needHand n x = some .NoHand) : stepL n k f (.note x) = .error .NoHand := by
  simp only [stepL, needRow_note, List.getD_cons_zero, h]
theorem step_send2 {n x y : Int} {k : Nat} {f : List Let} (h1 : needHand n x = none) (h : needHand n y = some .NoHand) : stepL n k f (.send x y) = .error .NoHand := by
  simp only [stepL, needRow_send, List.getD_cons_zero, List.getD_cons_succ, h1, h, if_true]
theorem step_got2 {n x l : Int} {k : Nat} {f : List Let} {e : Er} (h1 : needHand n x = none) (h : needLetter f x l = some e) : stepL n k f (.got x l) = .error e := by
  simp only [stepL, needRow_got, List.getD_cons_zero, List.getD_cons_succ, h1, h, if_true]
  rw [if_neg ne_gs]
theorem hand_ok {n : Int} (hn : 1 ≤ n) (c : Int) : 0 ≤ handB n c ∧ handB n c < n := ⟨Int.emod_nonneg _ (by omega), Int.emod_lt_of_pos _ (by omega)⟩
/-- what a broken history is refused with -/
theorem broken_bad {n : Int} {rows : List Row} {f : List Let} (hf : lettersM n rows = .ok f) (hl : rows.length ≤ 900) (c : Int) (tail : List Row) (ht : tail.length ≤ 2) :
    lettersM (brokenM n rows f.length c).n ((match (brokenM n rows f.length c).rows with | none => rows | some rows' => rows') ++ tail) = .error (brokenM n rows f.length c).due := by
  obtain ⟨h1, h2, h3, hgo⟩ := lettersM_ok hf
  have hh := hand_ok h1 c
  have hk := needHand_ok.mpr hh
  have h0 := needHand_ok.mpr (show 0 ≤ (0 : Int) ∧ 0 < n by omega)
  have go : ∀ {rows' : List Row} {e : Er}, rows'.length ≤ 1000 → goL n 0 [] rows' = .error e → lettersM n rows' = .error e := fun {rows' e} hz he => by
    unfold lettersM
    rw [if_neg (by omega), if_neg (by omega)]
    exact he
  have sent : goL n 0 [] (rows ++ [.send 0 (handB n c)]) = .ok (f ++ [⟨0, handB n c, rows.length, none⟩]) := by
    rw [goL_snoc _ _ _ _ _ _ hgo, stepL_send (by omega) hh, Nat.zero_add]
  have lastL : (f ++ [(⟨0, handB n c, rows.length, none⟩ : Let)])[((f.length : Nat) : Int).toNat]? = some ⟨0, handB n c, rows.length, none⟩ := by
    rw [Int.toNat_natCast, List.getElem?_append_right (Nat.le_refl _), Nat.sub_self]
    rfl
  unfold brokenM
  split
  · simp [lettersM]
  split
  · have := Int.emod_nonneg (c / 10) (show (9 : Int) ≠ 0 by decide)
    simp only [lettersM]
    rw [if_pos (by omega)]
  split
  · simp only [lettersM]
    rw [if_neg (by omega), if_pos (by simp only [List.length_append, List.length_replicate]; omega)]
  split
  · refine go (by simp only [List.length_append, List.length_cons, List.length_nil]; omega) ?_
    have gotten : goL n 0 [] (rows ++ [.send 0 (handB n c)] ++ [.got (handB n c) (f.length : Nat)]) = .ok ((f ++ [(⟨0, handB n c, rows.length, none⟩ : Let)]).set ((f.length : Nat) : Int).toNat (⟨0, handB n c, rows.length, some (0 + (rows ++ [Row.send 0 (handB n c)]).length)⟩ : Let)) := by
      rw [goL_snoc _ _ _ _ _ _ sent]
      exact stepL_got hh (Int.natCast_nonneg _) lastL rfl rfl
    have e : rows ++ [Row.send 0 (handB n c), .got (handB n c) (f.length : Nat), .got (handB n c) (f.length : Nat)] ++ tail = (rows ++ [.send 0 (handB n c)] ++ [.got (handB n c) (f.length : Nat)]) ++ Row.got (handB n c) (f.length : Nat) :: tail := by simp
    rw [e]
    refine goL_bad _ _ _ _ _ _ _ _ gotten (step_got2 hk ?_)
    unfold needLetter
    have hlt : f.length < (f ++ [(⟨0, handB n c, rows.length, none⟩ : Let)]).length := by simp
    rw [if_neg (by rw [List.length_set]; omega), Int.toNat_natCast, List.getElem?_set_self hlt]
    simp
  split
  · rename_i hc
    refine go (by simp only [List.length_append, List.length_cons, List.length_nil]; omega) ?_
    have e : rows ++ [Row.send 0 (handB n c), .got ((handB n c + 1) % n) (f.length : Nat)] ++ tail = (rows ++ [.send 0 (handB n c)]) ++ Row.got ((handB n c + 1) % n) (f.length : Nat) :: tail := by simp
    rw [e]
    have h5 : 0 ≤ (handB n c + 1) % n ∧ (handB n c + 1) % n < n := ⟨Int.emod_nonneg _ (by omega), Int.emod_lt_of_pos _ (by omega)⟩
    refine goL_bad _ _ _ _ _ _ _ _ sent (step_got2 (needHand_ok.mpr h5) ?_)
    unfold needLetter
    rw [if_neg (by simp only [List.length_append, List.length_singleton]; omega), lastL]
    have ne : ¬ handB n c = (handB n c + 1) % n := by
      intro z
      by_cases c1 : handB n c + 1 < n
      · rw [Int.emod_eq_of_lt (by omega) c1] at z
        omega
      · have : handB n c + 1 = n := by omega
        rw [this, Int.emod_self] at z
        omega
    simp only [if_neg ne]
  · rename_i k0 k1 k2 k3 k4
    have a0 : 0 ≤ atB c rows.length ∧ atB c rows.length ≤ (rows.length : Int) := by
      unfold atB
      have := Int.emod_nonneg (c / 180) (show (rows.length : Int) + 1 ≠ 0 by omega)
      have := Int.emod_lt_of_pos (c / 180) (show 0 < (rows.length : Int) + 1 by omega)
      omega
    refine go (by simp only [List.length_append, List.length_take, List.length_drop, List.length_cons, List.length_nil]; omega) ?_
    have hg2 := hgo
    rw [← List.take_append_drop (atB c rows.length).toNat rows] at hg2
    obtain ⟨f1, g1, _⟩ := goL_split hg2
    have hfl := goL_len g1
    have e : rows.take (atB c rows.length).toNat ++ [rowB n c] ++ rows.drop (atB c rows.length).toNat ++ tail = rows.take (atB c rows.length).toNat ++ rowB n c :: (rows.drop (atB c rows.length).toNat ++ tail) := by simp
    rw [e]
    refine goL_bad _ _ _ _ _ _ _ _ g1 ?_
    have hfl2 : f1.length ≤ 900 := by
      simp only [List.length_nil, List.length_take] at hfl
      omega
    unfold rowB dueB
    split
    · exact step_row (odd_bad n c)
    split
    · exact step_row (needRow_bad not_noted)
    split
    · exact step_note (far_bad (by omega) c)
    split
    · exact step_send2 hk (far_bad (by omega) c)
    split
    · refine step_got2 hk ?_
      unfold lostB needLetter
      split
      · rw [if_pos (by omega)]
      · rw [if_pos (by omega)]
    · exact step_row (odd_bad n c)
theorem broken_bad2 {n : Int} {rows : List Row} {f : List Let} (hf : lettersM n rows = .ok f) (hl : rows.length ≤ 900) (c : Int) (tail : List Row) (ht : tail.length ≤ 2) :
    lettersM (brokenM n rows f.length c).n ((brokenM n rows f.length c).rows.getD rows ++ tail) = .error (brokenM n rows f.length c).due := by
  have h := broken_bad hf hl c tail ht
  generalize brokenM n rows f.length c = m at h ⊢
  obtain ⟨a, r, e⟩ := m
  cases r with
  | none => exact h
  | some r => exact h
theorem broken_rows {n : Int} {rows rows' : List Row} {s : Nat} {c : Int} (hl : rows.length ≤ 900) (h : (brokenM n rows s c).rows = some rows') : rows'.length ≤ 1001 := by
  unfold brokenM at h
  split at h
  · cases h
  split at h
  · cases h
  split at h
  · cases h
    simp only [List.length_append, List.length_replicate]
    omega
  split at h
  · cases h
    simp only [List.length_append, List.length_cons, List.length_nil]
    omega
  split at h
  · cases h
    simp only [List.length_append, List.length_cons, List.length_nil]
    omega
  · cases h
    simp only [List.length_append, List.length_take, List.length_drop, List.length_cons, List.length_nil]
    omega
end Y

namespace Y
open PySem PySem.Spec L2
local macro_rules | `(tactic| walk_at "y1") => `(tactic| first
  | (fail_if_success (with_reducible show SX _ (tSeq (tIfS _ _ _) _) _ _ _)); (with_reducible refine sx_seq ?_)
  | with_reducible refine sx_asg ?_
  | with_reducible refine sx_if ?_
  | with_reducible refine sx_ret ?_
  | with_reducible refine sx_retN ?_
  | with_reducible refine sx_next ?_
  | with_reducible refine sx_app ?_
  | with_reducible refine sx_clear ?_
  | with_reducible refine sx_setL ?_
  | with_reducible refine sx_dput ?_
  | with_reducible refine sx_drop ?_
  | with_reducible refine eg_var (by with_unfolding_all rfl) ?_
  | with_reducible refine eg_int ?_
  | with_reducible refine eg_bl ?_
  | with_reducible refine eg_str ?_
  | with_reducible refine eg_non ?_
  | with_reducible refine eg_raw ?_
  | with_reducible refine eg_op ?_
  | with_reducible refine eg_cb ?_
  | with_reducible refine eg_tup ?_
  | with_reducible refine eg_isN ?_
  | with_reducible refine eg_notN ?_
  | with_reducible refine eg_and ?_
  | with_reducible refine eg_or ?_
  | with_reducible refine eg_not ?_
  | with_reducible refine eg_dnew ?_
  | with_reducible refine eg_dget ?_
  | with_reducible refine eg_dnotin ?_
  | with_reducible refine eg_un ?_
  | with_reducible refine eg_partsNot ?_
  | with_reducible refine eg_partsIx ?_
  | with_reducible refine et_test ?_
  | with_reducible refine et_B ?_
  | with_reducible refine et_not ?_
  | with_reducible refine et_and ?_
  | with_reducible refine et_or ?_
  | with_reducible refine et_yes ?_
  | with_reducible refine ea_nil ?_
  | with_reducible refine ea_cons ?_
  | with_reducible refine el_lst ?_
  | with_reducible refine el_slL ?_
  | with_reducible refine el_op ?_
  | with_reducible refine el_cb ?_
  | with_reducible refine el_lstRev ?_
  | with_reducible refine el_rng ?_
  | with_reducible refine eo_none ?_
  | with_reducible refine eo_some ?_
  | with_reducible refine sr_list ?_
  | with_reducible refine sr_rng ?_
  | with_reducible refine sr_enum ?_
  | with_reducible refine eb_add ?_
  | with_reducible refine eb_sub ?_
  | with_reducible refine eb_fdivL (by decide) (by decide) ?_
  | with_reducible refine eb_mulL (by decide) (by decide) ?_
  | with_reducible refine eb_mulR (by decide) (by decide) ?_
  | with_reducible refine eb_powL (by decide) (by decide) (by decide) ?_
  | with_reducible refine eb_mod (by decide) ?_
  | with_reducible refine eb_lt ?_
  | with_reducible refine eb_le ?_
  | with_reducible refine eb_gt ?_
  | with_reducible refine eb_ge ?_
  | with_reducible refine eb_eqI ?_
  | with_reducible refine eb_neI ?_
  | with_reducible refine eb_eqB ?_)
local macro_rules | `(tactic| walk_at "y1") => `(tactic| first
  | with_reducible refine call_cell ?_
  | with_reducible refine Exists.intro _ (Exists.intro _ (Exists.intro _ (And.intro (Eq.refl [A.raw (V.ref _), A.dat (PyData.int _)]) (And.intro (by assumption) (And.intro (by first | decide | omega) ?_))))))
local macro_rules | `(tactic| walk_at "y") => `(tactic| (repeat' (walk_at "y1")))
local macro_rules | `(tactic| walk_at "yi") => `(tactic| ((repeat' (walk_at "y1")); (with_reducible refine sx_seq ?_); (repeat' (walk_at "y1"))))


theorem cut_loB {α : Type} (xs : List α) {i : Int} (h0 : 0 ≤ i) (h1 : i ≤ xs.length) : cutA xs none (some i) = xs.take i.toNat := by
  unfold cutA
  have a : HT.sIx xs.length 0 none = 0 := by simp [HT.sIx]
  have b : HT.sIx xs.length xs.length (some i) = i.toNat := by
    simp only [HT.sIx]
    split <;> omega
  rw [a, b, List.drop_zero, Nat.sub_zero]
theorem cut_hiB {α : Type} (xs : List α) {i : Int} (h0 : 0 ≤ i) (h1 : i ≤ xs.length) : cutA xs (some i) none = xs.drop i.toNat := by
  unfold cutA
  have a : HT.sIx xs.length xs.length none = xs.length := by simp [HT.sIx]
  have b : HT.sIx xs.length 0 (some i) = i.toNat := by
    simp only [HT.sIx]
    split <;> omega
  rw [a, b, List.take_of_length_le (by rw [List.length_drop]; exact Nat.le_refl _)]
theorem dat_rowsB (rows : List Row) : (rows.map fun r => A.dat (dRow r)) = (rows.map dRow).map A.dat := by rw [List.map_map]; rfl
theorem rep_flat (n : Nat) (x : A) : (List.replicate n [x]).flatten = List.replicate n x := by
  induction n with
  | zero => rfl
  | succ n ih => rw [List.replicate_succ, List.flatten_cons, ih, List.replicate_succ]; rfl
def toBk (m : Bm) : Bk := ⟨m.n, m.rows.map fun r => dRows r, erName m.due⟩
def R_l_broken (n : Int) (d : PyData) (c : Int) (b : Bk) : Prop := ∃ (rows : List Row) (f : List Let), d = dRows rows ∧ lettersM n rows = .ok f ∧ rows.length ≤ 900 ∧ b = toBk (brokenM n rows f.length c)
abbrev sp_l_broken (K : PySem.W.Frag) (C : Er → Addr) : Sp := PrB C R_l_broken
theorem wk_l_broken (K : PySem.W.Frag) (C : Er → Addr) (H : Hp) (D : Ends) (n : Int) (u : V) (d : PyData) (c : Int) (b : Bk) (hu : Rp H u d) (hR : R_l_broken n d c b) (hQ : BkQ H u b D.rt) : SXD H D (t_l_broken K) (entryB n u c 9) [] := by
  obtain ⟨rows, f, rfl, hf, hl, rfl⟩ := hR
  obtain ⟨h1, h2, h3, hgo⟩ := lettersM_ok hf
  have hcount := sends_count hgo
  rw [List.length_nil, Nat.zero_add] at hcount
  have hneed := goL_need hgo
  have hh := hand_ok h1 c
  have hk0 : 0 ≤ c % 10 ∧ c % 10 < 10 := ⟨Int.emod_nonneg _ (by decide), Int.emod_lt_of_pos _ (by decide)⟩
  show SXD H D (t_l_broken K) [some (.dat (.int n)), some (.raw u), some (.dat (.int c)), none, none, none, none, none, none, none, none, none] []
  unfold t_l_broken
  refine sxd_seq ?_
  walk_at "y"
  refine sxd_seq ?_
  walk_at "y"
  refine eb_mod (by omega) ?_
  refine sxd_seq ?_
  walk_at "y"
  refine el_dat (el_lcL rows (fun r => .dat (dRow r)) (by omega) isSendB dRow ?_ ?_ ?_)
  · exact eg_told rfl hu ⟨rfl, itm_rows rows, fun _ => itm_rows rows⟩
  · rintro r hr ω' ⟨acc, rfl⟩
    obtain ⟨w, ms, rfl, hw, _⟩ := row_word (hneed r hr)
    refine ⟨?_, fun _ => ?_⟩
    · walk_at "y"
      refine eb_ixUT (.dat _) (d := .str w) at_cons ?_
      walk_at "y"
      refine eb_eqS (sh_word hw) shw_send ?_
      exact ⟨_, rfl, rfl, rfl⟩
    · walk_at "y"
      exact ⟨rfl, rfl⟩
  refine ⟨_, rfl, ?_⟩
  walk_at "y"
  refine ec_len (.dat _) ?_
  rw [List.length_map, List.length_map, ← hcount]
  -- kind 0
  refine sxd_ifRet ?_
  walk_at "y"
  refine ⟨_, rfl, fun c0 => ?_, fun c0 => ?_⟩
  · have c0 := of_decide_eq_true c0
    rw [show brokenM n rows f.length c = ⟨0, none, .NoHands⟩ from if_pos c0] at hQ
    refine sxd_ret hQ ?_
    walk_at "y"
    exact ⟨_, rfl, rfl⟩
  have c0 := of_decide_eq_false c0
  -- kind 1
  refine sxd_ifRet ?_
  walk_at "y"
  refine ⟨_, rfl, fun c1 => ?_, fun c1 => ?_⟩
  · have c1 := of_decide_eq_true c1
    rw [show brokenM n rows f.length c = ⟨41 + c / 10 % 9, none, .NoHands⟩ from (if_neg c0).trans (if_pos c1)] at hQ
    refine sxd_ret hQ ?_
    walk_at "y"
    exact ⟨_, rfl, rfl⟩
  have c1 := of_decide_eq_false c1
  refine sxd_conv (δ' := [some (.dat (.int n)), some (.arg (dRows rows)), some (.dat (.int c)), some (.dat (.int (c % 10))), some (.dat (.int (handB n c))), some (.dat (.int (f.length : Nat))), none, none, none, none, none, none]) (fun σ H S => Sta.told (i := 1) rfl hu S) ?_
  -- kind 2
  refine sxd_ifRet ?_
  walk_at "y"
  refine ⟨_, rfl, fun c2 => ?_, fun c2 => ?_⟩
  · have c2 := of_decide_eq_true c2
    rw [show brokenM n rows f.length c = ⟨n, some (rows ++ List.replicate (1001 - rows.length) (.note (handB n c))), .TooMany⟩ from (if_neg c0).trans ((if_neg c1).trans (if_pos c2))] at hQ
    refine sxd_ret hQ ?_
    walk_at "y"
    refine el_dat (el_lst ?_)
    walk_at "y"
    refine ⟨[.str wNote, .int (handB n c)], rfl, szOk (show 2 ≤ 16777216 by decide), ?_⟩
    walk_at "y"
    refine ⟨szOk (by simp), [dRow (.note (handB n c))], rfl, ?_⟩
    walk_at "y"
    refine ec_len (itm_rows rows) ?_
    walk_at "y"
    rw [List.length_map]
    refine eb_dat (ebl_rep (K := K) (.dat _) rfl (by omega) (by omega) (szOk (by simp; omega)) ?_)
    refine ⟨(List.replicate (1001 - rows.length) (Row.note (handB n c))).map dRow, ?_, ?_⟩
    · rw [show ((1001 : Int) - ((rows.length : Nat) : Int)).toNat = 1001 - rows.length by omega, List.map_replicate, List.map_replicate]
      exact rep_flat _ _
    refine eb_dat (ebl_cat (itm_rows rows) (.dat _) rfl rfl (szOk (by simp; omega)) ?_)
    refine ⟨(rows ++ List.replicate (1001 - rows.length) (Row.note (handB n c))).map dRow, by rw [dat_rowsB, List.map_append (f := dRow), List.map_append], ?_⟩
    walk_at "y"
    exact ⟨_, rfl, rfl⟩
  have c2 := of_decide_eq_false c2
  -- kind 3
  refine sxd_ifRet ?_
  walk_at "y"
  refine ⟨_, rfl, fun c3 => ?_, fun c3 => ?_⟩
  · have c3 := of_decide_eq_true c3
    rw [show brokenM n rows f.length c = ⟨n, some (rows ++ [.send 0 (handB n c), .got (handB n c) (f.length : Nat), .got (handB n c) (f.length : Nat)]), .GotTwice⟩ from (if_neg c0).trans ((if_neg c1).trans ((if_neg c2).trans (if_pos c3)))] at hQ
    refine sxd_ret hQ ?_
    walk_at "y"
    refine el_dat (el_lst ?_)
    walk_at "y"
    refine ⟨[.str wSend, .int 0, .int (handB n c)], rfl, szOk (show 3 ≤ 16777216 by decide), ?_⟩
    walk_at "y"
    refine ⟨[.str wGot, .int (handB n c), .int (f.length : Nat)], rfl, szOk (show 3 ≤ 16777216 by decide), ?_⟩
    walk_at "y"
    refine ⟨[.str wGot, .int (handB n c), .int (f.length : Nat)], rfl, szOk (show 3 ≤ 16777216 by decide), ?_⟩
    walk_at "y"
    refine ⟨szOk (by simp), [Row.send 0 (handB n c), .got (handB n c) (f.length : Nat), .got (handB n c) (f.length : Nat)].map dRow, rfl, ?_⟩
    refine eb_dat (ebl_cat (itm_rows rows) (.dat _) rfl rfl (szOk (by simp; omega)) ?_)
    refine ⟨(rows ++ [Row.send 0 (handB n c), .got (handB n c) (f.length : Nat), .got (handB n c) (f.length : Nat)]).map dRow, by rw [dat_rowsB, List.map_append (f := dRow), List.map_append], ?_⟩
    walk_at "y"
    exact ⟨_, rfl, rfl⟩
  have c3 := of_decide_eq_false c3
  -- kind 4 of more than one hand
  refine sxd_ifRet ?_
  have both : ∀ {P : Bool → Prop}, (c % 10 = 4 ∧ 1 < n → P true) → (¬ (c % 10 = 4 ∧ 1 < n) → P false) → if decide (c % 10 = 4) = true then P (decide (1 < n)) else P false := by
    intro P p q
    by_cases a : c % 10 = 4
    · rw [decide_eq_true a]
      by_cases a2 : 1 < n
      · rw [decide_eq_true a2]; exact iteT (p ⟨a, a2⟩)
      · rw [decide_eq_false a2]; exact iteT (q fun z => a2 z.2)
    · rw [decide_eq_false a]; exact iteF (q fun z => a z.1)
  walk_at "y"
  refine ⟨_, rfl, ?_⟩
  by_cases c4 : c % 10 = 4 ∧ 1 < n
  · rw [decide_eq_true c4.1]
    simp only [if_true]
    walk_at "y"
    refine ⟨_, rfl, fun _ => ?_, fun z => absurd c4.2 (of_decide_eq_false z)⟩
    rw [show brokenM n rows f.length c = ⟨n, some (rows ++ [.send 0 (handB n c), .got ((handB n c + 1) % n) (f.length : Nat)]), .NoLetter⟩ from (if_neg c0).trans ((if_neg c1).trans ((if_neg c2).trans ((if_neg c3).trans (if_pos c4))))] at hQ
    refine sxd_ret hQ ?_
    walk_at "y"
    refine el_dat (el_lst ?_)
    walk_at "y"
    refine ⟨[.str wSend, .int 0, .int (handB n c)], rfl, szOk (show 3 ≤ 16777216 by decide), ?_⟩
    walk_at "y"
    refine eb_mod (by omega) ?_
    walk_at "y"
    refine ⟨[.str wGot, .int ((handB n c + 1) % n), .int (f.length : Nat)], rfl, szOk (show 3 ≤ 16777216 by decide), ?_⟩
    walk_at "y"
    refine ⟨szOk (by simp), [Row.send 0 (handB n c), .got ((handB n c + 1) % n) (f.length : Nat)].map dRow, rfl, ?_⟩
    refine eb_dat (ebl_cat (itm_rows rows) (.dat _) rfl rfl (szOk (by simp; omega)) ?_)
    refine ⟨(rows ++ [Row.send 0 (handB n c), .got ((handB n c + 1) % n) (f.length : Nat)]).map dRow, by rw [dat_rowsB, List.map_append (f := dRow), List.map_append], ?_⟩
    walk_at "y"
    exact ⟨_, rfl, rfl⟩
  rw [show brokenM n rows f.length c = ⟨n, some (rows.take (atB c rows.length).toNat ++ [rowB n c] ++ rows.drop (atB c rows.length).toNat), dueB c⟩ from (if_neg c0).trans ((if_neg c1).trans ((if_neg c2).trans ((if_neg c3).trans (if_neg c4))))] at hQ
  -- the rest
  suffices rest : SXD H D _ [some (.dat (.int n)), some (.arg (dRows rows)), some (.dat (.int c)), some (.dat (.int (c % 10))), some (.dat (.int (handB n c))), some (.dat (.int (f.length : Nat))), none, none, none, none, none, none] [] by
    by_cases a : c % 10 = 4
    · rw [decide_eq_true a]
      simp only [if_true]
      walk_at "y"
      exact ⟨_, rfl, fun z => absurd ⟨a, of_decide_eq_true z⟩ c4, fun _ => rest⟩
    · rw [decide_eq_false a]
      simp only [Bool.false_eq_true, if_false]
      exact ⟨fun z => (by cases z), fun _ => rest⟩
  have two : c / 90 % 2 = 0 ∨ c / 90 % 2 = 1 := by omega
  have five : c / 90 % 5 = 0 ∨ c / 90 % 5 = 1 ∨ c / 90 % 5 = 2 ∨ c / 90 % 5 = 3 ∨ c / 90 % 5 = 4 := by omega
  refine sxd_seq ?_
  walk_at "y"
  refine el_dat (el_lst ?_)
  walk_at "y"
  refine eg_un (r := rNeg) (g := fun i => .int (-i)) ?_
  walk_at "y"
  refine ⟨1, .int (-1), rfl, fl_int _, ?_⟩
  walk_at "y"
  refine ⟨szOk (by simp), [.int (n + c / 10 % 9), .int (-1 - c / 10 % 9)], rfl, ?_⟩
  walk_at "y"
  refine eb_ixUL (.dat _) (c := .dat (.int (farB n c))) ?_ ?_
  · unfold farB
    rcases two with e | e
    · rw [e, if_pos rfl]; rfl
    · rw [e, if_neg (by decide)]; rfl
  refine sxd_seq ?_
  walk_at "y"
  refine el_dat (el_lst ?_)
  walk_at "y"
  refine ⟨[.str wNoted, .int (handB n c)], rfl, szOk (show 2 ≤ 16777216 by decide), ?_⟩
  walk_at "y"
  refine ⟨[.str wNoted, .int (handB n c)], rfl, szOk (show 2 ≤ 16777216 by decide), ?_⟩
  walk_at "y"
  refine ⟨[.str wNote, .int (farB n c)], rfl, szOk (show 2 ≤ 16777216 by decide), ?_⟩
  walk_at "y"
  refine ⟨[.str wSend, .int (handB n c), .int (farB n c)], rfl, szOk (show 3 ≤ 16777216 by decide), ?_⟩
  walk_at "y"
  refine ⟨szOk (by simp), [Row.mk wNoted [handB n c], .mk wNoted [handB n c], .note (farB n c), .send (handB n c) (farB n c)].map dRow, rfl, ?_⟩
  refine sxd_seq ?_
  walk_at "y"
  refine el_dat (el_lst ?_)
  walk_at "y"
  refine ⟨[.str wNote], rfl, szOk (show 1 ≤ 16777216 by decide), ?_⟩
  walk_at "y"
  refine ⟨[.str wGot, .int (handB n c)], rfl, szOk (show 2 ≤ 16777216 by decide), ?_⟩
  walk_at "y"
  refine ⟨[.str wNote, .int (handB n c), .int 0], rfl, szOk (show 3 ≤ 16777216 by decide), ?_⟩
  walk_at "y"
  refine ⟨[.str wSend, .int (handB n c), .int (handB n c), .int 0], rfl, szOk (show 4 ≤ 16777216 by decide), ?_⟩
  walk_at "y"
  refine ⟨[], rfl, szOk (show 0 ≤ 16777216 by decide), ?_⟩
  walk_at "y"
  refine ⟨szOk (by simp), [Row.mk wNote [], .mk wGot [handB n c], .mk wNote [handB n c, 0], .mk wSend [handB n c, handB n c, 0], .emp].map dRow, rfl, ?_⟩
  walk_at "y"
  refine eb_ixUL (.dat _) (c := .dat (dRow (oddB n c))) ?_ ?_
  · unfold oddB
    rcases five with e | e | e | e | e
    · rw [e]; rfl
    · rw [e]; rfl
    · rw [e]; rfl
    · rw [e]; rfl
    · rw [e]; rfl
  refine sxd_seq ?_
  walk_at "y"
  refine el_dat (el_lst ?_)
  walk_at "y"
  refine el_dat (el_lst ?_)
  walk_at "y"
  refine eg_un (r := rNeg) (g := fun i => .int (-i)) ?_
  walk_at "y"
  refine ⟨1, .int (-1), rfl, fl_int _, ?_⟩
  walk_at "y"
  refine ⟨szOk (by simp), [.int 1000, .int (-1)], rfl, ?_⟩
  walk_at "y"
  refine eb_ixUL (.dat _) (c := .dat (.int (lostB c))) ?_ ?_
  · unfold lostB
    rcases two with e | e
    · rw [e]; rfl
    · rw [e]; rfl
  walk_at "y"
  refine ⟨[.str wGot, .int (handB n c), .int (lostB c)], rfl, szOk (show 3 ≤ 16777216 by decide), ?_⟩
  walk_at "y"
  refine ⟨szOk (by simp), [Row.got (handB n c) (lostB c), oddB n c].map dRow, rfl, ?_⟩
  refine eb_own (ebl_cat (.dat _) (.dat _) rfl rfl (szOk (by simp)) ?_)
  refine sxd_seq ?_
  walk_at "y"
  refine ec_len (itm_rows rows) ?_
  walk_at "y"
  rw [List.length_map]
  refine eb_mod (by omega) ?_
  have hat : 0 ≤ atB c rows.length ∧ atB c rows.length ≤ (rows.length : Int) := by
    unfold atB
    have := Int.emod_nonneg (c / 180) (show (rows.length : Int) + 1 ≠ 0 by omega)
    have := Int.emod_lt_of_pos (c / 180) (show 0 < (rows.length : Int) + 1 by omega)
    omega
  refine sxd_seq ?_
  walk_at "y"
  refine el_dat (el_lst ?_)
  walk_at "y"
  refine ⟨szOk (by simp), [Er.NoRow, .NoRow, .NoHand, .NoHand, .NoLetter, .NoRow].map (fun e => .str (erName e)), rfl, ?_⟩
  walk_at "y"
  have six : c % 10 = 4 ∨ c % 10 = 5 ∨ c % 10 = 6 ∨ c % 10 = 7 ∨ c % 10 = 8 ∨ c % 10 = 9 := by omega
  refine eb_ixUL (.dat _) (c := .dat (.str (erName (dueB c)))) ?_ ?_
  · unfold dueB
    rcases six with e | e | e | e | e | e
    · rw [e]; rfl
    · rw [e]; rfl
    · rw [e]; rfl
    · rw [e]; rfl
    · rw [e]; rfl
    · rw [e]; rfl
  have fin : ∀ L : List A, atI L (c % 10 - 4) = some (.dat (dRow (rowB n c))) → SXD H D (tRet (tTup (tCons (tVar 0) (tCons (tOp (rAddU K) (tOp (rAddU K) (tSl (rSlU K) (tVar 1) tNoPart (tPart (tVar 9))) (tLst (tCons (tOp (rIx K) (tVar 7) (tOp rSub (tVar 3) (tC (.int 4)))) tNil))) (tSl (rSlU K) (tVar 1) (tPart (tVar 9)) tNoPart)) (tCons (tVar 10) tNil)))))
      [some (.dat (.int n)), some (.arg (dRows rows)), some (.dat (.int c)), some (.dat (.int (c % 10))), some (.dat (.int (handB n c))), some (.dat (.int (f.length : Nat))), some (.dat (.int (farB n c))), some (.ptr 0), some (.dat (dRow (oddB n c))), some (.dat (.int (atB c rows.length))), some (.dat (.str (erName (dueB c)))), none] [.lst L] := by
    intro L hL
    refine sxd_ret hQ ?_
    generalize atB c rows.length = at1 at hat
    walk_at "y"
    refine el_dat ?_
    walk_at "y"
    refine ⟨_, rfl, ?_⟩
    refine ⟨_, itm_rows rows, (rows.take at1.toNat).map dRow, by rw [cut_loB _ hat.1 (by rw [List.length_map]; exact hat.2), ← List.map_take, dat_rowsB], ?_⟩
    walk_at "y"
    refine el_dat (el_lst ?_)
    walk_at "y"
    refine eb_ixUL (.ptr rfl) hL ?_
    walk_at "y"
    refine ⟨szOk (by simp), [dRow (rowB n c)], rfl, ?_⟩
    refine eb_dat (ebl_cat (.dat _) (.dat _) rfl rfl (szOk (by simp; omega)) ?_)
    refine ⟨(rows.take at1.toNat ++ [rowB n c]).map dRow, by rw [List.map_append (f := dRow), List.map_append]; rfl, ?_⟩
    refine el_dat ?_
    walk_at "y"
    refine ⟨_, rfl, ?_⟩
    walk_at "y"
    refine ⟨_, itm_rows rows, (rows.drop at1.toNat).map dRow, by rw [cut_hiB _ hat.1 (by rw [List.length_map]; exact hat.2), ← List.map_drop, dat_rowsB], ?_⟩
    refine eb_dat (ebl_cat (.dat _) (.dat _) rfl rfl (szOk (by simp; omega)) ?_)
    refine ⟨(rows.take at1.toNat ++ [rowB n c] ++ rows.drop at1.toNat).map dRow, by simp only [List.map_append], ?_⟩
    walk_at "y"
    exact ⟨_, rfl, rfl⟩
  refine sxd_seq ?_
  walk_at "y"
  refine ⟨_, rfl, fun k4 => ?_, fun k4 => ?_⟩
  · have k4 := of_decide_eq_true k4
    walk_at "y"
    refine ⟨0, 0, 0, _, rfl, rfl, rfl, by rfl, ?_⟩
    refine fin _ ?_
    unfold rowB
    rw [k4]
    rfl
  · have k4 := of_decide_eq_false k4
    walk_at "y"
    refine fin _ ?_
    unfold rowB
    rcases six with e | e | e | e | e | e
    · exact absurd e k4
    · rw [e]; rfl
    · rw [e]; rfl
    · rw [e]; rfl
    · rw [e]; rfl
    · rw [e]; rfl
end Y

namespace Y
open PySem PySem.Spec L2
local macro_rules | `(tactic| walk_at "y1") => `(tactic| first
  | (fail_if_success (with_reducible show SX _ (tSeq (tIfS _ _ _) _) _ _ _)); (with_reducible refine sx_seq ?_)
  | with_reducible refine sx_asg ?_
  | with_reducible refine sx_if ?_
  | with_reducible refine sx_ret ?_
  | with_reducible refine sx_retN ?_
  | with_reducible refine sx_next ?_
  | with_reducible refine sx_app ?_
  | with_reducible refine sx_clear ?_
  | with_reducible refine sx_setL ?_
  | with_reducible refine sx_dput ?_
  | with_reducible refine sx_drop ?_
  | with_reducible refine eg_var (by with_unfolding_all rfl) ?_
  | with_reducible refine eg_int ?_
  | with_reducible refine eg_bl ?_
  | with_reducible refine eg_str ?_
  | with_reducible refine eg_non ?_
  | with_reducible refine eg_raw ?_
  | with_reducible refine eg_op ?_
  | with_reducible refine eg_cb ?_
  | with_reducible refine eg_tup ?_
  | with_reducible refine eg_isN ?_
  | with_reducible refine eg_notN ?_
  | with_reducible refine eg_and ?_
  | with_reducible refine eg_or ?_
  | with_reducible refine eg_not ?_
  | with_reducible refine eg_dnew ?_
  | with_reducible refine eg_dget ?_
  | with_reducible refine eg_dnotin ?_
  | with_reducible refine eg_un ?_
  | with_reducible refine eg_partsNot ?_
  | with_reducible refine eg_partsIx ?_
  | with_reducible refine et_test ?_
  | with_reducible refine et_B ?_
  | with_reducible refine et_not ?_
  | with_reducible refine et_and ?_
  | with_reducible refine et_or ?_
  | with_reducible refine et_yes ?_
  | with_reducible refine ea_nil ?_
  | with_reducible refine ea_cons ?_
  | with_reducible refine el_lst ?_
  | with_reducible refine el_slL ?_
  | with_reducible refine el_op ?_
  | with_reducible refine el_cb ?_
  | with_reducible refine el_lstRev ?_
  | with_reducible refine el_rng ?_
  | with_reducible refine eo_none ?_
  | with_reducible refine eo_some ?_
  | with_reducible refine sr_list ?_
  | with_reducible refine sr_rng ?_
  | with_reducible refine sr_enum ?_
  | with_reducible refine eb_add ?_
  | with_reducible refine eb_sub ?_
  | with_reducible refine eb_fdivL (by decide) (by decide) ?_
  | with_reducible refine eb_mulL (by decide) (by decide) ?_
  | with_reducible refine eb_mulR (by decide) (by decide) ?_
  | with_reducible refine eb_powL (by decide) (by decide) (by decide) ?_
  | with_reducible refine eb_mod (by decide) ?_
  | with_reducible refine eb_lt ?_
  | with_reducible refine eb_le ?_
  | with_reducible refine eb_gt ?_
  | with_reducible refine eb_ge ?_
  | with_reducible refine eb_eqI ?_
  | with_reducible refine eb_neI ?_
  | with_reducible refine eb_eqB ?_)
local macro_rules | `(tactic| walk_at "y1") => `(tactic| first
  | with_reducible refine call_cell ?_
  | with_reducible refine Exists.intro _ (Exists.intro _ (Exists.intro _ (And.intro (Eq.refl [A.raw (V.ref _), A.dat (PyData.int _)]) (And.intro (by assumption) (And.intro (by first | decide | omega) ?_))))))
local macro_rules | `(tactic| walk_at "y") => `(tactic| (repeat' (walk_at "y1")))
local macro_rules | `(tactic| walk_at "yi") => `(tactic| ((repeat' (walk_at "y1")); (with_reducible refine sx_seq ?_); (repeat' (walk_at "y1"))))


/-! ### _law_beyond (k02) -/
def beyond2 (m c : Int) : Int := if c % 2 = 0 then m + c / 2 % 60 else -1 - c / 2 % 60
theorem beyond2_bad {m : Int} (h : 0 ≤ m) (c : Int) : needHand m (beyond2 m c) = some .NoHand := by
  have := Int.emod_nonneg (c / 2) (show (60 : Int) ≠ 0 by decide)
  unfold beyond2 needHand
  split
  · rw [if_pos (by omega)]
  · rw [if_pos (by omega)]
def R_l_beyond (ds : List PyData) (r : Res Er) : Prop := ∃ m c : Int, ds = [.int m, .int c] ∧ r = .ok (.int (beyond2 m c))
abbrev sp_l_beyond (K : PySem.W.Frag) (C : Er → Addr) : Sp := Pr C R_l_beyond
theorem len_l_beyond {ds : List PyData} {r : Res Er} (h : R_l_beyond ds r) : ds.length = 2 := by
  obtain ⟨_, _, rfl, _⟩ := h; rfl
theorem wk_l_beyond (K : PySem.W.Frag) (C : Er → Addr) (H : Hp) (ds : List PyData) (r : Res Er) (h : R_l_beyond ds r) : SX H (t_l_beyond K) (entry ds 0) [] (HandR r) := by
  obtain ⟨m, c, rfl, rfl⟩ := h
  show SX H (t_l_beyond K) [some (.dat (.int m)), some (.dat (.int c))] [] _
  unfold t_l_beyond
  walk_at "yi"
  refine ⟨_, rfl, fun c0 => ?_, fun c0 => ?_⟩
  · have c0 := of_decide_eq_true c0
    walk_at "y"
    rw [show beyond2 m c = m + c / 2 % 60 from if_pos c0]
    exact .dat _
  · have c0 := of_decide_eq_false c0
    walk_at "y"
    refine eg_un (r := rNeg) (g := fun i => .int (-i)) ?_
    walk_at "y"
    refine ⟨1, .int (-1), rfl, fl_int _, ?_⟩
    walk_at "y"
    rw [show beyond2 m c = -1 - c / 2 % 60 from if_neg c0]
    exact .dat _
/-! ### texts -/
theorem ok_app {a b : Str} (ha : PyData.strOk a = true) (hb : PyData.strOk b = true) : PyData.strOk (a ++ b) = true := by
  show (a.cps ++ b.cps).all _ = true
  rw [Array.all_append]
  exact Bool.and_eq_true_iff.mpr ⟨ha, hb⟩
theorem ok_cut {a : Str} (ha : PyData.strOk a = true) (lo hi : Option Int) : PyData.strOk (cutS a lo hi) = true := by
  unfold PyData.strOk at ha ⊢
  unfold cutS
  rw [List.all_toArray, List.all_eq_true]
  intro x hx
  have hm := List.mem_of_mem_drop (List.mem_of_mem_take hx)
  rw [← Array.all_toList, List.all_eq_true] at ha
  exact ha x hm
theorem len_app (a b : Str) : (a ++ b).length = a.length + b.length := by
  show (a.cps ++ b.cps).size = _
  rw [Array.size_append]
  rfl
theorem len_cut (a : Str) (lo hi : Option Int) : (cutS a lo hi).length ≤ a.length := by
  show ((List.take _ (List.drop _ a.cps.toList)).toArray).size ≤ a.cps.size
  rw [List.size_toArray, List.length_take, List.length_drop, Array.length_toList]
  omega
theorem sh_ok {z : Str} (h : PyData.strOk z = true) : SeqAt.shaped (.str z) = true := by
  show (PyData.canLay0 (.str z) && decide (PyData.depth (.str z) ≤ 64)) = true
  rw [Bool.and_eq_true]
  exact ⟨by simpa [PyData.canLay0] using h, decide_eq_true (by simp [PyData.depth])⟩
/-- x in (a, b, c), of texts -/
theorem eb_in3 {K : PySem.W.Frag} {H0 : Hp} {δ : Sl} {ω : Om} {P : A → Om → Prop} {z a b c : Str} (p : P (.dat (.bool (decide (a = z) || decide (b = z) || decide (c = z)))) ω) : EB H0 (rInU K) (.dat (.str z)) (.dat (.tuple [.str a, .str b, .str c])) δ ω P := EB.inl fun σ H vs as x y S Q q => by
  obtain ⟨ps, I⟩ := S
  obtain ⟨r1, I1⟩ := I.pop
  obtain ⟨r2, I2⟩ := I1.pop
  cases (show Rp _ _ _ from r2)
  cases (show Rp _ _ _ from r1) with
  | tup h1 h2 =>
    cases h2 with
    | cons q1 h2 =>
      cases h2 with
      | cons q2 h2 =>
        cases h2 with
        | cons q3 h2 =>
          cases h2
          cases q1
          cases q2
          cases q3
          refine ⟨_, _, rfl, .inr (SqT.of (vis_sub I2.old _ _ h1)), rfl, rfl, ?_⟩
          show Q (.bl (inV (.str z) [V.str a, V.str b, V.str c])) H
          have e : inV (.str z) [V.str a, V.str b, V.str c] = (decide (a = z) || decide (b = z) || decide (c = z)) := by
            show ((a == z) || ((b == z) || ((c == z) || false))) = _
            rw [Bool.or_false, ← Bool.or_assoc]
            rfl
          rw [e]
          exact q _ _ _ H p (Sta.flat ⟨ps, I2⟩ (fl_bl _))
/-! ### _law_word -/
def pick3 (c : Int) : Str := if c % 3 = 0 then wSend else if c % 3 = 1 then wGot else wNote
def alpha : Str := PySem.Str.ofString "abcdefghijklmnopqrstuvwxyzABCDEFGHIJKLMNOPQRSTUVWXYZ _"
def signM (c : Int) : Str := ⟨#[alpha.cps.toList.getD (c / 15 % 54).toNat 0]⟩
def wat (c : Int) : Int := c / 3 % (((pick3 c).length : Int) + 1)
def madeM (c : Int) : Str :=
  if c / 810 % 6 = 0 then cutS (pick3 c) none (some (wat c)) ++ signM c ++ cutS (pick3 c) (some (wat c)) none
  else if c / 810 % 6 = 1 then cutS (pick3 c) none (some (wat c)) ++ cutS (pick3 c) (some (wat c + 1)) none
  else if c / 810 % 6 = 2 then cutS (pick3 c) none (some (wat c)) ++ signM c ++ cutS (pick3 c) (some (wat c + 1)) none
  else if c / 810 % 6 = 3 then Txt.upper (pick3 c)
  else if c / 810 % 6 = 4 then pick3 c ++ signM c else signM c ++ pick3 c
def wordM (c : Int) : Str := if isWord (madeM c) = true then madeM c ++ PySem.Str.ofString "s" else madeM c
theorem pick3_cases (c : Int) : pick3 c = wSend ∨ pick3 c = wGot ∨ pick3 c = wNote := by
  unfold pick3
  split
  · exact .inl rfl
  split
  · exact .inr (.inl rfl)
  · exact .inr (.inr rfl)
theorem pick3_len (c : Int) : (pick3 c).length ≤ 4 := by
  rcases pick3_cases c with h | h | h <;> rw [h] <;> decide +kernel
theorem pick3_ok (c : Int) : PyData.strOk (pick3 c) = true := by
  rcases pick3_cases c with h | h | h <;> rw [h] <;> decide +kernel
theorem upper_ok (c : Int) : PyData.strOk (Txt.upper (pick3 c)) = true := by
  rcases pick3_cases c with h | h | h <;> rw [h] <;> decide +kernel
theorem alpha_len : alpha.cps.toList.length = 54 := by decide +kernel
theorem alpha_ok : alpha.cps.toList.all (fun x => decide (x < 1114112)) = true := by decide +kernel
theorem sign_at (c : Int) : atI alpha.cps.toList (c / 15 % 54) = some (alpha.cps.toList.getD (c / 15 % 54).toNat 0) := by
  have h0 := Int.emod_nonneg (c / 15) (show (54 : Int) ≠ 0 by decide)
  have h1 := Int.emod_lt_of_pos (c / 15) (show (0 : Int) < 54 by decide)
  refine at_nat h0 ?_
  rw [List.getD_eq_getElem?_getD, List.getElem?_eq_getElem (by rw [alpha_len]; omega)]
  rfl
theorem sign_ok (c : Int) : PyData.strOk (signM c) = true := by
  have h0 := Int.emod_nonneg (c / 15) (show (54 : Int) ≠ 0 by decide)
  have h1 := Int.emod_lt_of_pos (c / 15) (show (0 : Int) < 54 by decide)
  have hl : (c / 15 % 54).toNat < alpha.cps.toList.length := by rw [alpha_len]; omega
  have := List.all_eq_true.mp alpha_ok _ (List.getElem_mem hl)
  unfold signM PyData.strOk
  rw [List.getD_eq_getElem?_getD, List.getElem?_eq_getElem hl]
  simp only [Option.getD_some]
  rw [show (#[alpha.cps.toList[(c / 15 % 54).toNat]] : Array Nat) = [alpha.cps.toList[(c / 15 % 54).toNat]].toArray from rfl, List.all_toArray]
  simp only [List.all_cons, List.all_nil, Bool.and_true]
  exact this
theorem sign_len (c : Int) : (signM c).length = 1 := rfl
theorem made_ok (c : Int) : PyData.strOk (madeM c) = true := by
  unfold madeM
  have a := pick3_ok c
  have b := sign_ok c
  split
  · exact ok_app (ok_app (ok_cut a _ _) b) (ok_cut a _ _)
  split
  · exact ok_app (ok_cut a _ _) (ok_cut a _ _)
  split
  · exact ok_app (ok_app (ok_cut a _ _) b) (ok_cut a _ _)
  split
  · exact upper_ok c
  split
  · exact ok_app a b
  · exact ok_app b a
theorem word_ok (c : Int) : PyData.strOk (wordM c) = true := by
  unfold wordM
  split
  · exact ok_app (made_ok c) (by decide +kernel)
  · exact made_ok c
theorem word_bad (c : Int) : isWord (wordM c) = false := by
  unfold wordM
  split
  · rename_i h
    rcases isWord_cases h with e | e | e <;> rw [e] <;> decide +kernel
  · rename_i h
    simpa using h
def R_l_word (ds : List PyData) (r : Res Er) : Prop := ∃ c : Int, ds = [.int c] ∧ r = .ok (.str (wordM c))
abbrev sp_l_word (K : PySem.W.Frag) (C : Er → Addr) : Sp := Pr C R_l_word
theorem len_l_word {ds : List PyData} {r : Res Er} (h : R_l_word ds r) : ds.length = 1 := by
  obtain ⟨_, rfl, _⟩ := h; rfl
theorem made_len (c : Int) : (madeM c).length ≤ 100000 := by
  unfold madeM
  have a := pick3_len c
  have b := sign_len c
  have l1 := len_cut (pick3 c) none (some (wat c))
  have l2 := len_cut (pick3 c) (some (wat c)) none
  have l3 := len_cut (pick3 c) (some (wat c + 1)) none
  split
  · rw [len_app, len_app]; omega
  split
  · rw [len_app]; omega
  split
  · rw [len_app, len_app]; omega
  split
  · rcases pick3_cases c with h | h | h <;> rw [h] <;> decide +kernel
  split
  · rw [len_app]; omega
  · rw [len_app]; omega
theorem wk_l_word (K : PySem.W.Frag) (C : Er → Addr) (H : Hp) (ds : List PyData) (r : Res Er) (h : R_l_word ds r) : SX H (t_l_word K) (entry ds 4) [] (HandR r) := by
  obtain ⟨c, rfl, rfl⟩ := h
  show SX H (t_l_word K) [some (.dat (.int c)), none, none, none, none] [] _
  have three : c % 3 = 0 ∨ c % 3 = 1 ∨ c % 3 = 2 := by omega
  have six : c / 810 % 6 = 0 ∨ c / 810 % 6 = 1 ∨ c / 810 % 6 = 2 ∨ c / 810 % 6 = 3 ∨ c / 810 % 6 = 4 ∨ c / 810 % 6 = 5 := by omega
  have a := pick3_len c
  have b := sign_len c
  have l1 := len_cut (pick3 c) none (some (wat c))
  have l2 := len_cut (pick3 c) (some (wat c)) none
  have l3 := len_cut (pick3 c) (some (wat c + 1)) none
  have hml := made_len c
  have hzz : ∀ {n : Nat}, n ≤ 100 → n ≤ sizeLine := fun {n} h => szOk (by omega)
  unfold t_l_word
  walk_at "y"
  refine el_dat (el_lst ?_)
  walk_at "y"
  refine ⟨szOk (by simp), [.str wSend, .str wGot, .str wNote], rfl, ?_⟩
  walk_at "y"
  refine eb_ixUL (.dat _) (c := .dat (.str (pick3 c))) ?_ ?_
  · unfold pick3
    rcases three with e | e | e <;> rw [e] <;> rfl
  walk_at "y"
  refine ec_lenS (hzz (by omega)) ?_
  walk_at "y"
  refine eb_mod (by omega) ?_
  walk_at "y"
  refine eb_ixUS (z := alpha) (szOk (show alpha.length ≤ 16777216 by decide +kernel)) (sign_at c) ?_
  have hw : c / 3 % (((pick3 c).length : Int) + 1) = wat c := rfl
  have hs : (⟨#[alpha.cps.toList.getD (c / 15 % 54).toNat 0]⟩ : Str) = signM c := rfl
  rw [hw, hs]
  have hmade : madeM c = madeM c := rfl
  have hix : atI ([PyData.str (cutS (pick3 c) none (some (wat c)) ++ signM c ++ cutS (pick3 c) (some (wat c)) none), .str (cutS (pick3 c) none (some (wat c)) ++ cutS (pick3 c) (some (wat c + 1)) none), .str (cutS (pick3 c) none (some (wat c)) ++ signM c ++ cutS (pick3 c) (some (wat c + 1)) none), .str (Txt.upper (pick3 c)), .str (pick3 c ++ signM c), .str (signM c ++ pick3 c)].map A.dat) (c / 810 % 6) = some (.dat (.str (madeM c))) := by
    unfold madeM
    rcases six with e | e | e | e | e | e <;> rw [e] <;> rfl
  have hword : wordM c = if isWord (madeM c) = true then madeM c ++ PySem.Str.ofString "s" else madeM c := rfl
  rw [hword]
  generalize madeM c = made at hix hml
  have slo : ∀ {δ : Sl} {ω : Om} {P : A → Om → Prop}, δ[1]? = some (some (.dat (.str (pick3 c)))) → δ[2]? = some (some (.dat (.int (wat c)))) → P (.dat (.str (cutS (pick3 c) none (some (wat c))))) ω → EG H (tSl (rSlU K) (tVar 1) tNoPart (tPart (tVar 2))) δ ω P := fun {δ ω P} d1 d2 p => eg_slS (eg_var d1 (eo_none (eo_some (eg_var d2 ⟨wat c, rfl, pick3 c, rfl, hzz (by omega), p⟩))))
  have shi : ∀ {δ : Sl} {ω : Om} {P : A → Om → Prop}, δ[1]? = some (some (.dat (.str (pick3 c)))) → δ[2]? = some (some (.dat (.int (wat c)))) → P (.dat (.str (cutS (pick3 c) (some (wat c)) none))) ω → EG H (tSl (rSlU K) (tVar 1) (tPart (tVar 2)) tNoPart) δ ω P := fun {δ ω P} d1 d2 p => eg_slS (eg_var d1 (eo_some (eg_var d2 ⟨wat c, rfl, eo_none ⟨pick3 c, rfl, hzz (by omega), p⟩⟩)))
  have shi1 : ∀ {δ : Sl} {ω : Om} {P : A → Om → Prop}, δ[1]? = some (some (.dat (.str (pick3 c)))) → δ[2]? = some (some (.dat (.int (wat c)))) → P (.dat (.str (cutS (pick3 c) (some (wat c + 1)) none))) ω → EG H (tSl (rSlU K) (tVar 1) (tPart (tOp (rAddU K) (tVar 2) (tC (.int 1)))) tNoPart) δ ω P := fun {δ ω P} d1 d2 p => eg_slS (eg_var d1 (eo_some (eg_op (eg_var d2 (eg_int (eb_add ⟨wat c + 1, rfl, eo_none ⟨pick3 c, rfl, hzz (by omega), p⟩⟩))))))
  have hup : PySem.Str.length (Txt.upper (pick3 c)) ≤ 100000 → True := fun _ => trivial
  generalize wat c = at1 at l1 l2 l3 hix slo shi shi1
  generalize signM c = sg at b hix
  generalize pick3 c = w at a l1 l2 l3 hix slo shi shi1
  walk_at "y"
  refine el_dat (el_lst ?_)
  walk_at "y"
  refine slo rfl rfl ?_
  walk_at "y"
  refine eb_addS (hzz (by omega)) ?_
  refine shi rfl rfl ?_
  refine eb_addS (hzz (by rw [len_app]; omega)) ?_
  walk_at "y"
  refine slo rfl rfl ?_
  refine shi1 rfl rfl ?_
  refine eb_addS (hzz (by omega)) ?_
  walk_at "y"
  refine slo rfl rfl ?_
  walk_at "y"
  refine eb_addS (hzz (by omega)) ?_
  refine shi1 rfl rfl ?_
  refine eb_addS (hzz (by rw [len_app]; omega)) ?_
  walk_at "y"
  refine eg_upper ?_
  walk_at "y"
  refine ⟨w, rfl, by omega, ?_⟩
  walk_at "y"
  refine ⟨szOk (by simp), [.str (cutS w none (some at1) ++ sg ++ cutS w (some at1) none), .str (cutS w none (some at1) ++ cutS w (some (at1 + 1)) none), .str (cutS w none (some at1) ++ sg ++ cutS w (some (at1 + 1)) none), .str (Txt.upper w)], rfl, ?_⟩
  walk_at "y"
  refine el_dat (el_lst ?_)
  walk_at "y"
  refine eb_addS (hzz (by omega)) ?_
  walk_at "y"
  refine eb_addS (hzz (by omega)) ?_
  walk_at "y"
  refine ⟨szOk (by simp), [.str (w ++ sg), .str (sg ++ w)], rfl, ?_⟩
  refine eb_dat (ebl_cat (.dat _) (.dat _) rfl rfl (szOk (by simp)) ?_)
  refine ⟨[.str (cutS w none (some at1) ++ sg ++ cutS w (some at1) none), .str (cutS w none (some at1) ++ cutS w (some (at1 + 1)) none), .str (cutS w none (some at1) ++ sg ++ cutS w (some (at1 + 1)) none), .str (Txt.upper w), .str (w ++ sg), .str (sg ++ w)], rfl, ?_⟩
  walk_at "y"
  refine eb_ixUL (.dat _) hix ?_
  walk_at "yi"
  refine ⟨[.str wSend, .str wGot, .str wNote], rfl, szOk (show 3 ≤ 16777216 by decide), ?_⟩
  refine eb_in3 ?_
  have hisw : (decide (wSend = made) || decide (wGot = made) || decide (wNote = made)) = isWord made := by
    unfold isWord
    rw [show decide (wSend = made) = decide (made = wSend) by simp [eq_comm], show decide (wGot = made) = decide (made = wGot) by simp [eq_comm], show decide (wNote = made) = decide (made = wNote) by simp [eq_comm]]
  rw [hisw]
  refine ⟨_, rfl, fun z => ?_, fun z => ?_⟩
  · rw [if_pos z]
    walk_at "y"
    refine eb_addS (szOk (by
      have : (PySem.Str.ofString "s").length = 1 := by decide +kernel
      omega)) ?_
    walk_at "y"
    exact .dat _
  · rw [if_neg (by rw [z]; simp)]
    walk_at "y"
    exact .dat _
end Y

/-! Mt: ends, lines, strays: plain Lean. -/
namespace Y
open PySem PySem.Spec L2

/-- the ends of a hand's numbers but the first and the last -/
def notes (h : Int) : Nat → List Row → List Int
  | _, [] => []
  | k, r :: rows => if r = .note h then ((k : Int) + 1) :: notes h (k + 1) rows else notes h (k + 1) rows
theorem notes_append (h : Int) : ∀ (a b : List Row) (k : Nat), notes h k (a ++ b) = notes h k a ++ notes h (k + a.length) b
  | [], b, k => by simp [notes]
  | r :: a, b, k => by
    simp only [List.cons_append, notes, notes_append h a b (k + 1), List.length_cons]
    rw [show k + 1 + a.length = k + (a.length + 1) by omega]
    split <;> simp
theorem notes_snoc (h : Int) (a : List Row) (r : Row) (k : Nat) : notes h k (a ++ [r]) = notes h k a ++ if r = .note h then [((k + a.length : Nat) : Int) + 1] else [] := by
  rw [notes_append]
  simp only [notes]
theorem notes_len (h : Int) : ∀ (a : List Row) (k : Nat), (notes h k a).length ≤ a.length
  | [], k => Nat.le_refl _
  | r :: a, k => by
    have := notes_len h a (k + 1)
    simp only [notes]
    split <;> simp only [List.length_cons] <;> omega
def begun (rows : List Row) (h : Int) : List Int := 0 :: notes h 0 rows
def told1 (rows : List Row) (h : Int) : List Int := begun rows h ++ [(rows.length : Int)]
def begunAll (n : Nat) (rows : List Row) : List (List Int) := (List.range n).map fun h : Nat => begun rows h
def told (hands : Int) (rows : List Row) : List (List Int) := (List.range hands.toNat).map fun h : Nat => told1 rows h
abbrev dT (t : List (List Int)) : PyData := .list (t.map dI)
theorem told_len (hands : Int) (rows : List Row) : (told hands rows).length = hands.toNat := by simp [told]
theorem told_get {hands : Int} {rows : List Row} {i : Nat} (h : i < hands.toNat) : (told hands rows)[i]? = some (told1 rows i) := by
  unfold told
  rw [List.getElem?_map, List.getElem?_range h]
  rfl
theorem told1_len (rows : List Row) (h : Int) : 2 ≤ (told1 rows h).length ∧ (told1 rows h).length ≤ rows.length + 2 := by
  have := notes_len h rows 0
  unfold told1 begun
  rw [List.length_append, List.length_cons, List.length_singleton]
  omega
def endsM (hands : Int) (rows : List Row) : Except Er (List (List Int)) :=
  match lettersM hands rows with
  | .error e => .error e
  | .ok _ => .ok (told hands rows)

/-! ### lines -/
def lineOk (t : List (List Int)) (line : List Int) : Bool :=
  decide (line.length = t.length) && (List.range line.length).all fun i => decide (0 ≤ line.getD i 0 ∧ line.getD i 0 < ((t.getD i []).length : Int))
theorem lineOk_iff {t : List (List Int)} {line : List Int} : lineOk t line = true ↔ line.length = t.length ∧ ∀ (i : Nat) (n : Int) (own : List Int), line[i]? = some n → t[i]? = some own → 0 ≤ n ∧ n < (own.length : Int) := by
  unfold lineOk
  rw [Bool.and_eq_true, List.all_eq_true]
  constructor
  · rintro ⟨h1, h2⟩
    refine ⟨of_decide_eq_true h1, fun i n own hn ho => ?_⟩
    have := of_decide_eq_true (h2 i (List.mem_range.mpr (List.getElem?_eq_some_iff.mp hn).1))
    rw [List.getD_eq_getElem?_getD, List.getD_eq_getElem?_getD, hn, ho] at this
    exact this
  · rintro ⟨h1, h2⟩
    refine ⟨decide_eq_true h1, fun i hi => decide_eq_true ?_⟩
    have hi := List.mem_range.mp hi
    have := h2 i _ _ (List.getElem?_eq_getElem hi) (List.getElem?_eq_getElem (by omega))
    rw [List.getD_eq_getElem?_getD, List.getD_eq_getElem?_getD, List.getElem?_eq_getElem hi, List.getElem?_eq_getElem (show i < t.length by omega)]
    exact this
def endsOf (t : List (List Int)) (line : List Int) : List Int := line.mapIdx fun i n => (t.getD i []).getD n.toNat 0
theorem endsOf_len (t : List (List Int)) (line : List Int) : (endsOf t line).length = line.length := by simp [endsOf]
theorem endsOf_get {t : List (List Int)} {line : List Int} {i : Nat} {n : Int} {own : List Int} {e : Int} (h1 : line[i]? = some n) (h2 : t[i]? = some own) (h3 : own[n.toNat]? = some e) : (endsOf t line)[i]? = some e := by
  unfold endsOf
  rw [List.getElem?_mapIdx, h1]
  simp [List.getD_eq_getElem?_getD, h2, h3]
def keptM (hands : Int) (rows : List Row) (line : List Int) : Except Er (List Int) :=
  match endsM hands rows with
  | .error e => .error e
  | .ok t => if lineOk t line = true then .ok (endsOf t line) else .error .NoLine

/-! ### strays -/
def at0 (kept : List Int) (h : Int) : Int := kept.getD h.toNat 0
def stray (kept : List Int) (l : Let) : Bool := match l.g with
  | none => false
  | some g => decide ((g : Int) < at0 kept l.t) && decide (at0 kept l.s ≤ (l.p : Int))
def underWay (kept : List Int) (l : Let) : Bool := if at0 kept l.s ≤ (l.p : Int) then false else match l.g with
  | none => true
  | some g => decide (at0 kept l.t ≤ (g : Int))
/-- the numbers of the letters that are so, from k on -/
def idxs (q : Let → Bool) : Nat → List Let → List Int
  | _, [] => []
  | k, l :: f => if q l = true then (k : Int) :: idxs q (k + 1) f else idxs q (k + 1) f
theorem idxs_comp (q : Let → Bool) : ∀ (f : List Let) (k : Nat), (f.mapIdx fun i l => if q l = true then [PyData.int ((k + i : Nat) : Int)] else []).flatten = (idxs q k f).map .int
  | [], k => rfl
  | l :: f, k => by
    have ih := idxs_comp q f (k + 1)
    rw [List.mapIdx_cons, List.flatten_cons]
    have e : (fun (i : Nat) (l : Let) => if q l = true then [PyData.int ((k + (i + 1) : Nat) : Int)] else []) = fun (i : Nat) (l : Let) => if q l = true then [PyData.int ((k + 1 + i : Nat) : Int)] else [] := by
      funext i l
      rw [show k + (i + 1) = k + 1 + i by omega]
    rw [e, ih]
    simp only [idxs]
    split <;> simp
theorem compR_idxs (q : Let → Bool) (f : List Let) : compR f (fun _ => q) (fun i _ => .int (i : Nat)) = (idxs q 0 f).map .int := by
  rw [← idxs_comp q f 0]
  unfold compR
  simp only [Nat.zero_add]
theorem idxs_len (q : Let → Bool) : ∀ (f : List Let) (k : Nat), (idxs q k f).length ≤ f.length
  | [], k => Nat.le_refl _
  | l :: f, k => by
    have := idxs_len q f (k + 1)
    simp only [idxs]
    split <;> simp only [List.length_cons] <;> omega
theorem idxs_mem {q : Let → Bool} : ∀ {f : List Let} {k : Nat} {x : Int}, x ∈ idxs q k f ↔ ∃ (i : Nat) (l : Let), x = ((k + i : Nat) : Int) ∧ f[i]? = some l ∧ q l = true
  | [], k, x => by simp [idxs]
  | l :: f, k, x => by
    have ih := idxs_mem (q := q) (f := f) (k := k + 1) (x := x)
    have tail : (∃ (i : Nat) (l : Let), x = ((k + 1 + i : Nat) : Int) ∧ f[i]? = some l ∧ q l = true) ↔ ∃ (i : Nat) (l' : Let), 0 < i ∧ x = ((k + i : Nat) : Int) ∧ (l :: f)[i]? = some l' ∧ q l' = true := by
      constructor
      · rintro ⟨i, l', h1, h2, h3⟩
        exact ⟨i + 1, l', by omega, by rw [h1]; congr 1; omega, by simpa using h2, h3⟩
      · rintro ⟨i, l', h0, h1, h2, h3⟩
        obtain ⟨j, rfl⟩ : ∃ j, i = j + 1 := ⟨i - 1, by omega⟩
        exact ⟨j, l', by rw [h1]; congr 1; omega, by simpa using h2, h3⟩
    simp only [idxs]
    split
    · rename_i h
      rw [List.mem_cons, ih, tail]
      constructor
      · rintro (rfl | ⟨i, l', _, h1, h2, h3⟩)
        · exact ⟨0, l, by simp, rfl, h⟩
        · exact ⟨i, l', h1, h2, h3⟩
      · rintro ⟨i, l', h1, h2, h3⟩
        by_cases h0 : i = 0
        · subst h0; exact .inl (by rw [h1]; simp)
        · exact .inr ⟨i, l', by omega, h1, h2, h3⟩
    · rename_i h
      rw [ih, tail]
      constructor
      · rintro ⟨i, l', _, h1, h2, h3⟩
        exact ⟨i, l', h1, h2, h3⟩
      · rintro ⟨i, l', h1, h2, h3⟩
        by_cases h0 : i = 0
        · subst h0
          have : l = l' := by simpa using h2
          subst this
          exact absurd h3 h
        · exact ⟨i, l', by omega, h1, h2, h3⟩
def straysBy (f : List Let) (kept : List Int) : List Int := idxs (stray kept) 0 f
def waysBy (f : List Let) (kept : List Int) : List Int := idxs (underWay kept) 0 f
def straysM (hands : Int) (rows : List Row) (line : List Int) : Except Er (List Int) :=
  match keptM hands rows line with
  | .error e => .error e
  | .ok kept => match lettersM hands rows with
    | .error e => .error e
    | .ok f => .ok (straysBy f kept)
def waysM (hands : Int) (rows : List Row) (line : List Int) : Except Er (List Int) :=
  match keptM hands rows line with
  | .error e => .error e
  | .ok kept => match lettersM hands rows with
    | .error e => .error e
    | .ok f => .ok (waysBy f kept)
def soundM (hands : Int) (rows : List Row) (line : List Int) : Except Er Bool :=
  match straysM hands rows line with
  | .error e => .error e
  | .ok s => .ok (decide (s = []))
/-- what is told of the letters -/
def LetsOk (n : Nat) (f : List Let) : Prop := ∀ l ∈ f, (0 ≤ l.s ∧ l.s < n) ∧ (0 ≤ l.t ∧ l.t < n)
theorem goL_lets {hands : Int} : ∀ {rows : List Row} {k : Nat} {f f' : List Let}, goL hands k f rows = .ok f' → LetsOk hands.toNat f → LetsOk hands.toNat f'
  | [], k, f, f', h, hf => by cases h; exact hf
  | r :: rows, k, f, f', h, hf => by
    simp only [goL] at h
    split at h
    · cases h
    · rename_i f1 h1
      refine goL_lets h ?_
      have st := stepOk_of h1
      cases st with
      | send a b =>
        intro l hl
        rcases List.mem_append.mp hl with hl | hl
        · exact hf l hl
        · rw [List.mem_singleton.mp hl]
          exact ⟨⟨a.1, (by have := a.2; show _ < _; simp only; omega)⟩, b.1, (by have := b.2; simp only; omega)⟩
      | @got h' l' y a hy ht hg =>
        intro l hl
        rcases List.mem_or_eq_of_mem_set hl with hl | hl
        · exact hf l hl
        · rw [hl]
          exact hf y (List.mem_of_getElem? hy)
      | note a => exact hf
theorem lets_ok {hands : Int} {rows : List Row} {f : List Let} (h : lettersM hands rows = .ok f) : LetsOk hands.toNat f := goL_lets (lettersM_ok h).2.2.2 fun l hl => by cases hl
theorem at0_get {kept : List Int} {h : Int} (h0 : 0 ≤ h) (h1 : h < kept.length) : kept[h.toNat]? = some (at0 kept h) := by
  unfold at0
  rw [List.getD_eq_getElem?_getD, List.getElem?_eq_getElem (by omega)]
  rfl
end Y

namespace Y
open PySem PySem.Spec L2
local macro_rules | `(tactic| walk_at "y1") => `(tactic| first
  | (fail_if_success (with_reducible show SX _ (tSeq (tIfS _ _ _) _) _ _ _)); (with_reducible refine sx_seq ?_)
  | with_reducible refine sx_asg ?_
  | with_reducible refine sx_if ?_
  | with_reducible refine sx_ret ?_
  | with_reducible refine sx_retN ?_
  | with_reducible refine sx_next ?_
  | with_reducible refine sx_app ?_
  | with_reducible refine sx_clear ?_
  | with_reducible refine sx_setL ?_
  | with_reducible refine sx_dput ?_
  | with_reducible refine sx_drop ?_
  | with_reducible refine eg_var (by with_unfolding_all rfl) ?_
  | with_reducible refine eg_int ?_
  | with_reducible refine eg_bl ?_
  | with_reducible refine eg_str ?_
  | with_reducible refine eg_non ?_
  | with_reducible refine eg_raw ?_
  | with_reducible refine eg_op ?_
  | with_reducible refine eg_cb ?_
  | with_reducible refine eg_tup ?_
  | with_reducible refine eg_isN ?_
  | with_reducible refine eg_notN ?_
  | with_reducible refine eg_and ?_
  | with_reducible refine eg_or ?_
  | with_reducible refine eg_not ?_
  | with_reducible refine eg_dnew ?_
  | with_reducible refine eg_dget ?_
  | with_reducible refine eg_dnotin ?_
  | with_reducible refine eg_un ?_
  | with_reducible refine eg_partsNot ?_
  | with_reducible refine eg_partsIx ?_
  | with_reducible refine et_test ?_
  | with_reducible refine et_B ?_
  | with_reducible refine et_not ?_
  | with_reducible refine et_and ?_
  | with_reducible refine et_or ?_
  | with_reducible refine et_yes ?_
  | with_reducible refine ea_nil ?_
  | with_reducible refine ea_cons ?_
  | with_reducible refine el_lst ?_
  | with_reducible refine el_slL ?_
  | with_reducible refine el_op ?_
  | with_reducible refine el_cb ?_
  | with_reducible refine el_lstRev ?_
  | with_reducible refine el_rng ?_
  | with_reducible refine eo_none ?_
  | with_reducible refine eo_some ?_
  | with_reducible refine sr_list ?_
  | with_reducible refine sr_rng ?_
  | with_reducible refine sr_enum ?_
  | with_reducible refine eb_add ?_
  | with_reducible refine eb_sub ?_
  | with_reducible refine eb_fdivL (by decide) (by decide) ?_
  | with_reducible refine eb_mulL (by decide) (by decide) ?_
  | with_reducible refine eb_mulR (by decide) (by decide) ?_
  | with_reducible refine eb_powL (by decide) (by decide) (by decide) ?_
  | with_reducible refine eb_mod (by decide) ?_
  | with_reducible refine eb_lt ?_
  | with_reducible refine eb_le ?_
  | with_reducible refine eb_gt ?_
  | with_reducible refine eb_ge ?_
  | with_reducible refine eb_eqI ?_
  | with_reducible refine eb_neI ?_
  | with_reducible refine eb_eqB ?_)
local macro_rules | `(tactic| walk_at "y1") => `(tactic| first
  | with_reducible refine call_cell ?_
  | with_reducible refine Exists.intro _ (Exists.intro _ (Exists.intro _ (And.intro (Eq.refl [A.raw (V.ref _), A.dat (PyData.int _)]) (And.intro (by assumption) (And.intro (by first | decide | omega) ?_))))))
local macro_rules | `(tactic| walk_at "y") => `(tactic| (repeat' (walk_at "y1")))
local macro_rules | `(tactic| walk_at "yi") => `(tactic| ((repeat' (walk_at "y1")); (with_reducible refine sx_seq ?_); (repeat' (walk_at "y1"))))


/-! ### _law_letter_wrong: plain -/
def isGotB : Row → Bool
  | .emp => false
  | .mk w _ => decide (w = wGot)
def thirdB : Row → Int
  | .emp => 0
  | .mk _ ns => ns.getD 1 0
def goalsM (rows : List Row) : List Int := (rows.filter isSendB).map thirdB
def takenM (rows : List Row) : List Int := (rows.filter isGotB).map thirdB
def othersM (n : Int) (rows : List Row) (c : Int) : List Int := ((List.range (goalsM rows).length).filter fun k : Nat => !decide ((goalsM rows).getD k 0 = c % n)).map fun k : Nat => (k : Int)
def letterWrongM (n : Int) (rows : List Row) (c : Int) : Row × Er :=
  if c / 40 % 3 = 1 ∧ othersM n rows c ≠ [] then (.got (c % n) ((othersM n rows c).getD (c / 120 % ((othersM n rows c).length : Int)).toNat 0), .NoLetter)
  else if c / 40 % 3 = 2 ∧ takenM rows ≠ [] then (.got ((goalsM rows).getD ((takenM rows).getD (c / 120 % ((takenM rows).length : Int)).toNat 0).toNat 0) ((takenM rows).getD (c / 120 % ((takenM rows).length : Int)).toNat 0), .GotTwice)
  else if c / 120 % 2 = 0 then (.got (c % n) (((goalsM rows).length : Int) + c / 240 % 9), .NoLetter)
  else (.got (c % n) (-1 - c / 240 % 9), .NoLetter)
theorem isGotB_s (h t : Int) : isGotB (.send h t) = false := show decide (wSend = wGot) = false from decide_eq_false ne_sg
theorem isGotB_g (h t : Int) : isGotB (.got h t) = true := show decide (wGot = wGot) = true from decide_eq_true rfl
theorem isGotB_n (h : Int) : isGotB (.note h) = false := show decide (wNote = wGot) = false from decide_eq_false ne_ng
theorem isSendB_g (h t : Int) : isSendB (.got h t) = false := show decide (wGot = wSend) = false from decide_eq_false ne_gs
theorem isSendB_n (h : Int) : isSendB (.note h) = false := show decide (wNote = wSend) = false from decide_eq_false ne_ns
theorem goals_eq {hands : Int} : ∀ {rows : List Row} {k : Nat} {f f' : List Let}, goL hands k f rows = .ok f' → f'.map Let.t = f.map Let.t ++ goalsM rows
  | [], k, f, f', h => by cases h; simp [goalsM]
  | r :: rows, k, f, f', h => by
    simp only [goL] at h
    split at h
    · cases h
    · rename_i f1 h1
      have ih := goals_eq h
      have st := stepOk_of h1
      rw [ih]
      unfold goalsM
      cases st with
      | @send h' t a b =>
        rw [List.filter_cons, if_pos (isSendB_s _ _), List.map_append, List.append_assoc]
        rfl
      | @got h' l y a hy ht hg =>
        rw [List.filter_cons, if_neg (by rw [isSendB_g]; simp)]
        congr 1
        apply List.ext_getElem?
        intro i
        rw [List.getElem?_map, List.getElem?_map, List.getElem?_set]
        by_cases e : l = i
        · subst e
          rw [if_pos rfl, if_pos (List.getElem?_eq_some_iff.mp hy).1, hy]
          rfl
        · rw [if_neg e]
      | note a => rw [List.filter_cons, if_neg (by rw [isSendB_n]; simp)]
theorem keepG {hands : Int} : ∀ {rows : List Row} {k : Nat} {f f' : List Let}, goL hands k f rows = .ok f' → ∀ (i : Nat) (l : Let), f[i]? = some l → l.g.isSome = true → ∃ l', f'[i]? = some l' ∧ l'.g.isSome = true
  | [], k, f, f', h, i, l, hl, hg => by cases h; exact ⟨l, hl, hg⟩
  | r :: rows, k, f, f', h, i, l, hl, hg => by
    simp only [goL] at h
    split at h
    · cases h
    · rename_i f1 h1
      have st := stepOk_of h1
      cases st with
      | send a b => exact keepG h i l (by rw [List.getElem?_append_left (List.getElem?_eq_some_iff.mp hl).1]; exact hl) hg
      | @got h' l' y a hy ht hg' =>
        by_cases e : l' = i
        · subst e
          exact keepG h l' _ (List.getElem?_set_self (List.getElem?_eq_some_iff.mp hy).1) rfl
        · exact keepG h i l (by rw [List.getElem?_set_ne e]; exact hl) hg
      | note a => exact keepG h i l hl hg
theorem taken_in {hands : Int} : ∀ {rows : List Row} {k : Nat} {f f' : List Let}, goL hands k f rows = .ok f' → ∀ x ∈ takenM rows, ∃ (l : Nat) (y : Let), x = (l : Int) ∧ f'[l]? = some y ∧ y.g.isSome = true
  | [], k, f, f', h, x, hx => by simp [takenM] at hx
  | r :: rows, k, f, f', h, x, hx => by
    simp only [goL] at h
    split at h
    · cases h
    · rename_i f1 h1
      have st := stepOk_of h1
      have ih := taken_in h
      unfold takenM at hx ih
      cases st with
      | send a b =>
        rw [List.filter_cons, if_neg (by rw [isGotB_s]; simp)] at hx
        exact ih x hx
      | @got h' l y a hy ht hg' =>
        rw [List.filter_cons, if_pos (isGotB_g _ _), List.map_cons] at hx
        rcases List.mem_cons.mp hx with e | hx
        · obtain ⟨z, z1, z2⟩ := keepG h l _ (List.getElem?_set_self (List.getElem?_eq_some_iff.mp hy).1) rfl
          exact ⟨l, z, e, z1, z2⟩
        · exact ih x hx
      | note a =>
        rw [List.filter_cons, if_neg (by rw [isGotB_n]; simp)] at hx
        exact ih x hx
theorem pick_mem {xs : List Int} (h : xs ≠ []) (c : Int) : 0 ≤ c % (xs.length : Int) ∧ xs[(c % (xs.length : Int)).toNat]? = some (xs.getD (c % (xs.length : Int)).toNat 0) ∧ xs.getD (c % (xs.length : Int)).toNat 0 ∈ xs := by
  have hl := List.length_pos_iff.mpr h
  have a := Int.emod_nonneg c (show (xs.length : Int) ≠ 0 by omega)
  have b := Int.emod_lt_of_pos c (show 0 < (xs.length : Int) by omega)
  have e : xs[(c % (xs.length : Int)).toNat]? = some xs[(c % (xs.length : Int)).toNat] := List.getElem?_eq_getElem (by omega)
  refine ⟨a, ?_, ?_⟩
  · rw [List.getD_eq_getElem?_getD, e]; rfl
  · rw [List.getD_eq_getElem?_getD, e]; exact List.getElem_mem _
theorem lw_bad {n : Int} {rows : List Row} {f : List Let} (h1 : 1 ≤ n) (hgo : goL n 0 [] rows = .ok f) (c : Int) (k : Nat) : stepL n k f (letterWrongM n rows c).1 = .error (letterWrongM n rows c).2 := by
  have hh := needHand_ok.mpr (show 0 ≤ c % n ∧ c % n < n from ⟨Int.emod_nonneg _ (by omega), Int.emod_lt_of_pos _ (by omega)⟩)
  have hgl := goals_eq hgo
  rw [List.map_nil, List.nil_append] at hgl
  have hlen : (goalsM rows).length = f.length := by rw [← hgl, List.length_map]
  have L := goL_lets hgo (fun l hl => by cases hl)
  have far : ∀ l : Int, l < 0 ∨ (f.length : Int) ≤ l → needLetter f (c % n) l = some .NoLetter := fun l hl => by
    unfold needLetter
    rw [if_pos hl]
  unfold letterWrongM
  split
  · rename_i hc
    obtain ⟨p0, p1, p2⟩ := pick_mem hc.2 (c / 120)
    generalize (othersM n rows c).getD (c / 120 % ((othersM n rows c).length : Int)).toNat 0 = l at p2
    unfold othersM at p2
    obtain ⟨i, hi, rfl⟩ := List.mem_map.mp p2
    obtain ⟨hi1, hi2⟩ := List.mem_filter.mp hi
    have hi1 := List.mem_range.mp hi1
    refine step_got2 hh ?_
    unfold needLetter
    obtain ⟨y, hy⟩ : ∃ y, f[i]? = some y := ⟨_, List.getElem?_eq_getElem (by omega)⟩
    rw [if_neg (by omega), Int.toNat_natCast, hy]
    simp only
    rw [if_neg]
    intro z
    rw [List.getD_eq_getElem?_getD, ← hgl, List.getElem?_map, hy] at hi2
    simp at hi2
    exact hi2 z
  split
  · rename_i hc
    obtain ⟨p0, p1, p2⟩ := pick_mem hc.2 (c / 120)
    generalize (takenM rows).getD (c / 120 % ((takenM rows).length : Int)).toNat 0 = l at p2
    obtain ⟨i, y, rfl, hy, hg⟩ := taken_in hgo l p2
    have hgD : (goalsM rows).getD ((i : Int)).toNat 0 = y.t := by
      rw [Int.toNat_natCast, List.getD_eq_getElem?_getD, ← hgl, List.getElem?_map, hy]
      rfl
    rw [hgD]
    obtain ⟨_, t0, t1⟩ := L y (List.mem_of_getElem? hy)
    refine step_got2 (needHand_ok.mpr ⟨t0, by omega⟩) ?_
    unfold needLetter
    have := (List.getElem?_eq_some_iff.mp hy).1
    rw [if_neg (by omega), Int.toNat_natCast, hy]
    simp only [if_true]
    cases hyg : y.g with
    | none => rw [hyg] at hg; cases hg
    | some q => rfl
  split
  · have := Int.emod_nonneg (c / 240) (show (9 : Int) ≠ 0 by decide)
    exact step_got2 hh (far _ (.inr (by rw [hlen]; omega)))
  · have := Int.emod_nonneg (c / 240) (show (9 : Int) ≠ 0 by decide)
    exact step_got2 hh (far _ (.inl (by omega)))
/-! ### _law_letter_wrong: the walk -/
theorem at_IB {t : List Int} {i : Int} {o : Int} (h0 : 0 ≤ i) (h : t[i.toNat]? = some o) : atI (t.map fun n => A.dat (.int n)) i = some (.dat (.int o)) := at_nat h0 (by rw [List.getElem?_map, h]; rfl)
section
variable {H0 : Hp} {δ : Sl} {ω : Om} {P : Post} {t u : TS} {tc td : TT}
/-- an if whose body ends the def -/
theorem sx_ifRet (h : ET H0 tc δ ω fun b ω1 => (b = true → SX H0 t δ ω1 { P with nx := fun _ _ => False }) ∧ (b = false → SX H0 u δ ω1 P)) : SX H0 (tSeq (tIfS tc t tNext) u) δ ω P := fun σ H vs as S D c =>
  h σ H vs as S _ fun b ω1 H1 ⟨h1, h2⟩ S1 => by
    cases b with
    | true => exact iteT (h1 rfl σ H1 vs as S1 _ ⟨fun _ _ _ _ z _ => z.elim, c.rt, c.bk, c.ct⟩)
    | false => exact iteF (h2 rfl σ H1 vs as S1 D c)
theorem et_andB {b1 b2 : Bool} {P : Bool → Om → Prop} (h1 : ET H0 tc δ ω fun b ω' => b = b1 ∧ ω' = ω) (h2 : b1 = true → ET H0 td δ ω fun b ω' => b = b2 ∧ ω' = ω) (p : P (b1 && b2) ω) : ET H0 (tAnd tc td) δ ω P := by
  refine et_and ?_
  intro σ H vs as S Q q
  refine h1 σ H vs as S Q ?_
  rintro b ω1 H1 ⟨rfl, rfl⟩ S1
  refine q _ _ H1 ?_ S1
  cases b with
  | true =>
    refine iteT ?_
    intro σ2 H2 vs2 as2 S2 Q2 q2
    refine h2 rfl σ2 H2 vs2 as2 S2 Q2 ?_
    rintro b' ω2 H3 ⟨rfl, rfl⟩ S3
    exact q2 _ _ H3 p S3
  | false => exact iteF p
end
def dBad (x : Row × Er) : PyData := .tuple [dRow x.1, .str (erName x.2)]
def R_l_letter_wrong (ds : List PyData) (r : Res Er) : Prop := ∃ (n : Int) (rows : List Row) (f : List Let) (c : Int), ds = [dRows rows, .int n, .int c] ∧ 1 ≤ n ∧ goL n 0 [] rows = .ok f ∧ rows.length ≤ 1000 ∧ r = .ok (dBad (letterWrongM n rows c))
abbrev sp_l_letter_wrong (K : PySem.W.Frag) (C : Er → Addr) : Sp := Pr C R_l_letter_wrong
theorem len_l_letter_wrong {ds : List PyData} {r : Res Er} (h : R_l_letter_wrong ds r) : ds.length = 3 := by
  obtain ⟨_, _, _, _, rfl, _⟩ := h; rfl
theorem wk_l_letter_wrong (K : PySem.W.Frag) (C : Er → Addr) (H : Hp) (ds : List PyData) (r : Res Er) (h : R_l_letter_wrong ds r) : SX H (t_l_letter_wrong K) (entry ds 6) [] (HandR r) := by
  obtain ⟨n, rows, f, c, rfl, h1, hgo, hz, rfl⟩ := h
  show SX H (t_l_letter_wrong K) [some (.arg (dRows rows)), some (.dat (.int n)), some (.dat (.int c)), none, none, none, none, none, none] [] _
  have hneed := goL_need hgo
  have hgl := goals_eq hgo
  rw [List.map_nil, List.nil_append] at hgl
  have hlen : (goalsM rows).length = f.length := by rw [← hgl, List.length_map]
  have hfl := goL_len hgo
  rw [List.length_nil, Nat.zero_add] at hfl
  have htl : (takenM rows).length ≤ rows.length := by
    unfold takenM
    rw [List.length_map]
    exact List.length_filter_le _ _
  have two : ∀ {w : Str} {ms : List Int}, Row.mk w ms ∈ rows → partsOf w = 3 → ms[1]? = some (ms.getD 1 0) := fun {w ms} hm hp => by
    obtain ⟨w', ms', e, _, hl⟩ := row_word (hneed _ hm)
    cases e
    rw [hp] at hl
    rw [List.getD_eq_getElem?_getD, List.getElem?_eq_getElem (by omega)]
    rfl
  have htk := fun x hx => taken_in hgo x hx
  unfold t_l_letter_wrong
  walk_at "y"
  refine el_dat (el_lcL rows (fun r => .dat (dRow r)) (by omega) isSendB (fun r => .int (thirdB r)) ?_ ?_ ?_)
  · walk_at "y"
    exact ⟨rfl, itm_rows rows, fun _ => itm_rows rows⟩
  · rintro r hr ω' ⟨acc, rfl⟩
    obtain ⟨w, ms, rfl, hw, _⟩ := row_word (hneed r hr)
    refine ⟨?_, fun hsd => ?_⟩
    · walk_at "y"
      refine eb_ixUT (.dat _) (d := .str w) at_cons ?_
      walk_at "y"
      refine eb_eqS (sh_word hw) shw_send ?_
      exact ⟨_, rfl, rfl, rfl⟩
    · have hw2 : w = wSend := of_decide_eq_true hsd
      walk_at "y"
      refine eb_ixUT (.dat _) (d := .int (ms.getD 1 0)) (at_ns (j := 1) (two hr (by rw [hw2]; exact po_send))) ?_
      exact ⟨rfl, rfl⟩
  refine ⟨(goalsM rows).map .int, by unfold goalsM; simp only [List.map_map]; rfl, ?_⟩
  walk_at "y"
  refine el_dat (el_lcL rows (fun r => .dat (dRow r)) (by omega) isGotB (fun r => .int (thirdB r)) ?_ ?_ ?_)
  · walk_at "y"
    exact ⟨rfl, itm_rows rows, fun _ => itm_rows rows⟩
  · rintro r hr ω' ⟨acc, rfl⟩
    obtain ⟨w, ms, rfl, hw, _⟩ := row_word (hneed r hr)
    refine ⟨?_, fun hsd => ?_⟩
    · walk_at "y"
      refine eb_ixUT (.dat _) (d := .str w) at_cons ?_
      walk_at "y"
      refine eb_eqS (sh_word hw) shw_got ?_
      exact ⟨_, rfl, rfl, rfl⟩
    · have hw2 : w = wGot := of_decide_eq_true hsd
      walk_at "y"
      refine eb_ixUT (.dat _) (d := .int (ms.getD 1 0)) (at_ns (j := 1) (two hr (by rw [hw2]; exact po_got))) ?_
      exact ⟨rfl, rfl⟩
  refine ⟨(takenM rows).map .int, by unfold takenM; simp only [List.map_map]; rfl, ?_⟩
  have hoth : othersM n rows c = ((List.range (goalsM rows).length).filter fun k : Nat => !decide ((goalsM rows).getD k 0 = c % n)).map fun k : Nat => (k : Int) := rfl
  have hM : letterWrongM n rows c = letterWrongM n rows c := rfl
  unfold letterWrongM at hM ⊢
  rw [hoth]
  clear hM hoth
  generalize goalsM rows = goals at hlen hgl
  generalize takenM rows = taken at htl htk
  walk_at "y"
  refine el_dat (el_lcR (n := goals.length) (by omega) (fun k => !decide (goals.getD k 0 = c % n)) (fun i => .int (i : Nat)) ?_ ?_ ?_)
  · walk_at "y"
    refine ec_len (itm_dI goals) ?_
    rw [List.length_map]
    walk_at "y"
    exact ⟨rfl, rfl⟩
  · rintro i hi ω' ⟨acc, rfl⟩
    obtain ⟨x, hx⟩ : ∃ x, goals[i]? = some x := ⟨_, List.getElem?_eq_getElem hi⟩
    have hxD : goals.getD i 0 = x := by rw [List.getD_eq_getElem?_getD, hx]; rfl
    refine ⟨?_, fun _ => ?_⟩
    · walk_at "y"
      refine eb_ixUL (itm_dI goals) (at_IB (Int.natCast_nonneg _) (by rw [Int.toNat_natCast]; exact hx)) ?_
      walk_at "y"
      refine eb_mod (by omega) ?_
      refine eb_neI ?_
      exact ⟨_, rfl, by rw [hxD], rfl⟩
    · walk_at "y"
      exact ⟨rfl, rfl⟩
  refine ⟨(((List.range goals.length).filter fun k : Nat => !decide (goals.getD k 0 = c % n)).map fun k : Nat => (k : Int)).map .int, by simp only [List.map_map]; rfl, ?_⟩
  have hol : (((List.range goals.length).filter fun k : Nat => !decide (goals.getD k 0 = c % n)).map fun k : Nat => (k : Int)).length ≤ 1000 := by
    rw [List.length_map]
    have := List.length_filter_le (fun k : Nat => !decide (goals.getD k 0 = c % n)) (List.range goals.length)
    rw [List.length_range] at this
    omega
  generalize (((List.range goals.length).filter fun k : Nat => !decide (goals.getD k 0 = c % n)).map fun k : Nat => (k : Int)) = others at hol
  have s0 : SeqAt.shaped (.list []) = true := shaped_ints []
  -- the first way
  refine sx_ifRet (et_andB (b1 := decide (c / 40 % 3 = 1)) (b2 := !decide (others = [])) ?_ (fun _ => ?_) ⟨fun z => ?_, fun z => ?_⟩)
  · walk_at "y"
    exact ⟨_, rfl, rfl, rfl⟩
  · walk_at "y"
    refine el_dat (el_lst ?_)
    walk_at "y"
    refine ⟨szOk (by simp), [], rfl, ?_⟩
    refine eb_neD (d := dI others) (e := dI []) (.dat _) (.dat _) (shaped_ints _) (shaped_ints _) ?_
    rw [eqv_dI]
    exact ⟨_, rfl, rfl, rfl⟩
  · have hc : c / 40 % 3 = 1 ∧ others ≠ [] := by simpa using z
    rw [if_pos hc]
    obtain ⟨p0, p1, p2⟩ := pick_mem hc.2 (c / 120)
    have hol1 := List.length_pos_iff.mpr hc.2
    generalize others.getD (c / 120 % (others.length : Int)).toNat 0 = l at p1
    walk_at "y"
    refine eb_mod (by omega) ?_
    walk_at "y"
    refine ec_len (itm_dI others) ?_
    rw [List.length_map]
    refine eb_mod (by omega) ?_
    refine eb_ixUL (itm_dI others) (at_IB p0 p1) ?_
    walk_at "y"
    refine ⟨[.str wGot, .int (c % n), .int l], rfl, szOk (show 3 ≤ 16777216 by decide), ?_⟩
    walk_at "y"
    refine ⟨[.tuple [.str wGot, .int (c % n), .int l], .str (erName .NoLetter)], rfl, szOk (show 2 ≤ 16777216 by decide), ?_⟩
    exact .dat _
  have hn1 : ¬ (c / 40 % 3 = 1 ∧ others ≠ []) := fun y => by
    rw [decide_eq_true y.1, decide_eq_false y.2] at z
    cases z
  rw [if_neg hn1]
  -- the second way
  refine sx_ifRet (et_andB (b1 := decide (c / 40 % 3 = 2)) (b2 := !decide (taken = [])) ?_ (fun _ => ?_) ⟨fun z => ?_, fun z => ?_⟩)
  · walk_at "y"
    exact ⟨_, rfl, rfl, rfl⟩
  · walk_at "y"
    refine el_dat (el_lst ?_)
    walk_at "y"
    refine ⟨szOk (by simp), [], rfl, ?_⟩
    refine eb_neD (d := dI taken) (e := dI []) (.dat _) (.dat _) (shaped_ints _) (shaped_ints _) ?_
    rw [eqv_dI]
    exact ⟨_, rfl, rfl, rfl⟩
  · have hc : c / 40 % 3 = 2 ∧ taken ≠ [] := by simpa using z
    rw [if_pos hc]
    obtain ⟨p0, p1, p2⟩ := pick_mem hc.2 (c / 120)
    have hol1 := List.length_pos_iff.mpr hc.2
    generalize taken.getD (c / 120 % (taken.length : Int)).toNat 0 = l at p1 p2
    obtain ⟨i, y, rfl, hy, hg⟩ := htk l p2
    have hil := (List.getElem?_eq_some_iff.mp hy).1
    have hgi : goals[((i : Nat) : Int).toNat]? = some (goals.getD ((i : Nat) : Int).toNat 0) := by
      rw [Int.toNat_natCast, List.getD_eq_getElem?_getD, List.getElem?_eq_getElem (by omega)]
      rfl
    generalize goals.getD ((i : Nat) : Int).toNat 0 = go at hgi
    walk_at "y"
    refine ec_len (itm_dI taken) ?_
    rw [List.length_map]
    refine eb_mod (by omega) ?_
    refine eb_ixUL (itm_dI taken) (at_IB p0 p1) ?_
    walk_at "y"
    refine eb_ixUL (itm_dI goals) (at_IB (Int.natCast_nonneg _) hgi) ?_
    walk_at "y"
    refine ⟨[.str wGot, .int go, .int (i : Nat)], rfl, szOk (show 3 ≤ 16777216 by decide), ?_⟩
    walk_at "y"
    refine ⟨[.tuple [.str wGot, .int go, .int (i : Nat)], .str (erName .GotTwice)], rfl, szOk (show 2 ≤ 16777216 by decide), ?_⟩
    exact .dat _
  have hn2 : ¬ (c / 40 % 3 = 2 ∧ taken ≠ []) := fun y => by
    rw [decide_eq_true y.1, decide_eq_false y.2] at z
    cases z
  rw [if_neg hn2]
  refine sx_ifRet ?_
  walk_at "y"
  refine ⟨_, rfl, fun z => ?_, fun z => ?_⟩
  · rw [if_pos (of_decide_eq_true z)]
    walk_at "y"
    refine eb_mod (by omega) ?_
    walk_at "y"
    refine ec_len (itm_dI goals) ?_
    rw [List.length_map]
    walk_at "y"
    refine ⟨[.str wGot, .int (c % n), .int ((goals.length : Nat) + c / 240 % 9)], rfl, szOk (show 3 ≤ 16777216 by decide), ?_⟩
    walk_at "y"
    refine ⟨[.tuple [.str wGot, .int (c % n), .int ((goals.length : Nat) + c / 240 % 9)], .str (erName .NoLetter)], rfl, szOk (show 2 ≤ 16777216 by decide), ?_⟩
    exact .dat _
  · rw [if_neg (of_decide_eq_false z)]
    walk_at "y"
    refine eb_mod (by omega) ?_
    walk_at "y"
    refine eg_un (r := rNeg) (g := fun i => .int (-i)) ?_
    walk_at "y"
    refine ⟨1, .int (-1), rfl, fl_int _, ?_⟩
    walk_at "y"
    refine ⟨[.str wGot, .int (c % n), .int (-1 - c / 240 % 9)], rfl, szOk (show 3 ≤ 16777216 by decide), ?_⟩
    walk_at "y"
    refine ⟨[.tuple [.str wGot, .int (c % n), .int (-1 - c / 240 % 9)], .str (erName .NoLetter)], rfl, szOk (show 2 ≤ 16777216 by decide), ?_⟩
    exact .dat _
end Y

namespace Y
open PySem PySem.Spec L2
local macro_rules | `(tactic| walk_at "y1") => `(tactic| first
  | (fail_if_success (with_reducible show SX _ (tSeq (tIfS _ _ _) _) _ _ _)); (with_reducible refine sx_seq ?_)
  | with_reducible refine sx_asg ?_
  | with_reducible refine sx_if ?_
  | with_reducible refine sx_ret ?_
  | with_reducible refine sx_retN ?_
  | with_reducible refine sx_next ?_
  | with_reducible refine sx_app ?_
  | with_reducible refine sx_clear ?_
  | with_reducible refine sx_setL ?_
  | with_reducible refine sx_dput ?_
  | with_reducible refine sx_drop ?_
  | with_reducible refine eg_var (by with_unfolding_all rfl) ?_
  | with_reducible refine eg_int ?_
  | with_reducible refine eg_bl ?_
  | with_reducible refine eg_str ?_
  | with_reducible refine eg_non ?_
  | with_reducible refine eg_raw ?_
  | with_reducible refine eg_op ?_
  | with_reducible refine eg_cb ?_
  | with_reducible refine eg_tup ?_
  | with_reducible refine eg_isN ?_
  | with_reducible refine eg_notN ?_
  | with_reducible refine eg_and ?_
  | with_reducible refine eg_or ?_
  | with_reducible refine eg_not ?_
  | with_reducible refine eg_dnew ?_
  | with_reducible refine eg_dget ?_
  | with_reducible refine eg_dnotin ?_
  | with_reducible refine eg_un ?_
  | with_reducible refine eg_partsNot ?_
  | with_reducible refine eg_partsIx ?_
  | with_reducible refine et_test ?_
  | with_reducible refine et_B ?_
  | with_reducible refine et_not ?_
  | with_reducible refine et_and ?_
  | with_reducible refine et_or ?_
  | with_reducible refine et_yes ?_
  | with_reducible refine ea_nil ?_
  | with_reducible refine ea_cons ?_
  | with_reducible refine el_lst ?_
  | with_reducible refine el_slL ?_
  | with_reducible refine el_op ?_
  | with_reducible refine el_cb ?_
  | with_reducible refine el_lstRev ?_
  | with_reducible refine el_rng ?_
  | with_reducible refine eo_none ?_
  | with_reducible refine eo_some ?_
  | with_reducible refine sr_list ?_
  | with_reducible refine sr_rng ?_
  | with_reducible refine sr_enum ?_
  | with_reducible refine eb_add ?_
  | with_reducible refine eb_sub ?_
  | with_reducible refine eb_fdivL (by decide) (by decide) ?_
  | with_reducible refine eb_mulL (by decide) (by decide) ?_
  | with_reducible refine eb_mulR (by decide) (by decide) ?_
  | with_reducible refine eb_powL (by decide) (by decide) (by decide) ?_
  | with_reducible refine eb_mod (by decide) ?_
  | with_reducible refine eb_lt ?_
  | with_reducible refine eb_le ?_
  | with_reducible refine eb_gt ?_
  | with_reducible refine eb_ge ?_
  | with_reducible refine eb_eqI ?_
  | with_reducible refine eb_neI ?_
  | with_reducible refine eb_eqB ?_)
local macro_rules | `(tactic| walk_at "y1") => `(tactic| first
  | with_reducible refine call_cell ?_
  | with_reducible refine Exists.intro _ (Exists.intro _ (Exists.intro _ (And.intro (Eq.refl [A.raw (V.ref _), A.dat (PyData.int _)]) (And.intro (by assumption) (And.intro (by first | decide | omega) ?_))))))
local macro_rules | `(tactic| walk_at "y") => `(tactic| (repeat' (walk_at "y1")))
local macro_rules | `(tactic| walk_at "yi") => `(tactic| ((repeat' (walk_at "y1")); (with_reducible refine sx_seq ?_); (repeat' (walk_at "y1"))))


/-! ### _law_wrong (k02): plain -/
def handW (n kind c : Int) : Int := if kind < 2 ∧ c / 240 % 2 = 1 then beyond2 n (c / 480) else c % n
def moreW (c : Int) : Int := c * 48271 % 2147483647
def fitsW (n c : Int) : Row := if moreW c % 3 = 0 then .mk (wordM (moreW c)) [handW n 0 c, handW n 0 c] else if moreW c % 3 = 1 then .mk (wordM (moreW c)) [handW n 0 c, 0] else .mk (wordM (moreW c)) [handW n 0 c]
def wrong0 (n c : Int) : Row := if c / 40 % 6 = 0 then fitsW n c else if c / 40 % 6 = 1 then fitsW n c else if c / 40 % 6 = 2 then fitsW n c else if c / 40 % 6 = 3 then .mk noName [handW n 0 c] else if c / 40 % 6 = 4 then .mk (wordM (moreW c)) [handW n 0 c, handW n 0 c] else .emp
def wrong1 (n c : Int) : Row := if c / 40 % 6 = 0 then .mk wSend [handW n 1 c] else if c / 40 % 6 = 1 then .mk wSend [handW n 1 c, handW n 1 c, 0] else if c / 40 % 6 = 2 then .mk wGot [handW n 1 c] else if c / 40 % 6 = 3 then .mk wGot [handW n 1 c, 0, 0] else if c / 40 % 6 = 4 then .mk wNote [] else .mk wNote [handW n 1 c, 0]
def wrong2 (n c : Int) : Row := if c % 4 = 0 then .send (beyond2 n (c / 40)) (c % n) else if c % 4 = 1 then .got (beyond2 n (c / 40)) 0 else if c % 4 = 2 then .note (beyond2 n (c / 40)) else .send (beyond2 n (c / 40)) (beyond2 n (c / 40))
def wrongM2 (n : Int) (rows : List Row) (kind c : Int) : Row × Er :=
  if kind = 0 then (wrong0 n c, .NoRow) else if kind = 1 then (wrong1 n c, .NoRow) else if kind = 2 then (wrong2 n c, .NoHand)
  else if kind = 3 then (.send (c % n) (beyond2 n (c / 40)), .NoHand) else letterWrongM n rows c
theorem no_none : isWord noName = false := by decide +kernel
theorem step_got1 {n x y : Int} {k : Nat} {f : List Let} (h : needHand n x = some .NoHand) : stepL n k f (.got x y) = .error .NoHand := by
  simp only [stepL, needRow_got, List.getD_cons_zero, h]
theorem step_send1 {n x y : Int} {k : Nat} {f : List Let} (h : needHand n x = some .NoHand) : stepL n k f (.send x y) = .error .NoHand := by
  simp only [stepL, needRow_send, List.getD_cons_zero, h]
theorem fits_bad (n c : Int) : needRow (fitsW n c) = some .NoRow := by
  unfold fitsW
  split
  · exact needRow_bad (word_bad _)
  split
  · exact needRow_bad (word_bad _)
  · exact needRow_bad (word_bad _)
theorem wrong_step {n : Int} {rows : List Row} {f : List Let} (h1 : 1 ≤ n) (hgo : goL n 0 [] rows = .ok f) (kind c : Int) (k : Nat) : stepL n k f (wrongM2 n rows kind c).1 = .error (wrongM2 n rows kind c).2 := by
  have hh := needHand_ok.mpr (show 0 ≤ c % n ∧ c % n < n from ⟨Int.emod_nonneg _ (by omega), Int.emod_lt_of_pos _ (by omega)⟩)
  have hb := beyond2_bad (show 0 ≤ n by omega) (c / 40)
  unfold wrongM2
  split
  · refine step_row ?_
    unfold wrong0
    split
    · exact fits_bad n c
    split
    · exact fits_bad n c
    split
    · exact fits_bad n c
    split
    · exact needRow_bad no_none
    split
    · exact needRow_bad (word_bad _)
    · rfl
  split
  · refine step_row ?_
    unfold wrong1
    split
    · exact needRow_len isW_send (by rw [po_send]; simp)
    split
    · exact needRow_len isW_send (by rw [po_send]; simp)
    split
    · exact needRow_len isW_got (by rw [po_got]; simp)
    split
    · exact needRow_len isW_got (by rw [po_got]; simp)
    split
    · exact needRow_len isW_note (by rw [po_note]; simp)
    · exact needRow_len isW_note (by rw [po_note]; simp)
  split
  · unfold wrong2
    split
    · exact step_send1 hb
    split
    · exact step_got1 hb
    split
    · exact step_note hb
    · exact step_send1 hb
  split
  · exact step_send2 hh hb
  · exact lw_bad h1 hgo c k
/-- the texts of rows are texts -/
def rowS : Row → Bool
  | .emp => true
  | .mk w _ => PyData.strOk w
theorem fits_str (n c : Int) : rowS (fitsW n c) = true := by
  unfold fitsW
  split
  · exact word_ok _
  split
  · exact word_ok _
  · exact word_ok _
theorem send_str : PyData.strOk wSend = true := by decide +kernel
theorem got_str : PyData.strOk wGot = true := by decide +kernel
theorem note_str : PyData.strOk wNote = true := by decide +kernel
theorem wrong_str (n : Int) (rows : List Row) (kind c : Int) : rowS (wrongM2 n rows kind c).1 = true := by
  unfold wrongM2
  split
  · show rowS (wrong0 n c) = true
    unfold wrong0
    split
    · exact fits_str n c
    split
    · exact fits_str n c
    split
    · exact fits_str n c
    split
    · show PyData.strOk noName = true
      decide +kernel
    split
    · exact word_ok _
    · rfl
  split
  · show rowS (wrong1 n c) = true
    unfold wrong1
    split
    · exact send_str
    split
    · exact send_str
    split
    · exact got_str
    split
    · exact got_str
    split
    · exact note_str
    · exact note_str
  split
  · show rowS (wrong2 n c) = true
    unfold wrong2
    split
    · exact send_str
    split
    · exact got_str
    split
    · exact note_str
    · exact send_str
  split
  · exact send_str
  · unfold letterWrongM
    split
    · exact got_str
    split
    · exact got_str
    split
    · exact got_str
    · exact got_str
/-! ### _law_wrong (k02): the walk -/
def R_l_wrong (ds : List PyData) (r : Res Er) : Prop := ∃ (n : Int) (rows : List Row) (f : List Let) (kind c : Int), ds = [dRows rows, .int n, .int kind, .int c] ∧ (1 ≤ n ∧ n ≤ 40) ∧ goL n 0 [] rows = .ok f ∧ rows.length ≤ 1000 ∧ (0 ≤ kind ∧ kind ≤ 4) ∧ r = .ok (dBad (wrongM2 n rows kind c))
abbrev sp_l_wrong (K : PySem.W.Frag) (C : Er → Addr) : Sp := Pr C R_l_wrong
theorem len_l_wrong {ds : List PyData} {r : Res Er} (h : R_l_wrong ds r) : ds.length = 4 := by
  obtain ⟨_, _, _, _, _, rfl, _⟩ := h; rfl
section
variable {K : PySem.W.Frag} {C : Er → Addr} {H0 : Hp} {δ : Sl} {ω : Om} {E : XK} {ts : TA} {P : A → Om → Prop}
theorem call_beyond2 {m c : Int} (h : EA H0 ts δ ω fun bs ω1 => RdA ω1 bs [.int m, .int c] ∧ P (.dat (.int (beyond2 m c))) ω1) : EG H0 (tCall (sp_l_beyond K C) [] E ts) δ ω P :=
  eg_call fun σ H vs as S Q q => h σ H vs as S Q fun bs ω' us H' ⟨hr, hp⟩ hl' S' => q bs ω' us H' ⟨_, _, hr, ⟨m, c, rfl, rfl⟩, hp⟩ hl' S'
theorem call_word {c : Int} (h : EA H0 ts δ ω fun bs ω1 => RdA ω1 bs [.int c] ∧ P (.dat (.str (wordM c))) ω1) : EG H0 (tCall (sp_l_word K C) [] E ts) δ ω P :=
  eg_call fun σ H vs as S Q q => h σ H vs as S Q fun bs ω' us H' ⟨hr, hp⟩ hl' S' => q bs ω' us H' ⟨_, _, hr, ⟨c, rfl, rfl⟩, hp⟩ hl' S'
theorem call_letter_wrong {n : Int} {rows : List Row} {f : List Let} {c : Int} (h1 : 1 ≤ n) (hgo : goL n 0 [] rows = .ok f) (hz : rows.length ≤ 1000) (h : EA H0 ts δ ω fun bs ω1 => RdA ω1 bs [dRows rows, .int n, .int c] ∧ P (.dat (dBad (letterWrongM n rows c))) ω1) : EG H0 (tCall (sp_l_letter_wrong K C) [] E ts) δ ω P :=
  eg_call fun σ H vs as S Q q => h σ H vs as S Q fun bs ω' us H' ⟨hr, hp⟩ hl' S' => q bs ω' us H' ⟨_, _, hr, ⟨n, rows, f, c, rfl, h1, hgo, hz, rfl⟩, hp⟩ hl' S'
end
theorem wk_l_wrong (K : PySem.W.Frag) (C : Er → Addr) (H : Hp) (ds : List PyData) (r : Res Er) (h : R_l_wrong ds r) : SX H (t_l_wrong K (sp_l_beyond K C) (sp_l_word K C) (sp_l_letter_wrong K C)) (entry ds 6) [] (HandR r) := by
  obtain ⟨n, rows, f, kind, c, rfl, ⟨h1, h2⟩, hgo, hz, hk, rfl⟩ := h
  show SX H (t_l_wrong K (sp_l_beyond K C) (sp_l_word K C) (sp_l_letter_wrong K C)) [some (.arg (dRows rows)), some (.dat (.int n)), some (.dat (.int kind)), some (.dat (.int c)), none, none, none, none, none, none] [] _
  have six : c / 40 % 6 = 0 ∨ c / 40 % 6 = 1 ∨ c / 40 % 6 = 2 ∨ c / 40 % 6 = 3 ∨ c / 40 % 6 = 4 ∨ c / 40 % 6 = 5 := by omega
  have four : c % 4 = 0 ∨ c % 4 = 1 ∨ c % 4 = 2 ∨ c % 4 = 3 := by omega
  have three : moreW c % 3 = 0 ∨ moreW c % 3 = 1 ∨ moreW c % 3 = 2 := by omega
  unfold t_l_wrong
  walk_at "y"
  refine eb_mod (by omega) ?_
  walk_at "y"
  refine sx_cut (fun δ ω => ω = [] ∧ δ = [some (.arg (dRows rows)), some (.dat (.int n)), some (.dat (.int kind)), some (.dat (.int c)), some (.dat (.int (handW n kind c))), none, none, none, none, none]) ?_ ?_
  · refine sx_if (et_andB (b1 := decide (kind < 2)) (b2 := decide (c / 240 % 2 = 1)) ?_ (fun _ => ?_) ⟨fun z => ?_, fun z => ?_⟩)
    · walk_at "y"
      exact ⟨_, rfl, rfl, rfl⟩
    · walk_at "y"
      exact ⟨_, rfl, rfl, rfl⟩
    · have hc : kind < 2 ∧ c / 240 % 2 = 1 := by simpa using z
      walk_at "y"
      refine call_beyond2 (m := n) (c := c / 480) ?_
      walk_at "y"
      refine ⟨.cons (.dat _) (.cons (.dat _) .nil), ?_⟩
      exact ⟨rfl, by rw [show handW n kind c = beyond2 n (c / 480) from if_pos hc]; rfl⟩
    · have hc : ¬ (kind < 2 ∧ c / 240 % 2 = 1) := fun y => by
        rw [decide_eq_true y.1, decide_eq_true y.2] at z
        cases z
      walk_at "y"
      exact ⟨rfl, by rw [show handW n kind c = c % n from if_neg hc]; rfl⟩
  rintro δ ω ⟨rfl, rfl⟩
  -- kind 0
  refine sx_ifRet ?_
  walk_at "y"
  refine ⟨_, rfl, fun z => ?_, fun z => ?_⟩
  · have z := of_decide_eq_true z
    subst z
    rw [show wrongM2 n rows 0 c = (wrong0 n c, .NoRow) from rfl]
    have hw0 : wrong0 n c = wrong0 n c := rfl
    unfold wrong0 fitsW at hw0 ⊢
    clear hw0
    generalize handW n 0 c = hd
    walk_at "y"
    rw [show c * 48271 % 2147483647 = moreW c from rfl]
    refine call_word (c := moreW c) ?_
    walk_at "y"
    refine ⟨.cons (.dat _) .nil, ?_⟩
    generalize hwd : wordM (moreW c) = word
    walk_at "y"
    refine el_dat (el_lst ?_)
    walk_at "y"
    refine ⟨[.str word, .int hd, .int hd], rfl, szOk (show 3 ≤ 16777216 by decide), ?_⟩
    walk_at "y"
    refine ⟨[.str word, .int hd, .int 0], rfl, szOk (show 3 ≤ 16777216 by decide), ?_⟩
    walk_at "y"
    refine ⟨[.str word, .int hd], rfl, szOk (show 2 ≤ 16777216 by decide), ?_⟩
    walk_at "y"
    refine ⟨szOk (by simp), [Row.mk word [hd, hd], .mk word [hd, 0], .mk word [hd]].map dRow, rfl, ?_⟩
    walk_at "y"
    refine eb_ixUL (.dat _) (c := .dat (dRow (if moreW c % 3 = 0 then .mk word [hd, hd] else if moreW c % 3 = 1 then .mk word [hd, 0] else .mk word [hd]))) ?_ ?_
    · rcases three with e | e | e <;> rw [e] <;> rfl
    generalize (if moreW c % 3 = 0 then Row.mk word [hd, hd] else if moreW c % 3 = 1 then .mk word [hd, 0] else .mk word [hd]) = fits
    walk_at "y"
    refine el_dat (el_lst ?_)
    walk_at "y"
    refine ⟨[.str noName, .int hd], rfl, szOk (show 2 ≤ 16777216 by decide), ?_⟩
    walk_at "y"
    refine ⟨[.str word, .int hd, .int hd], rfl, szOk (show 3 ≤ 16777216 by decide), ?_⟩
    walk_at "y"
    refine ⟨[], rfl, szOk (show 0 ≤ 16777216 by decide), ?_⟩
    walk_at "y"
    refine ⟨szOk (by simp), [fits, fits, fits, Row.mk noName [hd], .mk word [hd, hd], .emp].map dRow, rfl, ?_⟩
    walk_at "y"
    refine eb_ixUL (.dat _) (c := .dat (dRow (if c / 40 % 6 = 0 then fits else if c / 40 % 6 = 1 then fits else if c / 40 % 6 = 2 then fits else if c / 40 % 6 = 3 then .mk noName [hd] else if c / 40 % 6 = 4 then .mk word [hd, hd] else .emp))) ?_ ?_
    · rcases six with e | e | e | e | e | e <;> rw [e] <;> rfl
    walk_at "y"
    refine ⟨[dRow _, .str (erName .NoRow)], rfl, szOk (show 2 ≤ 16777216 by decide), ?_⟩
    exact .dat _
  have z0 := of_decide_eq_false z
  -- kind 1
  refine sx_ifRet ?_
  walk_at "y"
  refine ⟨_, rfl, fun z => ?_, fun z => ?_⟩
  · have z := of_decide_eq_true z
    subst z
    rw [show wrongM2 n rows 1 c = (wrong1 n c, .NoRow) from rfl]
    unfold wrong1
    generalize handW n 1 c = hd
    walk_at "y"
    refine el_own (el_lst ?_)
    walk_at "y"
    refine ⟨[.str wSend, .int hd], rfl, szOk (show 2 ≤ 16777216 by decide), ?_⟩
    walk_at "y"
    refine ⟨[.str wSend, .int hd, .int hd, .int 0], rfl, szOk (show 4 ≤ 16777216 by decide), ?_⟩
    walk_at "y"
    refine ⟨[.str wGot, .int hd], rfl, szOk (show 2 ≤ 16777216 by decide), ?_⟩
    walk_at "y"
    refine ⟨[.str wGot, .int hd, .int 0, .int 0], rfl, szOk (show 4 ≤ 16777216 by decide), ?_⟩
    walk_at "y"
    refine ⟨[.str wNote], rfl, szOk (show 1 ≤ 16777216 by decide), ?_⟩
    walk_at "y"
    refine ⟨szOk (by simp), ?_⟩
    walk_at "y"
    refine ⟨0, _, rfl, rfl, ?_⟩
    walk_at "y"
    refine ⟨[.str wNote, .int hd, .int 0], rfl, szOk (show 3 ≤ 16777216 by decide), ?_⟩
    walk_at "y"
    refine ⟨_, _, rfl, rfl, szLt (by simp), ?_⟩
    walk_at "y"
    refine eb_ixUL (.ptr rfl) (c := .dat (dRow (if c / 40 % 6 = 0 then .mk wSend [hd] else if c / 40 % 6 = 1 then .mk wSend [hd, hd, 0] else if c / 40 % 6 = 2 then .mk wGot [hd] else if c / 40 % 6 = 3 then .mk wGot [hd, 0, 0] else if c / 40 % 6 = 4 then .mk wNote [] else .mk wNote [hd, 0]))) ?_ ?_
    · rcases six with e | e | e | e | e | e <;> rw [e] <;> rfl
    walk_at "y"
    refine ⟨[dRow _, .str (erName .NoRow)], rfl, szOk (show 2 ≤ 16777216 by decide), ?_⟩
    exact .dat _
  have z1 := of_decide_eq_false z
  have hhd : handW n kind c = c % n := by
    unfold handW
    rw [if_neg (by omega)]
  rw [hhd]
  -- kind 2
  refine sx_ifRet ?_
  walk_at "y"
  refine ⟨_, rfl, fun z => ?_, fun z => ?_⟩
  · have z := of_decide_eq_true z
    subst z
    rw [show wrongM2 n rows 2 c = (wrong2 n c, .NoHand) from rfl]
    unfold wrong2
    generalize c % n = hd
    walk_at "y"
    refine call_beyond2 (m := n) (c := c / 40) ?_
    walk_at "y"
    refine ⟨.cons (.dat _) (.cons (.dat _) .nil), ?_⟩
    generalize beyond2 n (c / 40) = far
    walk_at "y"
    refine el_dat (el_lst ?_)
    walk_at "y"
    refine ⟨[.str wSend, .int far, .int hd], rfl, szOk (show 3 ≤ 16777216 by decide), ?_⟩
    walk_at "y"
    refine ⟨[.str wGot, .int far, .int 0], rfl, szOk (show 3 ≤ 16777216 by decide), ?_⟩
    walk_at "y"
    refine ⟨[.str wNote, .int far], rfl, szOk (show 2 ≤ 16777216 by decide), ?_⟩
    walk_at "y"
    refine ⟨[.str wSend, .int far, .int far], rfl, szOk (show 3 ≤ 16777216 by decide), ?_⟩
    walk_at "y"
    refine ⟨szOk (by simp), [Row.send far hd, .got far 0, .note far, .send far far].map dRow, rfl, ?_⟩
    walk_at "y"
    refine eb_ixUL (.dat _) (c := .dat (dRow (if c % 4 = 0 then .send far hd else if c % 4 = 1 then .got far 0 else if c % 4 = 2 then .note far else .send far far))) ?_ ?_
    · rcases four with e | e | e | e <;> rw [e] <;> rfl
    walk_at "y"
    refine ⟨[dRow _, .str (erName .NoHand)], rfl, szOk (show 2 ≤ 16777216 by decide), ?_⟩
    exact .dat _
  have z2 := of_decide_eq_false z
  -- kind 3
  refine sx_ifRet ?_
  walk_at "y"
  refine ⟨_, rfl, fun z => ?_, fun z => ?_⟩
  · have z := of_decide_eq_true z
    subst z
    rw [show wrongM2 n rows 3 c = (.send (c % n) (beyond2 n (c / 40)), .NoHand) from rfl]
    generalize c % n = hd
    walk_at "y"
    refine call_beyond2 (m := n) (c := c / 40) ?_
    walk_at "y"
    refine ⟨.cons (.dat _) (.cons (.dat _) .nil), ?_⟩
    generalize beyond2 n (c / 40) = far
    walk_at "y"
    refine ⟨[.str wSend, .int hd, .int far], rfl, szOk (show 3 ≤ 16777216 by decide), ?_⟩
    walk_at "y"
    refine ⟨[dRow (.send hd far), .str (erName .NoHand)], rfl, szOk (show 2 ≤ 16777216 by decide), ?_⟩
    exact .dat _
  have z3 := of_decide_eq_false z
  rw [show wrongM2 n rows kind c = letterWrongM n rows c from (if_neg z0).trans ((if_neg z1).trans ((if_neg z2).trans (if_neg z3)))]
  walk_at "y"
  refine call_letter_wrong (c := c) h1 hgo hz ?_
  walk_at "y"
  exact ⟨.cons (.arg _) (.cons (.dat _) (.cons (.dat _) .nil)), .dat _⟩
end Y

namespace Y
open PySem PySem.Spec L2
local macro_rules | `(tactic| walk_at "y1") => `(tactic| first
  | (fail_if_success (with_reducible show SX _ (tSeq (tIfS _ _ _) _) _ _ _)); (with_reducible refine sx_seq ?_)
  | with_reducible refine sx_asg ?_
  | with_reducible refine sx_if ?_
  | with_reducible refine sx_ret ?_
  | with_reducible refine sx_retN ?_
  | with_reducible refine sx_next ?_
  | with_reducible refine sx_app ?_
  | with_reducible refine sx_clear ?_
  | with_reducible refine sx_setL ?_
  | with_reducible refine sx_dput ?_
  | with_reducible refine sx_drop ?_
  | with_reducible refine eg_var (by with_unfolding_all rfl) ?_
  | with_reducible refine eg_int ?_
  | with_reducible refine eg_bl ?_
  | with_reducible refine eg_str ?_
  | with_reducible refine eg_non ?_
  | with_reducible refine eg_raw ?_
  | with_reducible refine eg_op ?_
  | with_reducible refine eg_cb ?_
  | with_reducible refine eg_tup ?_
  | with_reducible refine eg_isN ?_
  | with_reducible refine eg_notN ?_
  | with_reducible refine eg_and ?_
  | with_reducible refine eg_or ?_
  | with_reducible refine eg_not ?_
  | with_reducible refine eg_dnew ?_
  | with_reducible refine eg_dget ?_
  | with_reducible refine eg_dnotin ?_
  | with_reducible refine eg_un ?_
  | with_reducible refine eg_partsNot ?_
  | with_reducible refine eg_partsIx ?_
  | with_reducible refine et_test ?_
  | with_reducible refine et_B ?_
  | with_reducible refine et_not ?_
  | with_reducible refine et_and ?_
  | with_reducible refine et_or ?_
  | with_reducible refine et_yes ?_
  | with_reducible refine ea_nil ?_
  | with_reducible refine ea_cons ?_
  | with_reducible refine el_lst ?_
  | with_reducible refine el_slL ?_
  | with_reducible refine el_op ?_
  | with_reducible refine el_cb ?_
  | with_reducible refine el_lstRev ?_
  | with_reducible refine el_rng ?_
  | with_reducible refine eo_none ?_
  | with_reducible refine eo_some ?_
  | with_reducible refine sr_list ?_
  | with_reducible refine sr_rng ?_
  | with_reducible refine sr_enum ?_
  | with_reducible refine eb_add ?_
  | with_reducible refine eb_sub ?_
  | with_reducible refine eb_fdivL (by decide) (by decide) ?_
  | with_reducible refine eb_mulL (by decide) (by decide) ?_
  | with_reducible refine eb_mulR (by decide) (by decide) ?_
  | with_reducible refine eb_powL (by decide) (by decide) (by decide) ?_
  | with_reducible refine eb_mod (by decide) ?_
  | with_reducible refine eb_lt ?_
  | with_reducible refine eb_le ?_
  | with_reducible refine eb_gt ?_
  | with_reducible refine eb_ge ?_
  | with_reducible refine eb_eqI ?_
  | with_reducible refine eb_neI ?_
  | with_reducible refine eb_eqB ?_)
local macro_rules | `(tactic| walk_at "y1") => `(tactic| first
  | with_reducible refine call_cell ?_
  | with_reducible refine Exists.intro _ (Exists.intro _ (Exists.intro _ (And.intro (Eq.refl [A.raw (V.ref _), A.dat (PyData.int _)]) (And.intro (by assumption) (And.intro (by first | decide | omega) ?_))))))
local macro_rules | `(tactic| walk_at "y") => `(tactic| (repeat' (walk_at "y1")))
local macro_rules | `(tactic| walk_at "yi") => `(tactic| ((repeat' (walk_at "y1")); (with_reducible refine sx_seq ?_); (repeat' (walk_at "y1"))))


/-! ### _law_history: plain -/
def wSent : Str := PySem.Str.ofString "sent"
theorem not_sent : isWord wSent = false := by decide +kernel
def cellsH (ns : List Int) : List Int := (List.range (cellAt ns 2 % 61).toNat).map fun k : Nat => (cellAt ns 2 / 7 + 104729 * (k : Int)) * 48271 % 2147483647
def kindH (k : Int) : Int := if k = 0 then 0 else if k = 1 then 1 else if k = 2 then 2 else if k = 3 then 3 else if k = 4 then 4 else if k = 5 then 4 else if k = 6 then 4 else 0
def tailH (ns : List Int) (n : Int) (rows : List Row) (at1 : Nat) : List Row := if cellAt ns 5 % 2 = 1 then [(wrongM2 n [] (cellAt ns 5 / 2 % 4) (cellAt ns 6)).1] ++ rows.drop at1 else rows.drop at1
def placeH (ns : List Int) (rows : List Row) : Int := cellAt ns 3 % ((rows.length : Int) + 1)
def histA (ns : List Int) (n : Int) (rows : List Row) (kind : Int) : List Row × Option Er :=
  ((rows.take (placeH ns rows).toNat ++ [(wrongM2 n (rows.take (placeH ns rows).toNat) (kindH kind) (cellAt ns 4)).1] ++ tailH ns n rows (placeH ns rows).toNat), some (wrongM2 n (rows.take (placeH ns rows).toNat) (kindH kind) (cellAt ns 4)).2)
def baseH (ns : List Int) (n : Int) (rows : List Row) : List Row := rows ++ List.replicate (1000 - rows.length) (.note (n - 1)) ++ List.replicate (cellAt ns 3 % 4).toNat (.note 0)
def setH (ns : List Int) (base : List Row) : List Row := if cellAt ns 4 % 3 = 1 then base.set (cellAt ns 5 % 1000).toNat (.mk wSent [0]) else base
def dueH (ns : List Int) (base : List Row) : Option Er := if 1000 < base.length then some .TooMany else if cellAt ns 4 % 3 = 1 then some .NoRow else none
def historyM (ns : List Int) (n : Int) : List Row × Option Er :=
  if cellAt ns 1 % 12 < 9 then histA ns n (rowsBy (cellsH ns) n) (cellAt ns 1 % 12)
  else if cellAt ns 1 % 12 = 10 then (setH ns (baseH ns n (rowsBy (cellsH ns) n)), dueH ns (baseH ns n (rowsBy (cellsH ns) n)))
  else (rowsBy (cellsH ns) n, none)
theorem goL_notes {n h : Int} (hh : 0 ≤ h ∧ h < n) : ∀ (m k : Nat) (f : List Let), goL n k f (List.replicate m (.note h)) = .ok f
  | 0, k, f => rfl
  | m + 1, k, f => by
    rw [List.replicate_succ]
    simp only [goL, stepL_note hh]
    exact goL_notes hh m (k + 1) f
theorem word_str {w : Str} (h : isWord w = true) : PyData.strOk w = true := by
  rcases isWord_cases h with rfl | rfl | rfl
  · exact send_str
  · exact got_str
  · exact note_str
theorem good_str {n : Int} {rows : List Row} {f : List Let} (hgo : goL n 0 [] rows = .ok f) : ∀ r ∈ rows, rowS r = true := fun r hr => by
  obtain ⟨w, ms, rfl, hw, _⟩ := row_word (goL_need hgo r hr)
  exact word_str hw
theorem lay_rowS {r : Row} (h : rowS r = true) : PyData.canLay0 (dRow r) = true ∧ PyData.depth (dRow r) ≤ 2 := by
  cases r with
  | emp => exact ⟨by simp [dRow, PyData.canLay0, PyData.canLayAll0], by simp [dRow, PyData.depth, PyData.depthAll]⟩
  | mk w ns =>
    have hd := depth_ints ns
    have h : PyData.strOk w = true := h
    constructor
    · simp only [dRow, PyData.canLay0, PyData.canLayAll0, Bool.and_eq_true]
      exact ⟨h, lay_ints ns⟩
    · simp only [dRow, PyData.depth, PyData.depthAll]
      omega
theorem lay_rowsS : ∀ {rows : List Row}, (∀ r ∈ rows, rowS r = true) → PyData.canLayAll0 (rows.map dRow) = true ∧ PyData.depthAll (rows.map dRow) ≤ 2
  | [], _ => ⟨by simp [PyData.canLayAll0], by simp [PyData.depthAll]⟩
  | r :: rows, h => by
    obtain ⟨a, b⟩ := lay_rowS (h r (by simp))
    obtain ⟨c, d⟩ := lay_rowsS (rows := rows) fun r hr => h r (by simp [hr])
    constructor
    · simp only [List.map_cons, PyData.canLayAll0, Bool.and_eq_true]; exact ⟨a, c⟩
    · simp only [List.map_cons, PyData.depthAll]; omega
theorem shaped_rowsS {rows : List Row} (h : ∀ r ∈ rows, rowS r = true) : SeqAt.shaped (dRows rows) = true := shaped_list (lay_rowsS h).1 (lay_rowsS h).2 (by decide)
theorem placeH_ok (ns : List Int) (rows : List Row) : 0 ≤ placeH ns rows ∧ placeH ns rows ≤ (rows.length : Int) := by
  unfold placeH
  have := Int.emod_nonneg (cellAt ns 3) (show (rows.length : Int) + 1 ≠ 0 by omega)
  have := Int.emod_lt_of_pos (cellAt ns 3) (show 0 < (rows.length : Int) + 1 by omega)
  omega
theorem tailH_len (ns : List Int) (n : Int) (rows : List Row) (at1 : Nat) : (tailH ns n rows at1).length ≤ rows.length - at1 + 1 := by
  unfold tailH
  split
  · simp only [List.length_append, List.length_singleton, List.length_drop]; omega
  · rw [List.length_drop]; omega
theorem cellsH_len (ns : List Int) : (cellsH ns).length ≤ 60 := by
  unfold cellsH
  rw [List.length_map, List.length_range]
  have := Int.emod_nonneg (cellAt ns 2) (show (61 : Int) ≠ 0 by decide)
  have := Int.emod_lt_of_pos (cellAt ns 2) (show (0 : Int) < 61 by decide)
  omega
structure HistOk (n : Int) (x : List Row × Option Er) : Prop where
  er : erOf (lettersM n x.1) = x.2
  len : x.1.length ≤ 1003
  str : ∀ r ∈ x.1, rowS r = true
theorem er_bad {n : Int} (h1 : 1 ≤ n ∧ n ≤ 40) {rows : List Row} {e : Er} (hz : rows.length ≤ 1000) (h : goL n 0 [] rows = .error e) : erOf (lettersM n rows) = some e := by
  unfold lettersM
  rw [if_neg (by omega), if_neg (by omega), h]
  rfl
theorem hist_ok {ns : List Int} {n : Int} (h1 : 1 ≤ n ∧ n ≤ 40) : HistOk n (historyM ns n) := by
  obtain ⟨f, hf⟩ := good_rows h1.1 h1.2 (show (cellsH ns).length ≤ 1000 by have := cellsH_len ns; omega)
  have hrl0 := (rb_ok n (cellsH ns)).len
  have hrl : (rowsBy (cellsH ns) n).length ≤ 60 := by have := cellsH_len ns; unfold rowsBy; omega
  obtain ⟨_, _, _, hgo⟩ := lettersM_ok hf
  unfold historyM
  generalize rowsBy (cellsH ns) n = rows at hf hrl hgo
  have hstr := good_str hgo
  split
  · -- a wrong row
    unfold histA
    have hp := placeH_ok ns rows
    have htl := tailH_len ns n rows (placeH ns rows).toNat
    have hts : ∀ r ∈ tailH ns n rows (placeH ns rows).toNat, rowS r = true := fun r hr => by
      unfold tailH at hr
      split at hr
      · rcases List.mem_append.mp hr with hr | hr
        · rw [List.mem_singleton.mp hr]
          exact wrong_str _ _ _ _
        · exact hstr r (List.mem_of_mem_drop hr)
      · exact hstr r (List.mem_of_mem_drop hr)
    generalize tailH ns n rows (placeH ns rows).toNat = tail at htl hts
    generalize (placeH ns rows).toNat = at1 at htl
    have hg2 := hgo
    rw [← List.take_append_drop at1 rows] at hg2
    obtain ⟨f1, g1, _⟩ := goL_split hg2
    have hlen : (rows.take at1 ++ [(wrongM2 n (rows.take at1) (kindH (cellAt ns 1 % 12)) (cellAt ns 4)).1] ++ tail).length ≤ 1000 := by
      simp only [List.length_append, List.length_take, List.length_singleton]; omega
    refine ⟨?_, Nat.le_trans hlen (by decide), fun r hr => ?_⟩
    · refine er_bad h1 hlen ?_
      have e : rows.take at1 ++ [(wrongM2 n (rows.take at1) (kindH (cellAt ns 1 % 12)) (cellAt ns 4)).1] ++ tail = rows.take at1 ++ (wrongM2 n (rows.take at1) (kindH (cellAt ns 1 % 12)) (cellAt ns 4)).1 :: tail := by simp
      rw [e]
      exact goL_bad _ _ _ _ _ _ _ _ g1 (wrong_step h1.1 g1 _ _ _)
    · rcases List.mem_append.mp hr with hr | hr
      · rcases List.mem_append.mp hr with hr | hr
        · exact hstr r (List.mem_of_mem_take hr)
        · rw [List.mem_singleton.mp hr]
          exact wrong_str _ _ _ _
      · exact hts r hr
  split
  · -- many rows
    have m0 := Int.emod_nonneg (cellAt ns 3) (show (4 : Int) ≠ 0 by decide)
    have m1 := Int.emod_lt_of_pos (cellAt ns 3) (show (0 : Int) < 4 by decide)
    have c0 := Int.emod_nonneg (cellAt ns 5) (show (1000 : Int) ≠ 0 by decide)
    have c1 := Int.emod_lt_of_pos (cellAt ns 5) (show (0 : Int) < 1000 by decide)
    have hbl : (baseH ns n rows).length = 1000 + (cellAt ns 3 % 4).toNat := by
      unfold baseH
      simp only [List.length_append, List.length_replicate]
      omega
    have hbg : goL n 0 [] (baseH ns n rows) = .ok f := by
      unfold baseH
      rw [goL_append, goL_append, hgo]
      simp only
      rw [goL_notes (by omega)]
      simp only
      exact goL_notes (by omega) _ _ _
    have hbs := good_str hbg
    generalize baseH ns n rows = base at hbl hbg hbs
    refine ⟨?_, ?_, fun r hr => ?_⟩
    · show erOf (lettersM n (setH ns base)) = dueH ns base
      have hsl : (setH ns base).length = base.length := by unfold setH; split; exact List.length_set; rfl
      unfold dueH
      split
      · unfold lettersM
        rw [if_neg (by omega), if_pos (by omega)]
        rfl
      split
      · rename_i h2 h3
        have hi : (cellAt ns 5 % 1000).toNat < base.length := by omega
        have e : setH ns base = base.take (cellAt ns 5 % 1000).toNat ++ Row.mk wSent [0] :: base.drop ((cellAt ns 5 % 1000).toNat + 1) := by
          unfold setH
          rw [if_pos h3, List.set_eq_take_append_cons_drop, if_pos hi]
        refine er_bad h1 (by omega) ?_
        rw [e]
        have hg2 := hbg
        rw [← List.take_append_drop (cellAt ns 5 % 1000).toNat base] at hg2
        obtain ⟨f1, g1, _⟩ := goL_split hg2
        exact goL_bad _ _ _ _ _ _ _ _ g1 (step_row (needRow_bad not_sent))
      · rename_i h2 h3
        have e : setH ns base = base := by unfold setH; rw [if_neg h3]
        rw [e]
        unfold lettersM
        rw [if_neg (by omega), if_neg (by omega), hbg]
        rfl
    · show (setH ns base).length ≤ 1003
      unfold setH
      split
      · rw [List.length_set]; omega
      · omega
    · have hr : r ∈ setH ns base := hr
      unfold setH at hr
      split at hr
      · rcases List.mem_or_eq_of_mem_set hr with hr | hr
        · exact hbs r hr
        · rw [hr]
          show PyData.strOk wSent = true
          decide +kernel
      · exact hbs r hr
  · refine ⟨?_, by show rows.length ≤ 1003; omega, hstr⟩
    show erOf (lettersM n rows) = none
    rw [hf]
    rfl
end Y

namespace Y
open PySem PySem.Spec L2
local macro_rules | `(tactic| walk_at "y1") => `(tactic| first
  | (fail_if_success (with_reducible show SX _ (tSeq (tIfS _ _ _) _) _ _ _)); (with_reducible refine sx_seq ?_)
  | with_reducible refine sx_asg ?_
  | with_reducible refine sx_if ?_
  | with_reducible refine sx_ret ?_
  | with_reducible refine sx_retN ?_
  | with_reducible refine sx_next ?_
  | with_reducible refine sx_app ?_
  | with_reducible refine sx_clear ?_
  | with_reducible refine sx_setL ?_
  | with_reducible refine sx_dput ?_
  | with_reducible refine sx_drop ?_
  | with_reducible refine eg_var (by with_unfolding_all rfl) ?_
  | with_reducible refine eg_int ?_
  | with_reducible refine eg_bl ?_
  | with_reducible refine eg_str ?_
  | with_reducible refine eg_non ?_
  | with_reducible refine eg_raw ?_
  | with_reducible refine eg_op ?_
  | with_reducible refine eg_cb ?_
  | with_reducible refine eg_tup ?_
  | with_reducible refine eg_isN ?_
  | with_reducible refine eg_notN ?_
  | with_reducible refine eg_and ?_
  | with_reducible refine eg_or ?_
  | with_reducible refine eg_not ?_
  | with_reducible refine eg_dnew ?_
  | with_reducible refine eg_dget ?_
  | with_reducible refine eg_dnotin ?_
  | with_reducible refine eg_un ?_
  | with_reducible refine eg_partsNot ?_
  | with_reducible refine eg_partsIx ?_
  | with_reducible refine et_test ?_
  | with_reducible refine et_B ?_
  | with_reducible refine et_not ?_
  | with_reducible refine et_and ?_
  | with_reducible refine et_or ?_
  | with_reducible refine et_yes ?_
  | with_reducible refine ea_nil ?_
  | with_reducible refine ea_cons ?_
  | with_reducible refine el_lst ?_
  | with_reducible refine el_slL ?_
  | with_reducible refine el_op ?_
  | with_reducible refine el_cb ?_
  | with_reducible refine el_lstRev ?_
  | with_reducible refine el_rng ?_
  | with_reducible refine eo_none ?_
  | with_reducible refine eo_some ?_
  | with_reducible refine sr_list ?_
  | with_reducible refine sr_rng ?_
  | with_reducible refine sr_enum ?_
  | with_reducible refine eb_add ?_
  | with_reducible refine eb_sub ?_
  | with_reducible refine eb_fdivL (by decide) (by decide) ?_
  | with_reducible refine eb_mulL (by decide) (by decide) ?_
  | with_reducible refine eb_mulR (by decide) (by decide) ?_
  | with_reducible refine eb_powL (by decide) (by decide) (by decide) ?_
  | with_reducible refine eb_mod (by decide) ?_
  | with_reducible refine eb_lt ?_
  | with_reducible refine eb_le ?_
  | with_reducible refine eb_gt ?_
  | with_reducible refine eb_ge ?_
  | with_reducible refine eb_eqI ?_
  | with_reducible refine eb_neI ?_
  | with_reducible refine eb_eqB ?_)
local macro_rules | `(tactic| walk_at "y1") => `(tactic| first
  | with_reducible refine call_cell ?_
  | with_reducible refine Exists.intro _ (Exists.intro _ (Exists.intro _ (And.intro (Eq.refl [A.raw (V.ref _), A.dat (PyData.int _)]) (And.intro (by assumption) (And.intro (by first | decide | omega) ?_))))))
local macro_rules | `(tactic| walk_at "y") => `(tactic| (repeat' (walk_at "y1")))
local macro_rules | `(tactic| walk_at "yi") => `(tactic| ((repeat' (walk_at "y1")); (with_reducible refine sx_seq ?_); (repeat' (walk_at "y1"))))


/-! ### _law_history: the walk -/
def R_l_history (ns : List Int) (ds : List PyData) (r : Res Er) : Prop := ∃ n : Int, ds = [.int n] ∧ (1 ≤ n ∧ n ≤ 40) ∧ r = .ok (.list [dRows (historyM ns n).1, .str (endName (historyM ns n).2)])
abbrev sp_l_history (K : PySem.W.Frag) (C : Er → Addr) : Sp := PrS K C R_l_history
theorem len_l_history {ns : List Int} {ds : List PyData} {r : Res Er} (h : R_l_history ns ds r) : ds.length + 1 = 2 := by
  obtain ⟨n, rfl, _⟩ := h; rfl
section
variable {K : PySem.W.Frag} {C : Er → Addr} {H0 : Hp} {δ : Sl} {ω : Om} {E : XK} {ts : TA} {P : A → Om → Prop}
theorem call_wrong2 {n : Int} {rows : List Row} {f : List Let} {kind c : Int} (h1 : 1 ≤ n ∧ n ≤ 40) (hgo : goL n 0 [] rows = .ok f) (hz : rows.length ≤ 1000) (hk : 0 ≤ kind ∧ kind ≤ 4) (h : EA H0 ts δ ω fun bs ω1 => RdA ω1 bs [dRows rows, .int n, .int kind, .int c] ∧ P (.dat (dBad (wrongM2 n rows kind c))) ω1) : EG H0 (tCall (sp_l_wrong K C) [] E ts) δ ω P :=
  eg_call fun σ H vs as S Q q => h σ H vs as S Q fun bs ω' us H' ⟨hr, hp⟩ hl' S' => q bs ω' us H' ⟨_, _, hr, ⟨n, rows, f, kind, c, rfl, h1, hgo, hz, hk, rfl⟩, hp⟩ hl' S'
end
theorem kindH_ok (k : Int) : 0 ≤ kindH k ∧ kindH k ≤ 4 := by
  unfold kindH
  split
  · omega
  split
  · omega
  split
  · omega
  split
  · omega
  split
  · omega
  split
  · omega
  split
  · omega
  · omega
theorem base_len {ns : List Int} {n : Int} {rows : List Row} (h : rows.length ≤ 60) : (baseH ns n rows).length = 1000 + (cellAt ns 3 % 4).toNat := by
  unfold baseH
  simp only [List.length_append, List.length_replicate]
  omega
theorem wk_l_history (K : PySem.W.Frag) (C : Er → Addr) (H : Hp) (a : Addr) (ns : List Int) (ds : List PyData) (r : Res Er) (hS : SqL K H a (ns.map V.int)) (h : R_l_history ns ds r) : SX H (t_l_history K (sp_l_cell_at K C) (sp_l_rows_by K C) (sp_l_wrong K C)) (some (.raw (.ref a)) :: entry ds 8) [] (HandR r) := by
  obtain ⟨n, rfl, ⟨h1, h2⟩, rfl⟩ := h
  show SX H (t_l_history K (sp_l_cell_at K C) (sp_l_rows_by K C) (sp_l_wrong K C)) [some (.raw (.ref a)), some (.dat (.int n)), none, none, none, none, none, none, none, none] [] _
  have hm0 : 0 ≤ cellAt ns 2 % 61 ∧ cellAt ns 2 % 61 < 61 := ⟨Int.emod_nonneg _ (by decide), Int.emod_lt_of_pos _ (by decide)⟩
  unfold t_l_history
  walk_at "y"
  refine call_rows_by ?_
  walk_at "y"
  refine el_dat (el_lcR (n := (cellAt ns 2 % 61).toNat) (by omega) (fun _ => true) (fun i => .int ((cellAt ns 2 / 7 + 104729 * (i : Int)) * 48271 % 2147483647)) ?_ ?_ ?_)
  · walk_at "y"
    rw [show (((cellAt ns 2 % 61).toNat : Nat) : Int) = cellAt ns 2 % 61 by omega]
    exact ⟨rfl, rfl⟩
  · rintro i hi ω' ⟨acc, rfl⟩
    refine ⟨?_, fun _ => ?_⟩
    · walk_at "y"
      exact ⟨rfl, rfl⟩
    · walk_at "y"
      exact ⟨rfl, rfl⟩
  rw [filter_yes]
  refine ⟨(cellsH ns).map .int, by unfold cellsH; simp only [List.map_map]; rfl, ?_⟩
  have hcl := cellsH_len ns
  walk_at "y"
  refine ⟨cellsH ns, n, .cons (.dat _) (.cons (.dat _) .nil), h1, h2, by omega, ?_⟩
  obtain ⟨f, hf⟩ := good_rows h1 h2 (show (cellsH ns).length ≤ 1000 by omega)
  have hrl0 := (rb_ok n (cellsH ns)).len
  have hrl : (rowsBy (cellsH ns) n).length ≤ 60 := by unfold rowsBy; omega
  have hH : historyM ns n = (if cellAt ns 1 % 12 < 9 then histA ns n (rowsBy (cellsH ns) n) (cellAt ns 1 % 12)
    else if cellAt ns 1 % 12 = 10 then (setH ns (baseH ns n (rowsBy (cellsH ns) n)), dueH ns (baseH ns n (rowsBy (cellsH ns) n)))
    else (rowsBy (cellsH ns) n, none)) := rfl
  rw [hH]
  clear hH
  generalize rowsBy (cellsH ns) n = rows at hf hrl
  obtain ⟨_, _, _, hgo⟩ := lettersM_ok hf
  have hk0 : 0 ≤ cellAt ns 1 % 12 ∧ cellAt ns 1 % 12 < 12 := ⟨Int.emod_nonneg _ (by decide), Int.emod_lt_of_pos _ (by decide)⟩
  walk_at "y"
  generalize cellAt ns 1 % 12 = kind at hk0
  -- the first if
  refine sx_cut (fun δ ω => ω = [] ∧ ∃ (k' : Int) (xr : List Row) (xd : Option Er) (u6 u7 u8 : Option A), ((kind < 9 ∧ (xr, xd) = histA ns n rows kind ∧ k' ≤ 4) ∨ (¬ kind < 9 ∧ rows = xr ∧ none = xd ∧ kind = k')) ∧ δ = [some (.raw (.ref a)), some (.dat (.int n)), some (.dat (.int (cellAt ns 2))), some (.dat (dRows xr)), some (.dat (.int k')), some (.dat (.str (endName xd))), u6, u7, u8, none]) ?_ ?_
  · walk_at "y"
    refine ⟨_, rfl, fun c9 => ?_, fun c9 => ?_⟩
    · have c9 := of_decide_eq_true c9
      walk_at "y"
      refine ec_len (.dat _) ?_
      rw [List.length_map, List.length_map]
      walk_at "y"
      refine eb_mod (by omega) ?_
      rw [show cellAt ns 3 % ((rows.length : Int) + 1) = placeH ns rows from rfl]
      have hp := placeH_ok ns rows
      walk_at "y"
      refine el_dat (el_lst ?_)
      walk_at "y"
      refine ⟨szOk (by simp), [.int 0, .int 1, .int 2, .int 3, .int 4, .int 4, .int 4, .int 0, .int 0], rfl, ?_⟩
      walk_at "y"
      have nine : kind = 0 ∨ kind = 1 ∨ kind = 2 ∨ kind = 3 ∨ kind = 4 ∨ kind = 5 ∨ kind = 6 ∨ kind = 7 ∨ kind = 8 := by omega
      refine eb_ixUL (.dat _) (c := .dat (.int (kindH kind))) ?_ ?_
      · rcases nine with e | e | e | e | e | e | e | e | e <;> rw [e] <;> rfl
      have hkk := kindH_ok kind
      unfold histA
      have htk : (rows.take (placeH ns rows).toNat).length ≤ 60 := by rw [List.length_take]; omega
      obtain ⟨f1, hg1⟩ : ∃ f1, goL n 0 [] (rows.take (placeH ns rows).toNat) = .ok f1 := by
        have hg2 := hgo
        rw [← List.take_append_drop (placeH ns rows).toNat rows] at hg2
        obtain ⟨f1, g1, _⟩ := goL_split hg2
        exact ⟨f1, g1⟩
      have htl := tailH_len ns n rows (placeH ns rows).toNat
      have htt : tailH ns n rows (placeH ns rows).toNat = (if cellAt ns 5 % 2 = 1 then [(wrongM2 n [] (cellAt ns 5 / 2 % 4) (cellAt ns 6)).1] ++ rows.drop (placeH ns rows).toNat else rows.drop (placeH ns rows).toNat) := rfl
      generalize tailH ns n rows (placeH ns rows).toNat = tail at htl htt
      generalize placeH ns rows = at1 at hp htk hg1 htl htt
      have lo : cutA (List.map A.dat (List.map dRow rows)) none (some at1) = ((rows.take at1.toNat).map dRow).map .dat := by
        rw [cut_loB _ hp.1 (by rw [List.length_map, List.length_map]; exact hp.2), List.map_take, List.map_take]
      have hi : cutA (List.map A.dat (List.map dRow rows)) (some at1) none = ((rows.drop at1.toNat).map dRow).map .dat := by
        rw [cut_hiB _ hp.1 (by rw [List.length_map, List.length_map]; exact hp.2), List.map_drop, List.map_drop]
      walk_at "y"
      refine call_wrong2 (rows := rows.take at1.toNat) (f := f1) (kind := kindH kind) (c := cellAt ns 4) ⟨h1, h2⟩ hg1 (by omega) hkk ?_
      walk_at "y"
      refine el_dat ?_
      walk_at "y"
      refine ⟨_, rfl, ?_⟩
      refine ⟨_, .dat _, (rows.take at1.toNat).map dRow, lo, ?_⟩
      walk_at "y"
      refine ⟨.cons (.dat _) (.cons (.dat _) (.cons (.dat _) (.cons (.dat _) .nil))), ?_⟩
      generalize wrongM2 n (rows.take at1.toNat) (kindH kind) (cellAt ns 4) = w
      walk_at "y"
      refine eb_ixUT (.dat _) (d := .str (erName w.2)) rfl ?_
      walk_at "y"
      refine el_dat ?_
      walk_at "y"
      refine ⟨_, rfl, ?_⟩
      walk_at "y"
      refine ⟨_, .dat _, (rows.drop at1.toNat).map dRow, hi, ?_⟩
      walk_at "y"
      refine sx_cut (fun δ ω => ω = [] ∧ δ = [some (.raw (.ref a)), some (.dat (.int n)), some (.dat (.int (cellAt ns 2))), some (.dat (dRows rows)), some (.dat (.int (kindH kind))), some (.dat (.str (erName w.2))), some (.dat (.int at1)), some (.dat (dBad w)), some (.dat (dRows tail)), none]) ?_ ?_
      · walk_at "y"
        refine ⟨_, rfl, fun c5 => ?_, fun c5 => ?_⟩
        · have c5 := of_decide_eq_true c5
          rw [if_pos c5] at htt
          have hq : 0 ≤ cellAt ns 5 / 2 % 4 ∧ cellAt ns 5 / 2 % 4 ≤ 4 := by
            have := Int.emod_nonneg (cellAt ns 5 / 2) (show (4 : Int) ≠ 0 by decide)
            have := Int.emod_lt_of_pos (cellAt ns 5 / 2) (show (0 : Int) < 4 by decide)
            omega
          walk_at "y"
          refine el_dat (el_lst ?_)
          walk_at "y"
          refine call_wrong2 (rows := []) (f := []) (kind := cellAt ns 5 / 2 % 4) (c := cellAt ns 6) ⟨h1, h2⟩ rfl (by simp) hq ?_
          walk_at "y"
          refine el_dat (el_lst ?_)
          walk_at "y"
          refine ⟨szOk (by simp), [], rfl, ?_⟩
          walk_at "y"
          refine ⟨.cons (.dat _) (.cons (.dat _) (.cons (.dat _) (.cons (.dat _) .nil))), ?_⟩
          generalize wrongM2 n [] (cellAt ns 5 / 2 % 4) (cellAt ns 6) = w2 at htt
          walk_at "y"
          refine eb_ixUT (.dat _) (d := dRow w2.1) rfl ?_
          walk_at "y"
          refine ⟨szOk (by simp), [dRow w2.1], rfl, ?_⟩
          walk_at "y"
          refine eb_dat (ebl_cat (.dat _) (.dat _) rfl rfl (szOk (by simp; omega)) ?_)
          refine ⟨tail.map dRow, by rw [htt, List.map_append (f := dRow), List.map_append]; rfl, ?_⟩
          walk_at "y"
          exact ⟨rfl, rfl⟩
        · have c5 := of_decide_eq_false c5
          rw [if_neg c5] at htt
          walk_at "y"
          exact ⟨rfl, by rw [htt]; rfl⟩
      rintro δ ω ⟨rfl, rfl⟩
      walk_at "y"
      refine el_dat ?_
      walk_at "y"
      refine ⟨_, rfl, ?_⟩
      refine ⟨_, .dat _, (rows.take at1.toNat).map dRow, lo, ?_⟩
      walk_at "y"
      refine el_dat (el_lst ?_)
      walk_at "y"
      refine eb_ixUT (.dat _) (d := dRow w.1) rfl ?_
      walk_at "y"
      refine ⟨szOk (by simp), [dRow w.1], rfl, ?_⟩
      refine eb_dat (ebl_cat (.dat _) (.dat _) rfl rfl (szOk (by simp; omega)) ?_)
      refine ⟨(rows.take at1.toNat ++ [w.1]).map dRow, by rw [List.map_append (f := dRow), List.map_append]; rfl, ?_⟩
      walk_at "y"
      refine eb_dat (ebl_cat (.dat _) (.dat _) rfl rfl (szOk (by simp; omega)) ?_)
      refine ⟨(rows.take at1.toNat ++ [w.1] ++ tail).map dRow, by simp only [List.map_append], ?_⟩
      walk_at "y"
      exact ⟨rfl, kindH kind, rows.take at1.toNat ++ [w.1] ++ tail, some w.2, _, _, _, .inl ⟨c9, rfl, hkk.2⟩, rfl⟩
    · have c9 := of_decide_eq_false c9
      walk_at "y"
      exact ⟨rfl, kind, rows, none, _, _, _, .inr ⟨c9, rfl, rfl, rfl⟩, rfl⟩
  rintro δ ω ⟨rfl, k', xr, xd, u6, u7, u8, hx, rfl⟩
  refine sx_cut (fun δ ω => ∃ (b : A) (m : List Row × Option Er) (u4 : Option A), m = (if kind < 9 then histA ns n rows kind else if kind = 10 then (setH ns (baseH ns n rows), dueH ns (baseH ns n rows)) else (rows, none)) ∧ ((ω = [] ∧ b = .dat (dRows m.1)) ∨ (ω = [lRows m.1] ∧ b = .ptr 0)) ∧ δ = [some (.raw (.ref a)), some (.dat (.int n)), some (.dat (.int (cellAt ns 2))), some b, u4, some (.dat (.str (endName m.2))), u6, u7, u8, none]) ?_ ?_
  · walk_at "y"
    refine ⟨_, rfl, fun c10 => ?_, fun c10 => ?_⟩
    · have c10 := of_decide_eq_true c10
      rcases hx with ⟨_, _, z⟩ | ⟨n9, rfl, rfl, rfl⟩
      · omega
      rw [if_neg n9, if_pos c10]
      have hbl := base_len (ns := ns) (n := n) hrl
      have q0 := Int.emod_nonneg (cellAt ns 3) (show (4 : Int) ≠ 0 by decide)
      have q1 := Int.emod_lt_of_pos (cellAt ns 3) (show (0 : Int) < 4 by decide)
      walk_at "y"
      refine el_dat (el_lst ?_)
      walk_at "y"
      refine ⟨[.str wNote, .int (n - 1)], rfl, szOk (show 2 ≤ 16777216 by decide), ?_⟩
      walk_at "y"
      refine ⟨szOk (by simp), [dRow (.note (n - 1))], rfl, ?_⟩
      walk_at "y"
      refine ec_len (.dat _) ?_
      walk_at "y"
      rw [List.length_map, List.length_map]
      refine eb_dat (ebl_rep (K := K) (.dat _) rfl (by omega) (by omega) (szOk (by simp; omega)) ?_)
      refine ⟨(List.replicate (1000 - rows.length) (Row.note (n - 1))).map dRow, ?_, ?_⟩
      · rw [show ((1000 : Int) - ((rows.length : Nat) : Int)).toNat = 1000 - rows.length by omega, List.map_replicate, List.map_replicate]
        exact rep_flat _ _
      refine eb_dat (ebl_cat (.dat _) (.dat _) rfl rfl (szOk (by simp; omega)) ?_)
      refine ⟨(rows ++ List.replicate (1000 - rows.length) (Row.note (n - 1))).map dRow, by rw [List.map_append (f := dRow), List.map_append], ?_⟩
      walk_at "y"
      refine el_dat (el_lst ?_)
      walk_at "y"
      refine ⟨[.str wNote, .int 0], rfl, szOk (show 2 ≤ 16777216 by decide), ?_⟩
      walk_at "y"
      refine ⟨szOk (by simp), [dRow (.note 0)], rfl, ?_⟩
      walk_at "y"
      refine eb_dat (ebl_rep (K := K) (.dat _) rfl (by omega) (by omega) (szOk (by simp; omega)) ?_)
      refine ⟨(List.replicate (cellAt ns 3 % 4).toNat (Row.note 0)).map dRow, ?_, ?_⟩
      · rw [List.map_replicate, List.map_replicate]
        exact rep_flat _ _
      refine eb_own (ebl_cat (.dat _) (.dat _) rfl rfl (szOk (by simp; omega)) ?_)
      rw [show List.map A.dat (List.map dRow (rows ++ List.replicate (1000 - rows.length) (Row.note (n - 1)))) ++ List.map A.dat (List.map dRow (List.replicate (cellAt ns 3 % 4).toNat (Row.note 0))) = (baseH ns n rows).map fun r => A.dat (dRow r) by
        rw [dat_rowsB]
        unfold baseH
        rw [List.map_append (f := dRow) (l₁ := rows ++ List.replicate (1000 - rows.length) (Row.note (n - 1))), List.map_append (f := A.dat)]]
      generalize baseH ns n rows = base at hbl
      walk_at "y"
      refine sx_cut (fun δ ω => ω = [lRows (setH ns base)] ∧ δ = [some (.raw (.ref a)), some (.dat (.int n)), some (.dat (.int (cellAt ns 2))), some (.ptr 0), some (.dat (.int kind)), some (.dat (.str (endName (if cellAt ns 4 % 3 = 1 then some Er.NoRow else none)))), u6, u7, u8, none]) ?_ ?_
      · walk_at "y"
        refine ⟨_, rfl, fun c3 => ?_, fun c3 => ?_⟩
        · have c3 := of_decide_eq_true c3
          rw [if_pos c3]
          have i0 := Int.emod_nonneg (cellAt ns 5) (show (1000 : Int) ≠ 0 by decide)
          have i1 := Int.emod_lt_of_pos (cellAt ns 5) (show (0 : Int) < 1000 by decide)
          walk_at "y"
          refine ⟨[.str wSent, .int 0], rfl, szOk (show 2 ≤ 16777216 by decide), ?_⟩
          walk_at "y"
          refine ⟨0, _, (cellAt ns 5 % 1000).toNat, _, rfl, rfl, rfl, ?_, ?_⟩
          · unfold ixN
            rw [if_pos i0, List.length_map, if_pos (by omega)]
          walk_at "y"
          refine ⟨?_, rfl⟩
          unfold setH
          rw [if_pos c3]
          show [Ob.lst _] = [Ob.lst _]
          rw [List.map_set]
          rfl
        · have c3 := of_decide_eq_false c3
          rw [if_neg c3]
          walk_at "y"
          exact ⟨by unfold setH; rw [if_neg c3]; rfl, rfl⟩
      rintro δ ω ⟨rfl, rfl⟩
      have hsl : (setH ns base).length = base.length := by unfold setH; split; exact List.length_set; rfl
      walk_at "y"
      refine ec_len (.ptr rfl) ?_
      rw [List.length_map, hsl]
      walk_at "y"
      refine ⟨_, rfl, fun cb => ?_, fun cb => ?_⟩
      · have cb := of_decide_eq_true cb
        walk_at "y"
        refine ⟨.ptr 0, _, some (.dat (.int kind)), rfl, .inr ⟨rfl, rfl⟩, ?_⟩
        rw [show dueH ns base = some Er.TooMany from if_pos (by omega)]
        rfl
      · have cb := of_decide_eq_false cb
        walk_at "y"
        refine ⟨.ptr 0, _, some (.dat (.int kind)), rfl, .inr ⟨rfl, rfl⟩, ?_⟩
        rw [show dueH ns base = (if cellAt ns 4 % 3 = 1 then some Er.NoRow else none) from if_neg (by omega)]
    · have c10 := of_decide_eq_false c10
      walk_at "y"
      refine ⟨.dat (dRows xr), (xr, xd), _, ?_, .inl ⟨rfl, rfl⟩, rfl⟩
      rcases hx with ⟨p9, e, _⟩ | ⟨n9, rfl, rfl, rfl⟩
      · rw [if_pos p9, e]
      · rw [if_neg n9, if_neg c10]
  rintro δ ω ⟨b, m, u4, hm, hb, rfl⟩
  rw [← hm]
  walk_at "y"
  refine el_own (el_lst ?_)
  walk_at "y"
  refine ⟨szOk (by simp), ?_⟩
  rcases hb with ⟨rfl, rfl⟩ | ⟨rfl, rfl⟩
  · exact .ptr (k := 0) rfl (.cons (.dat _) (.cons (.dat _) .nil))
  · refine .ptr (k := 1) rfl (.cons (.ptr (k := 0) rfl ?_) (.cons (.dat _) .nil))
    rw [dat_rowsB]
    exact FinA.dats _
end Y

namespace Y
open PySem PySem.Spec L2
local macro_rules | `(tactic| walk_at "y1") => `(tactic| first
  | (fail_if_success (with_reducible show SX _ (tSeq (tIfS _ _ _) _) _ _ _)); (with_reducible refine sx_seq ?_)
  | with_reducible refine sx_asg ?_
  | with_reducible refine sx_if ?_
  | with_reducible refine sx_ret ?_
  | with_reducible refine sx_retN ?_
  | with_reducible refine sx_next ?_
  | with_reducible refine sx_app ?_
  | with_reducible refine sx_clear ?_
  | with_reducible refine sx_setL ?_
  | with_reducible refine sx_dput ?_
  | with_reducible refine sx_drop ?_
  | with_reducible refine eg_var (by with_unfolding_all rfl) ?_
  | with_reducible refine eg_int ?_
  | with_reducible refine eg_bl ?_
  | with_reducible refine eg_str ?_
  | with_reducible refine eg_non ?_
  | with_reducible refine eg_raw ?_
  | with_reducible refine eg_op ?_
  | with_reducible refine eg_cb ?_
  | with_reducible refine eg_tup ?_
  | with_reducible refine eg_isN ?_
  | with_reducible refine eg_notN ?_
  | with_reducible refine eg_and ?_
  | with_reducible refine eg_or ?_
  | with_reducible refine eg_not ?_
  | with_reducible refine eg_dnew ?_
  | with_reducible refine eg_dget ?_
  | with_reducible refine eg_dnotin ?_
  | with_reducible refine eg_un ?_
  | with_reducible refine eg_partsNot ?_
  | with_reducible refine eg_partsIx ?_
  | with_reducible refine et_test ?_
  | with_reducible refine et_B ?_
  | with_reducible refine et_not ?_
  | with_reducible refine et_and ?_
  | with_reducible refine et_or ?_
  | with_reducible refine et_yes ?_
  | with_reducible refine ea_nil ?_
  | with_reducible refine ea_cons ?_
  | with_reducible refine el_lst ?_
  | with_reducible refine el_slL ?_
  | with_reducible refine el_op ?_
  | with_reducible refine el_cb ?_
  | with_reducible refine el_lstRev ?_
  | with_reducible refine el_rng ?_
  | with_reducible refine eo_none ?_
  | with_reducible refine eo_some ?_
  | with_reducible refine sr_list ?_
  | with_reducible refine sr_rng ?_
  | with_reducible refine sr_enum ?_
  | with_reducible refine eb_add ?_
  | with_reducible refine eb_sub ?_
  | with_reducible refine eb_fdivL (by decide) (by decide) ?_
  | with_reducible refine eb_mulL (by decide) (by decide) ?_
  | with_reducible refine eb_mulR (by decide) (by decide) ?_
  | with_reducible refine eb_powL (by decide) (by decide) (by decide) ?_
  | with_reducible refine eb_mod (by decide) ?_
  | with_reducible refine eb_lt ?_
  | with_reducible refine eb_le ?_
  | with_reducible refine eb_gt ?_
  | with_reducible refine eb_ge ?_
  | with_reducible refine eb_eqI ?_
  | with_reducible refine eb_neI ?_
  | with_reducible refine eb_eqB ?_)
local macro_rules | `(tactic| walk_at "y1") => `(tactic| first
  | with_reducible refine call_cell ?_
  | with_reducible refine Exists.intro _ (Exists.intro _ (Exists.intro _ (And.intro (Eq.refl [A.raw (V.ref _), A.dat (PyData.int _)]) (And.intro (by assumption) (And.intro (by first | decide | omega) ?_))))))
local macro_rules | `(tactic| walk_at "y") => `(tactic| (repeat' (walk_at "y1")))
local macro_rules | `(tactic| walk_at "yi") => `(tactic| ((repeat' (walk_at "y1")); (with_reducible refine sx_seq ?_); (repeat' (walk_at "y1"))))


/-! ### the law k02 -/
def farL (ns : List Int) : Int := cellAt ns 7 % 10 ^ 60
def badL (ns : List Int) : Int := if farL ns % 4 = 0 then 0 else if farL ns % 4 = 1 then 41 else if farL ns % 4 = 2 then -farL ns * farL ns else 41 + farL ns * farL ns
theorem farL_ok (ns : List Int) : 0 ≤ farL ns ∧ farL ns < 10 ^ 60 := ⟨Int.emod_nonneg _ (by decide +kernel), Int.emod_lt_of_pos _ (by decide +kernel)⟩
theorem log_small {i : Int} (h : 0 ≤ i ∧ i < 10 ^ 60) : i.natAbs.log2 < 250 := by
  have hb : (10 : Int) ^ 60 ≤ 2 ^ 250 := by decide +kernel
  have h2 : i.natAbs < 2 ^ 250 := by
    have : ((i.natAbs : Nat) : Int) < ((2 ^ 250 : Nat) : Int) := by
      rw [Int.natAbs_of_nonneg h.1]
      have e : ((2 ^ 250 : Nat) : Int) = (2 : Int) ^ 250 := by norm_cast
      rw [e]
      omega
    exact_mod_cast this
  by_cases z : i.natAbs = 0
  · rw [z]; decide
  · exact (Nat.log2_lt z).mpr h2
theorem bad_er (ns : List Int) (rows : List Row) : erOf (lettersM (badL ns) rows) = some .NoHands := by
  have h : badL ns < 1 ∨ 40 < badL ns := by
    have hf := farL_ok ns
    unfold badL
    split
    · omega
    split
    · omega
    split
    · left
      have := Int.mul_nonneg hf.1 hf.1
      rw [Int.neg_mul]
      omega
    · right
      have := Int.mul_nonneg hf.1 hf.1
      omega
  unfold lettersM
  rw [if_pos h]
  rfl
section
variable {K : PySem.W.Frag} {C : Er → Addr} {H0 : Hp} {δ : Sl} {ω : Om} {E : XK} {ts : TA} {P : A → Om → Prop}
theorem call_history (h : EA H0 ts δ ω fun bs ω1 => ∃ a ns n, bs = [.raw (.ref a), .dat (.int n)] ∧ SqL K H0 a (ns.map V.int) ∧ (1 ≤ n ∧ n ≤ 40) ∧ P (.dat (.list [dRows (historyM ns n).1, .str (endName (historyM ns n).2)])) ω1) : EG H0 (tCall (sp_l_history K C) [] E ts) δ ω P :=
  eg_callS fun σ H vs as S Q q => h σ H vs as S Q fun bs ω' us H' ⟨a, ns, n, e, hS, h1, hp⟩ hl' S' => q bs ω' us H' ⟨a, [.dat (.int n)], ns, [.int n], _, e, hS, .cons (.dat _) .nil, ⟨n, rfl, h1, rfl⟩, hp⟩ hl' S'
theorem call_refusal2 {hands : Int} {rows : List Row} (h : EA H0 ts δ ω fun bs ω1 => RdA ω1 bs [.int hands, dRows rows] ∧ P (.dat (.str (endName (erOf (lettersM hands rows))))) ω1) : EG H0 (tCall (Pr C R_l_refusal) [] E ts) δ ω P :=
  eg_call fun σ H vs as S Q q => h σ H vs as S Q fun bs ω' us H' ⟨hr, hp⟩ hl' S' => q bs ω' us H' ⟨_, _, hr, ⟨hands, rows, rfl, rfl⟩, hp⟩ hl' S'
theorem call_refused_by_any {hands : Int} {rows : List Row} (h : EA H0 ts δ ω fun bs ω1 => RdA ω1 bs [.int hands, dRows rows] ∧ P (.dat (.bool (erOf (lettersM hands rows)).isSome)) ω1) : EG H0 (tCall (sp_l_refused_by_any K C) [] E ts) δ ω P :=
  eg_call fun σ H vs as S Q q => h σ H vs as S Q fun bs ω' us H' ⟨hr, hp⟩ hl' S' => q bs ω' us H' ⟨_, _, hr, ⟨hands, rows, rfl, rfl⟩, hp⟩ hl' S'
end
theorem name_none2 (o : Option Er) : decide (endName o = noName) = o.isNone := by
  cases o with
  | none => rfl
  | some e => exact decide_eq_false fun z => by have := endName_inj (o := some e) (p := none) z; cases this
theorem wk_law_k02 (K : PySem.W.Frag) (C : Er → Addr) (H : Hp) (a : Addr) (ns : List Int) (ds : List PyData) (r : Res Er) (hS : SqL K H a (ns.map V.int)) (h : R_law ns ds r) : SX H (t_law_k02 K (sp_l_cell_at K C) (sp_l_history K C) (sp_l_refusal K C) (sp_l_turned K C) (sp_l_refused_by_any K C)) (some (.raw (.ref a)) :: entry ds 7) [] (HandR r) := by
  obtain ⟨rfl, hn, rfl⟩ := h
  show SX H (t_law_k02 K (sp_l_cell_at K C) (sp_l_history K C) (sp_l_refusal K C) (sp_l_turned K C) (sp_l_refused_by_any K C)) [some (.raw (.ref a)), none, none, none, none, none, none, none] [] _
  unfold t_law_k02
  refine sx_ifRet (et_or ?_)
  walk_at "y"
  refine ⟨false, rfl, iteF ?_⟩
  walk_at "y"
  refine ⟨false, rfl, ⟨fun z => (by cases z), fun _ => ?_⟩⟩
  walk_at "y"
  refine call_history ?_
  walk_at "y"
  have n0 := Int.emod_nonneg (cellAt ns 0) (show (40 : Int) ≠ 0 by decide)
  have n1 := Int.emod_lt_of_pos (cellAt ns 0) (show (0 : Int) < 40 by decide)
  have h12 : 1 ≤ 1 + cellAt ns 0 % 40 ∧ 1 + cellAt ns 0 % 40 ≤ 40 := by omega
  generalize 1 + cellAt ns 0 % 40 = n at h12
  have hh := hist_ok (ns := ns) h12
  generalize historyM ns n = x at hh
  obtain ⟨rows, due0⟩ := x
  obtain ⟨er, hlen, hstr⟩ := hh
  have er : erOf (lettersM n rows) = due0 := er
  have hlen : rows.length ≤ 1003 := hlen
  have hstr : ∀ r ∈ rows, rowS r = true := hstr
  have sh := shaped_rowsS hstr
  walk_at "y"
  refine eb_ixUL (.dat _) (c := .dat (dRows rows)) rfl ?_
  walk_at "y"
  refine eb_ixUL (.dat _) (c := .dat (.str (endName due0))) rfl ?_
  walk_at "y"
  refine sx_cut (fun δ ω => ω = [] ∧ ∃ (n' : Int) (due : Option Er) (u5 : Option A), erOf (lettersM n' rows) = due ∧ δ = [some (.raw (.ref a)), some (.dat (.int n')), some (.dat (.list [dRows rows, .str (endName due0)])), some (.dat (dRows rows)), some (.dat (.str (endName due))), u5, none, none]) ?_ ?_
  · walk_at "y"
    refine ⟨_, rfl, fun _ => ?_, fun _ => ?_⟩
    · walk_at "y"
      have hp : (10 : Int) ^ (60 : Int).toNat = 10 ^ 60 := rfl
      rw [hp]
      rw [show cellAt ns 7 % 10 ^ 60 = farL ns from rfl]
      have hf := farL_ok ns
      have hl := log_small hf
      have hbad : badL ns = if farL ns % 4 = 0 then 0 else if farL ns % 4 = 1 then 41 else if farL ns % 4 = 2 then -farL ns * farL ns else 41 + farL ns * farL ns := rfl
      have her := bad_er ns rows
      generalize badL ns = bad at hbad her
      generalize farL ns = far at hf hl hbad
      refine el_dat (el_lst ?_)
      walk_at "y"
      refine eg_un (r := rNeg) (g := fun i => .int (-i)) ?_
      walk_at "y"
      refine ⟨far, .int (-far), rfl, fl_int _, ?_⟩
      walk_at "y"
      refine eb_mulW (show (-far).natAbs.log2 + far.natAbs.log2 < 1000000 by rw [Int.natAbs_neg]; omega) ?_
      walk_at "y"
      refine eb_mulW (show far.natAbs.log2 + far.natAbs.log2 < 1000000 by omega) ?_
      walk_at "y"
      refine ⟨szOk (by simp), [.int 0, .int 41, .int (-far * far), .int (41 + far * far)], rfl, ?_⟩
      walk_at "y"
      have four : far % 4 = 0 ∨ far % 4 = 1 ∨ far % 4 = 2 ∨ far % 4 = 3 := by omega
      refine eb_ixUL (.dat _) (c := .dat (.int bad)) ?_ ?_
      · rw [hbad]
        rcases four with e | e | e | e <;> rw [e] <;> rfl
      walk_at "y"
      exact ⟨rfl, bad, some .NoHands, _, her, rfl⟩
    · walk_at "y"
      exact ⟨rfl, n, due0, _, er, rfl⟩
  rintro δ ω ⟨rfl, n', due, u5, er', rfl⟩
  walk_at "y"
  refine ec_dat (ecl_list (itm_rowsD rows) ?_)
  refine ⟨rows.map dRow, dat_rowsB rows, ?_⟩
  walk_at "y"
  refine call_refusal2 (hands := n') (rows := rows) ?_
  walk_at "y"
  refine ⟨.cons (.dat _) (.cons (.dat _) .nil), ?_⟩
  rw [er']
  refine sx_ifRet (et_or ?_)
  walk_at "y"
  refine eb_neS (sh_end _) (sh_end _) ?_
  rw [decide_eq_true rfl]
  refine ⟨false, rfl, iteF (et_or ?_)⟩
  walk_at "y"
  refine eb_neD (.dat (dRows rows)) (.dat (dRows rows)) sh sh ?_
  rw [eqv_rows_refl]
  refine ⟨false, rfl, iteF ?_⟩
  walk_at "y"
  refine call_refusal2 (hands := n') (rows := rows) ?_
  walk_at "y"
  refine ec_dat (ecl_list (itm_rowsD rows) ?_)
  refine ⟨rows.map dRow, dat_rowsB rows, ?_⟩
  walk_at "y"
  refine ⟨.cons (.dat _) (.cons (.dat _) .nil), ?_⟩
  rw [er']
  walk_at "y"
  refine eb_neS (sh_end _) (sh_end _) ?_
  rw [decide_eq_true rfl]
  refine ⟨false, rfl, ⟨fun z => (by cases z), fun _ => ?_⟩⟩
  walk_at "y"
  refine call_refused_by_any (hands := n') (rows := rows) ?_
  walk_at "y"
  refine ec_dat (ecl_list (itm_rowsD rows) ?_)
  refine ⟨rows.map dRow, dat_rowsB rows, ?_⟩
  walk_at "y"
  refine ⟨.cons (.dat _) (.cons (.dat _) .nil), ?_⟩
  rw [er']
  walk_at "y"
  refine eb_neS (sh_end _) (sh_end none) ?_
  rw [show decide (endName due = PySem.Str.ofString "") = due.isNone from name_none2 due]
  walk_at "y"
  rw [show decide (due.isSome = !due.isNone) = true by cases due <;> rfl]
  exact .dat _
end Y

namespace Row
open PySem PySem.Spec L2 Y
/-! ### the text by places -/
def topS (i : Nat) : Stmt := PySem.Challenge.pw_lastline_k02_histories_refused.main.body.getD i (.Pass ⟨0, 0, 0, 0⟩)
abbrev s_need_row : Stmt := topS 12
theorem sc_need_row : FnScope ["row"] ["row"] (defScope s_need_row) := ⟨rfl, rfl, rfl, by decide +kernel, rfl, by decide +kernel, by decide +kernel⟩
abbrev s_need_hand : Stmt := topS 13
theorem sc_need_hand : FnScope ["hands", "hand"] ["hands", "hand"] (defScope s_need_hand) := ⟨rfl, rfl, rfl, by decide +kernel, rfl, by decide +kernel, by decide +kernel⟩
abbrev s_need_letter : Stmt := topS 14
theorem sc_need_letter : FnScope ["found", "hand", "letter"] ["found", "hand", "letter"] (defScope s_need_letter) := ⟨rfl, rfl, rfl, by decide +kernel, rfl, by decide +kernel, by decide +kernel⟩
abbrev s_letters : Stmt := topS 15
theorem sc_letters : FnScope ["hands", "rows", "found", "place", "row"] ["hands", "rows"] (defScope s_letters) := ⟨rfl, rfl, rfl, by decide +kernel, rfl, by decide +kernel, by decide +kernel⟩
abbrev s__law_cell_at : Stmt := topS 17
theorem sc__law_cell_at : FnScope ["_law_script", "_law_k"] ["_law_script", "_law_k"] (defScope s__law_cell_at) := ⟨rfl, rfl, rfl, by decide +kernel, rfl, by decide +kernel, by decide +kernel⟩
abbrev s__law_rows_by : Stmt := topS 18
theorem sc__law_rows_by : FnScope ["_law_cells", "_law_hands", "_law_rows", "_law_sent", "_law_waits", "_law_cell", "_law_kind", "_law_more", "_law_letter", "_law_one"] ["_law_cells", "_law_hands"] (defScope s__law_rows_by) := ⟨rfl, rfl, rfl, by decide +kernel, rfl, by decide +kernel, by decide +kernel⟩
abbrev s__law_refusal : Stmt := topS 19
theorem sc__law_refusal : FnScope ["_law_hands", "_law_rows"] ["_law_hands", "_law_rows"] (defScope s__law_refusal) := ⟨rfl, rfl, rfl, by decide +kernel, rfl, by decide +kernel, by decide +kernel⟩
abbrev s__law_turned : Stmt := topS 20
theorem sc__law_turned : FnScope ["_law_hands", "_law_rows"] ["_law_hands", "_law_rows"] (defScope s__law_turned) := ⟨rfl, rfl, rfl, by decide +kernel, rfl, by decide +kernel, by decide +kernel⟩
abbrev s__law_refused_by_any : Stmt := topS 21
theorem sc__law_refused_by_any : FnScope ["_law_hands", "_law_rows", "e"] ["_law_hands", "_law_rows"] (defScope s__law_refused_by_any) := ⟨rfl, rfl, rfl, by decide +kernel, rfl, by decide +kernel, by decide +kernel⟩
abbrev s__law_beyond : Stmt := topS 22
theorem sc__law_beyond : FnScope ["_law_hands", "_law_cell"] ["_law_hands", "_law_cell"] (defScope s__law_beyond) := ⟨rfl, rfl, rfl, by decide +kernel, rfl, by decide +kernel, by decide +kernel⟩
abbrev s__law_letter_wrong : Stmt := topS 23
theorem sc__law_letter_wrong : FnScope ["_law_rows", "_law_hands", "_law_cell", "_law_goals", "_law_taken", "_law_others", "_law_letter", "_law_row", "_law_k"] ["_law_rows", "_law_hands", "_law_cell"] (defScope s__law_letter_wrong) := ⟨rfl, rfl, rfl, by decide +kernel, rfl, by decide +kernel, by decide +kernel⟩
abbrev s__law_word : Stmt := topS 24
theorem sc__law_word : FnScope ["_law_cell", "_law_word_here", "_law_at", "_law_sign", "_law_made"] ["_law_cell"] (defScope s__law_word) := ⟨rfl, rfl, rfl, by decide +kernel, rfl, by decide +kernel, by decide +kernel⟩
abbrev s__law_wrong : Stmt := topS 25
theorem sc__law_wrong : FnScope ["_law_rows", "_law_hands", "_law_kind", "_law_cell", "_law_hand", "_law_more", "_law_word_here", "_law_fits", "_law_some", "_law_far"] ["_law_rows", "_law_hands", "_law_kind", "_law_cell"] (defScope s__law_wrong) := ⟨rfl, rfl, rfl, by decide +kernel, rfl, by decide +kernel, by decide +kernel⟩
abbrev s__law_history : Stmt := topS 26
theorem sc__law_history : FnScope ["_law_script", "_law_hands", "_law_cell", "_law_rows", "_law_kind", "_law_due", "_law_place", "_law_wrong_here", "_law_tail", "_law_k"] ["_law_script", "_law_hands"] (defScope s__law_history) := ⟨rfl, rfl, rfl, by decide +kernel, rfl, by decide +kernel, by decide +kernel⟩
abbrev s_law : Stmt := topS 27
theorem sc_law : FnScope ["_law_script", "_law_hands", "_law_made", "_law_rows", "_law_due", "_law_far", "_law_handed", "_law_found"] ["_law_script"] (defScope s_law) := ⟨rfl, rfl, rfl, by decide +kernel, rfl, by decide +kernel, by decide +kernel⟩
/-! ### where the top has laid what -/
structure Ad where
  f_need_row : Addr
  d_need_row : FuncData
  f_need_hand : Addr
  d_need_hand : FuncData
  f_need_letter : Addr
  d_need_letter : FuncData
  f_letters : Addr
  d_letters : FuncData
  f__law_cell_at : Addr
  d__law_cell_at : FuncData
  f__law_rows_by : Addr
  d__law_rows_by : FuncData
  f__law_refusal : Addr
  d__law_refusal : FuncData
  f__law_turned : Addr
  d__law_turned : FuncData
  f__law_refused_by_any : Addr
  d__law_refused_by_any : FuncData
  f__law_beyond : Addr
  d__law_beyond : FuncData
  f__law_letter_wrong : Addr
  d__law_letter_wrong : FuncData
  f__law_word : Addr
  d__law_word : FuncData
  f__law_wrong : Addr
  d__law_wrong : FuncData
  f__law_history : Addr
  d__law_history : FuncData
  f_law : Addr
  d_law : FuncData
  C_LineError : Addr
  C_NoHands : Addr
  C_TooMany : Addr
  C_NoRow : Addr
  C_NoHand : Addr
  C_NoLetter : Addr
  C_GotTwice : Addr
  a_PARTS : Addr
structure Tx (K : PySem.W.Frag) (mg : Str → Option Value) (w : World) (a : Ad) : Prop where
  F_need_row : Fun K "need_row" "need_row" s_need_row a.f_need_row a.d_need_row
  b_need_row : Binds K a.d_need_row ["row"] []
  g_need_row : mg "need_row" = some (.ref a.f_need_row)
  F_need_hand : Fun K "need_hand" "need_hand" s_need_hand a.f_need_hand a.d_need_hand
  b_need_hand : Binds K a.d_need_hand ["hands", "hand"] []
  g_need_hand : mg "need_hand" = some (.ref a.f_need_hand)
  F_need_letter : Fun K "need_letter" "need_letter" s_need_letter a.f_need_letter a.d_need_letter
  b_need_letter : Binds K a.d_need_letter ["found", "hand", "letter"] []
  g_need_letter : mg "need_letter" = some (.ref a.f_need_letter)
  F_letters : Fun K "letters" "letters" s_letters a.f_letters a.d_letters
  b_letters : Binds K a.d_letters ["hands", "rows"] []
  g_letters : mg "letters" = some (.ref a.f_letters)
  F__law_cell_at : Fun K "_law_cell_at" "_law_cell_at" s__law_cell_at a.f__law_cell_at a.d__law_cell_at
  b__law_cell_at : Binds K a.d__law_cell_at ["_law_script", "_law_k"] []
  g__law_cell_at : mg "_law_cell_at" = some (.ref a.f__law_cell_at)
  F__law_rows_by : Fun K "_law_rows_by" "_law_rows_by" s__law_rows_by a.f__law_rows_by a.d__law_rows_by
  b__law_rows_by : Binds K a.d__law_rows_by ["_law_cells", "_law_hands"] []
  g__law_rows_by : mg "_law_rows_by" = some (.ref a.f__law_rows_by)
  F__law_refusal : Fun K "_law_refusal" "_law_refusal" s__law_refusal a.f__law_refusal a.d__law_refusal
  b__law_refusal : Binds K a.d__law_refusal ["_law_hands", "_law_rows"] []
  g__law_refusal : mg "_law_refusal" = some (.ref a.f__law_refusal)
  F__law_turned : Fun K "_law_turned" "_law_turned" s__law_turned a.f__law_turned a.d__law_turned
  b__law_turned : Binds K a.d__law_turned ["_law_hands", "_law_rows"] []
  g__law_turned : mg "_law_turned" = some (.ref a.f__law_turned)
  F__law_refused_by_any : Fun K "_law_refused_by_any" "_law_refused_by_any" s__law_refused_by_any a.f__law_refused_by_any a.d__law_refused_by_any
  b__law_refused_by_any : Binds K a.d__law_refused_by_any ["_law_hands", "_law_rows"] []
  g__law_refused_by_any : mg "_law_refused_by_any" = some (.ref a.f__law_refused_by_any)
  F__law_beyond : Fun K "_law_beyond" "_law_beyond" s__law_beyond a.f__law_beyond a.d__law_beyond
  b__law_beyond : Binds K a.d__law_beyond ["_law_hands", "_law_cell"] []
  g__law_beyond : mg "_law_beyond" = some (.ref a.f__law_beyond)
  F__law_letter_wrong : Fun K "_law_letter_wrong" "_law_letter_wrong" s__law_letter_wrong a.f__law_letter_wrong a.d__law_letter_wrong
  b__law_letter_wrong : Binds K a.d__law_letter_wrong ["_law_rows", "_law_hands", "_law_cell"] []
  g__law_letter_wrong : mg "_law_letter_wrong" = some (.ref a.f__law_letter_wrong)
  F__law_word : Fun K "_law_word" "_law_word" s__law_word a.f__law_word a.d__law_word
  b__law_word : Binds K a.d__law_word ["_law_cell"] []
  g__law_word : mg "_law_word" = some (.ref a.f__law_word)
  F__law_wrong : Fun K "_law_wrong" "_law_wrong" s__law_wrong a.f__law_wrong a.d__law_wrong
  b__law_wrong : Binds K a.d__law_wrong ["_law_rows", "_law_hands", "_law_kind", "_law_cell"] []
  g__law_wrong : mg "_law_wrong" = some (.ref a.f__law_wrong)
  F__law_history : Fun K "_law_history" "_law_history" s__law_history a.f__law_history a.d__law_history
  b__law_history : Binds K a.d__law_history ["_law_script", "_law_hands"] []
  g__law_history : mg "_law_history" = some (.ref a.f__law_history)
  F_law : Fun K "law" "law" s_law a.f_law a.d_law
  b_law : Binds K a.d_law ["_law_script"] []
  g_law : mg "law" = some (.ref a.f_law)
  n_ValueError : mg "ValueError" = none
  n_enumerate : mg "enumerate" = none
  n_isinstance : mg "isinstance" = none
  n_len : mg "len" = none
  n_list : mg "list" = none
  n_range : mg "range" = none
  m_HANDS : ∃ t, mg "HANDS" = some (.int 40 t)
  m_ROWS : ∃ t, mg "ROWS" = some (.int 1000 t)
  g_PARTS : mg "PARTS" = some (.ref a.a_PARTS)
  parts : PartsOk K w a.a_PARTS
  g_LineError : mg "LineError" = some (.ref a.C_LineError)
  g_NoHands : mg "NoHands" = some (.ref a.C_NoHands)
  g_TooMany : mg "TooMany" = some (.ref a.C_TooMany)
  g_NoRow : mg "NoRow" = some (.ref a.C_NoRow)
  g_NoHand : mg "NoHand" = some (.ref a.C_NoHand)
  g_NoLetter : mg "NoLetter" = some (.ref a.C_NoLetter)
  g_GotTwice : mg "GotTwice" = some (.ref a.C_GotTwice)
  x_GotTwice : PySem.W.excIn K a.C_GotTwice [.type "ValueError", .type "Exception", .type "BaseException", .type "object"] "ValueError.__new__" = true
  k_GotTwice : PySem.W.keepIn K (.ref a.C_GotTwice) = true
  bs_GotTwice : PySem.W.subIn K (.ref a.C_GotTwice) (.type "BaseException") = some true
  tp_GotTwice : PySem.W.typeIn K (.ref a.C_GotTwice) = some (.type "type")
  x_NoHand : PySem.W.excIn K a.C_NoHand [.type "ValueError", .type "Exception", .type "BaseException", .type "object"] "ValueError.__new__" = true
  k_NoHand : PySem.W.keepIn K (.ref a.C_NoHand) = true
  bs_NoHand : PySem.W.subIn K (.ref a.C_NoHand) (.type "BaseException") = some true
  tp_NoHand : PySem.W.typeIn K (.ref a.C_NoHand) = some (.type "type")
  x_NoHands : PySem.W.excIn K a.C_NoHands [.type "ValueError", .type "Exception", .type "BaseException", .type "object"] "ValueError.__new__" = true
  k_NoHands : PySem.W.keepIn K (.ref a.C_NoHands) = true
  bs_NoHands : PySem.W.subIn K (.ref a.C_NoHands) (.type "BaseException") = some true
  tp_NoHands : PySem.W.typeIn K (.ref a.C_NoHands) = some (.type "type")
  x_NoLetter : PySem.W.excIn K a.C_NoLetter [.type "ValueError", .type "Exception", .type "BaseException", .type "object"] "ValueError.__new__" = true
  k_NoLetter : PySem.W.keepIn K (.ref a.C_NoLetter) = true
  bs_NoLetter : PySem.W.subIn K (.ref a.C_NoLetter) (.type "BaseException") = some true
  tp_NoLetter : PySem.W.typeIn K (.ref a.C_NoLetter) = some (.type "type")
  x_NoRow : PySem.W.excIn K a.C_NoRow [.type "ValueError", .type "Exception", .type "BaseException", .type "object"] "ValueError.__new__" = true
  k_NoRow : PySem.W.keepIn K (.ref a.C_NoRow) = true
  bs_NoRow : PySem.W.subIn K (.ref a.C_NoRow) (.type "BaseException") = some true
  tp_NoRow : PySem.W.typeIn K (.ref a.C_NoRow) = some (.type "type")
  x_TooMany : PySem.W.excIn K a.C_TooMany [.type "ValueError", .type "Exception", .type "BaseException", .type "object"] "ValueError.__new__" = true
  k_TooMany : PySem.W.keepIn K (.ref a.C_TooMany) = true
  bs_TooMany : PySem.W.subIn K (.ref a.C_TooMany) (.type "BaseException") = some true
  tp_TooMany : PySem.W.typeIn K (.ref a.C_TooMany) = some (.type "type")
  q_GotTwice_GotTwice : PySem.W.exmOne K (.ref a.C_GotTwice) (.ref a.C_GotTwice) = some true
  q_GotTwice_NoHand : PySem.W.exmOne K (.ref a.C_GotTwice) (.ref a.C_NoHand) = some false
  q_GotTwice_NoHands : PySem.W.exmOne K (.ref a.C_GotTwice) (.ref a.C_NoHands) = some false
  q_GotTwice_NoLetter : PySem.W.exmOne K (.ref a.C_GotTwice) (.ref a.C_NoLetter) = some false
  q_GotTwice_NoRow : PySem.W.exmOne K (.ref a.C_GotTwice) (.ref a.C_NoRow) = some false
  q_GotTwice_TooMany : PySem.W.exmOne K (.ref a.C_GotTwice) (.ref a.C_TooMany) = some false
  i_GotTwice : IsE K a.C_LineError a.C_GotTwice
  q_NoHand_GotTwice : PySem.W.exmOne K (.ref a.C_NoHand) (.ref a.C_GotTwice) = some false
  q_NoHand_NoHand : PySem.W.exmOne K (.ref a.C_NoHand) (.ref a.C_NoHand) = some true
  q_NoHand_NoHands : PySem.W.exmOne K (.ref a.C_NoHand) (.ref a.C_NoHands) = some false
  q_NoHand_NoLetter : PySem.W.exmOne K (.ref a.C_NoHand) (.ref a.C_NoLetter) = some false
  q_NoHand_NoRow : PySem.W.exmOne K (.ref a.C_NoHand) (.ref a.C_NoRow) = some false
  q_NoHand_TooMany : PySem.W.exmOne K (.ref a.C_NoHand) (.ref a.C_TooMany) = some false
  i_NoHand : IsE K a.C_LineError a.C_NoHand
  q_NoHands_GotTwice : PySem.W.exmOne K (.ref a.C_NoHands) (.ref a.C_GotTwice) = some false
  q_NoHands_NoHand : PySem.W.exmOne K (.ref a.C_NoHands) (.ref a.C_NoHand) = some false
  q_NoHands_NoHands : PySem.W.exmOne K (.ref a.C_NoHands) (.ref a.C_NoHands) = some true
  q_NoHands_NoLetter : PySem.W.exmOne K (.ref a.C_NoHands) (.ref a.C_NoLetter) = some false
  q_NoHands_NoRow : PySem.W.exmOne K (.ref a.C_NoHands) (.ref a.C_NoRow) = some false
  q_NoHands_TooMany : PySem.W.exmOne K (.ref a.C_NoHands) (.ref a.C_TooMany) = some false
  i_NoHands : IsE K a.C_LineError a.C_NoHands
  q_NoLetter_GotTwice : PySem.W.exmOne K (.ref a.C_NoLetter) (.ref a.C_GotTwice) = some false
  q_NoLetter_NoHand : PySem.W.exmOne K (.ref a.C_NoLetter) (.ref a.C_NoHand) = some false
  q_NoLetter_NoHands : PySem.W.exmOne K (.ref a.C_NoLetter) (.ref a.C_NoHands) = some false
  q_NoLetter_NoLetter : PySem.W.exmOne K (.ref a.C_NoLetter) (.ref a.C_NoLetter) = some true
  q_NoLetter_NoRow : PySem.W.exmOne K (.ref a.C_NoLetter) (.ref a.C_NoRow) = some false
  q_NoLetter_TooMany : PySem.W.exmOne K (.ref a.C_NoLetter) (.ref a.C_TooMany) = some false
  i_NoLetter : IsE K a.C_LineError a.C_NoLetter
  q_NoRow_GotTwice : PySem.W.exmOne K (.ref a.C_NoRow) (.ref a.C_GotTwice) = some false
  q_NoRow_NoHand : PySem.W.exmOne K (.ref a.C_NoRow) (.ref a.C_NoHand) = some false
  q_NoRow_NoHands : PySem.W.exmOne K (.ref a.C_NoRow) (.ref a.C_NoHands) = some false
  q_NoRow_NoLetter : PySem.W.exmOne K (.ref a.C_NoRow) (.ref a.C_NoLetter) = some false
  q_NoRow_NoRow : PySem.W.exmOne K (.ref a.C_NoRow) (.ref a.C_NoRow) = some true
  q_NoRow_TooMany : PySem.W.exmOne K (.ref a.C_NoRow) (.ref a.C_TooMany) = some false
  i_NoRow : IsE K a.C_LineError a.C_NoRow
  q_TooMany_GotTwice : PySem.W.exmOne K (.ref a.C_TooMany) (.ref a.C_GotTwice) = some false
  q_TooMany_NoHand : PySem.W.exmOne K (.ref a.C_TooMany) (.ref a.C_NoHand) = some false
  q_TooMany_NoHands : PySem.W.exmOne K (.ref a.C_TooMany) (.ref a.C_NoHands) = some false
  q_TooMany_NoLetter : PySem.W.exmOne K (.ref a.C_TooMany) (.ref a.C_NoLetter) = some false
  q_TooMany_NoRow : PySem.W.exmOne K (.ref a.C_TooMany) (.ref a.C_NoRow) = some false
  q_TooMany_TooMany : PySem.W.exmOne K (.ref a.C_TooMany) (.ref a.C_TooMany) = some true
  i_TooMany : IsE K a.C_LineError a.C_TooMany
def Ad.C (a : Ad) : Er → Addr
  | .NoHands => a.C_NoHands
  | .TooMany => a.C_TooMany
  | .NoRow => a.C_NoRow
  | .NoHand => a.C_NoHand
  | .NoLetter => a.C_NoLetter
  | .GotTwice => a.C_GotTwice
  | .NoLine => 0
  | .Unsound => 0
section
variable {P : Program} {w : World} {K : PySem.W.Frag} {mg : Str → Option Value} {base : Heap} {a : Ad}
theorem xm_ok (T : Tx K mg w a) : XmOk K a.C [.NoHands, .TooMany, .NoRow, .NoHand, .NoLetter, .GotTwice] := by
  intro e he h hh
  simp only [List.mem_cons, List.not_mem_nil, or_false] at he hh
  rcases he with rfl | rfl | rfl | rfl | rfl | rfl
  · rcases hh with rfl | rfl | rfl | rfl | rfl | rfl
    · exact T.q_NoHands_NoHands
    · exact T.q_NoHands_TooMany
    · exact T.q_NoHands_NoRow
    · exact T.q_NoHands_NoHand
    · exact T.q_NoHands_NoLetter
    · exact T.q_NoHands_GotTwice
  · rcases hh with rfl | rfl | rfl | rfl | rfl | rfl
    · exact T.q_TooMany_NoHands
    · exact T.q_TooMany_TooMany
    · exact T.q_TooMany_NoRow
    · exact T.q_TooMany_NoHand
    · exact T.q_TooMany_NoLetter
    · exact T.q_TooMany_GotTwice
  · rcases hh with rfl | rfl | rfl | rfl | rfl | rfl
    · exact T.q_NoRow_NoHands
    · exact T.q_NoRow_TooMany
    · exact T.q_NoRow_NoRow
    · exact T.q_NoRow_NoHand
    · exact T.q_NoRow_NoLetter
    · exact T.q_NoRow_GotTwice
  · rcases hh with rfl | rfl | rfl | rfl | rfl | rfl
    · exact T.q_NoHand_NoHands
    · exact T.q_NoHand_TooMany
    · exact T.q_NoHand_NoRow
    · exact T.q_NoHand_NoHand
    · exact T.q_NoHand_NoLetter
    · exact T.q_NoHand_GotTwice
  · rcases hh with rfl | rfl | rfl | rfl | rfl | rfl
    · exact T.q_NoLetter_NoHands
    · exact T.q_NoLetter_TooMany
    · exact T.q_NoLetter_NoRow
    · exact T.q_NoLetter_NoHand
    · exact T.q_NoLetter_NoLetter
    · exact T.q_NoLetter_GotTwice
  · rcases hh with rfl | rfl | rfl | rfl | rfl | rfl
    · exact T.q_GotTwice_NoHands
    · exact T.q_GotTwice_TooMany
    · exact T.q_GotTwice_NoRow
    · exact T.q_GotTwice_NoHand
    · exact T.q_GotTwice_NoLetter
    · exact T.q_GotTwice_GotTwice
theorem is_ok (T : Tx K mg w a) : IsOk K a.C a.C_LineError [.NoHands, .TooMany, .NoRow, .NoHand, .NoLetter, .GotTwice] := by
  intro e he
  simp only [List.mem_cons, List.not_mem_nil, or_false] at he
  rcases he with rfl | rfl | rfl | rfl | rfl | rfl
  · exact T.i_NoHands
  · exact T.i_TooMany
  · exact T.i_NoRow
  · exact T.i_NoHand
  · exact T.i_NoLetter
  · exact T.i_GotTwice
theorem dv_need_row (T : Tx K mg w a)  (cdv : Value) (A : Around) (outer : List PySem.Env) (s : Shared) (H : Hp) (E : XK) (hr : Room 0 (A.deeper (PyProof.Rows.envOfC "need_row" (defScope s_need_row) s.heap.objs.size a.f_need_row cdv))) :
    PSs (cxOf (L2.CX P w) P w K mg base ["row"] "need_row" (defScope s_need_row) a.f_need_row cdv A outer s H E) (defBody s_need_row) (t_need_row K E  a.C_NoRow) := by
  exact (pss_cons (ps_if (PW.pt (pw_or (pt_cmpR (op_eqD hr.units) (pe_callB call_lenU (by rfl) T.n_len PySem.boot_len (pa_cons (pv 0) pa_nil)) pe_int (nomark _)) (pw_or1 (pt_partsNot T.parts (by rfl) T.g_PARTS (pe_ix ix_seq (pv 0) pe_int (fun _ _ => rfl)) mono_ix)))) (pss_one (ps_raise rfl (takes_of rfl rfl rfl rfl) (pmk_own PySem.F.excBase_ValueError (T.x_NoRow) T.g_NoRow T.k_NoRow (raises_own T.bs_NoRow T.tp_NoRow) (by rfl)))) pss_nil) (pss_one (ps_if (pt_cmpR (op_neD hr.units) (pe_callB call_lenU (by rfl) T.n_len PySem.boot_len (pa_cons (pv 0) pa_nil)) (pe_partsIx T.parts (by rfl) T.g_PARTS (pe_ix ix_seq (pv 0) pe_int (fun _ _ => rfl)) mono_ix) (nomark _)) (pss_one (ps_raise rfl (takes_of rfl rfl rfl rfl) (pmk_own PySem.F.excBase_ValueError (T.x_NoRow) T.g_NoRow T.k_NoRow (raises_own T.bs_NoRow T.tp_NoRow) (by rfl)))) pss_nil)))
theorem ok_need_row (T : Tx K mg w a) : FnOk P w K mg base (L2.CX P w) 1 a.f_need_row a.d_need_row ["row"] (sp_need_row K a.C) :=
  okR T.F_need_row sc_need_row (fun _ _ h => len_need_row h) 0 rfl (fun E => t_need_row K E  a.C_NoRow) (fun cdv A outer s H E hr => dv_need_row T  cdv A outer s H E hr) (fun H E ds r h he => wk_need_row K a.C H E ds r h he)
theorem dv_need_hand (T : Tx K mg w a)  (cdv : Value) (A : Around) (outer : List PySem.Env) (s : Shared) (H : Hp) (E : XK) (hr : Room 0 (A.deeper (PyProof.Rows.envOfC "need_hand" (defScope s_need_hand) s.heap.objs.size a.f_need_hand cdv))) :
    PSs (cxOf (L2.CX P w) P w K mg base ["hands", "hand"] "need_hand" (defScope s_need_hand) a.f_need_hand cdv A outer s H E) (defBody s_need_hand) (t_need_hand K E  a.C_NoHand) := by
  exact (pss_one (ps_if (PW.pt (pw_or (pt_cmpR op_lt (pv 1) pe_int (nomark _)) (pw_or1 (pt_cmpR op_ge (pv 1) (pv 0) (nomark _))))) (pss_one (ps_raise rfl (takes_of rfl rfl rfl rfl) (pmk_own PySem.F.excBase_ValueError (T.x_NoHand) T.g_NoHand T.k_NoHand (raises_own T.bs_NoHand T.tp_NoHand) (by rfl)))) pss_nil))
theorem ok_need_hand (T : Tx K mg w a) : FnOk P w K mg base (L2.CX P w) 1 a.f_need_hand a.d_need_hand ["hands", "hand"] (sp_need_hand K a.C) :=
  okR T.F_need_hand sc_need_hand (fun _ _ h => len_need_hand h) 0 rfl (fun E => t_need_hand K E  a.C_NoHand) (fun cdv A outer s H E hr => dv_need_hand T  cdv A outer s H E hr) (fun H E ds r h he => wk_need_hand K a.C H E ds r h he)
theorem dv_need_letter (T : Tx K mg w a)  (cdv : Value) (A : Around) (outer : List PySem.Env) (s : Shared) (H : Hp) (E : XK) (hr : Room 0 (A.deeper (PyProof.Rows.envOfC "need_letter" (defScope s_need_letter) s.heap.objs.size a.f_need_letter cdv))) :
    PSs (cxOf (L2.CX P w) P w K mg base ["found", "hand", "letter"] "need_letter" (defScope s_need_letter) a.f_need_letter cdv A outer s H E) (defBody s_need_letter) (t_need_letter K E  a.C_NoLetter a.C_GotTwice) := by
  exact (pss_cons (ps_if (PW.pt (pw_or (pt_cmpR op_lt (pv 2) pe_int (nomark _)) (pw_or1 (pt_cmpR op_ge (pv 2) (pe_callB call_lenU (by rfl) T.n_len PySem.boot_len (pa_cons (pv 0) pa_nil)) (nomark _))))) (pss_one (ps_raise rfl (takes_of rfl rfl rfl rfl) (pmk_own PySem.F.excBase_ValueError (T.x_NoLetter) T.g_NoLetter T.k_NoLetter (raises_own T.bs_NoLetter T.tp_NoLetter) (by rfl)))) pss_nil) (pss_cons (ps_if (pt_cmpR (op_neD hr.units) (pe_ix ix_seq (pe_ix ix_seq (pv 0) (pv 2) (fun _ _ => rfl)) pe_int (fun _ _ => rfl)) (pv 1) (nomark _)) (pss_one (ps_raise rfl (takes_of rfl rfl rfl rfl) (pmk_own PySem.F.excBase_ValueError (T.x_NoLetter) T.g_NoLetter T.k_NoLetter (raises_own T.bs_NoLetter T.tp_NoLetter) (by rfl)))) pss_nil) (pss_one (ps_if (pt_cmp (pc_notN (pe_ix ix_seq (pe_ix ix_seq (pv 0) (pv 2) (fun _ _ => rfl)) pe_int (fun _ _ => rfl)))) (pss_one (ps_raise rfl (takes_of rfl rfl rfl rfl) (pmk_own PySem.F.excBase_ValueError (T.x_GotTwice) T.g_GotTwice T.k_GotTwice (raises_own T.bs_GotTwice T.tp_GotTwice) (by rfl)))) pss_nil))))
theorem ok_need_letter (T : Tx K mg w a) : FnOk P w K mg base (L2.CX P w) 1 a.f_need_letter a.d_need_letter ["found", "hand", "letter"] (sp_need_letter K a.C) :=
  okR T.F_need_letter sc_need_letter (fun _ _ h => len_need_letter h) 0 rfl (fun E => t_need_letter K E  a.C_NoLetter a.C_GotTwice) (fun cdv A outer s H E hr => dv_need_letter T  cdv A outer s H E hr) (fun H E ds r h he => wk_need_letter K a.C H E ds r h he)
theorem dv_letters (T : Tx K mg w a) {s_need_row s_need_hand s_need_letter : Sp} (G_need_row : FnOk P w K mg base (L2.CX P w) 1 a.f_need_row a.d_need_row ["row"] s_need_row) (G_need_hand : FnOk P w K mg base (L2.CX P w) 1 a.f_need_hand a.d_need_hand ["hands", "hand"] s_need_hand) (G_need_letter : FnOk P w K mg base (L2.CX P w) 1 a.f_need_letter a.d_need_letter ["found", "hand", "letter"] s_need_letter) (cdv : Value) (A : Around) (outer : List PySem.Env) (s : Shared) (H : Hp) (E : XK) (hr : Room 1 (A.deeper (PyProof.Rows.envOfC "letters" (defScope s_letters) s.heap.objs.size a.f_letters cdv))) :
    PSs (cxOf (L2.CX P w) P w K mg base ["hands", "rows", "found", "place", "row"] "letters" (defScope s_letters) a.f_letters cdv A outer s H E) (defBody s_letters) (t_letters K E s_need_row s_need_hand s_need_letter a.C_NoHands a.C_TooMany) := by
  exact (pss_cons (ps_if (PW.pt (pw_or (pt_cmpR op_lt (pv 0) pe_int (nomark _)) (pw_or1 (pt_cmpR op_gt (pv 0) (pe_glob (v := .int 40) rfl T.m_HANDS.choose_spec ⟨_, rfl⟩) (nomark _))))) (pss_one (ps_raise rfl (takes_of rfl rfl rfl rfl) (pmk_own PySem.F.excBase_ValueError (T.x_NoHands) T.g_NoHands T.k_NoHands (raises_own T.bs_NoHands T.tp_NoHands) (by rfl)))) pss_nil) (pss_cons (ps_if (pt_cmpR op_gt (pe_callB call_lenU (by rfl) T.n_len PySem.boot_len (pa_cons (pv 1) pa_nil)) (pe_glob (v := .int 1000) rfl T.m_ROWS.choose_spec ⟨_, rfl⟩) (nomark _)) (pss_one (ps_raise rfl (takes_of rfl rfl rfl rfl) (pmk_own PySem.F.excBase_ValueError (T.x_TooMany) T.g_TooMany T.k_TooMany (raises_own T.bs_TooMany T.tp_TooMany) (by rfl)))) pss_nil) (pss_cons (ps_set (i := 2) sc_letters.nd rfl (Or.inl rfl) (pe_lst pa_nil)) (pss_cons (ps_for (passes_of rfl) rfl (pi_enum (by rfl) T.n_enumerate (pa_cons (pv 1) pa_nil)) (pg_tup rfl (pgs_cons (pg_name (i := 3) sc_letters.nd rfl (Or.inl rfl)) (pgs_cons (pg_name (i := 4) sc_letters.nd rfl (Or.inl rfl)) pgs_nil))) (pss_cons (ps_expr (pe_call G_need_row (hr.mono (by decide)) (by rfl) T.g_need_row T.F_need_row.kp T.b_need_row .nil (passes_call (takes_of rfl rfl rfl rfl) (fun _ _ _ _ h => h)) (pa_cons (pv 4) pa_nil))) (pss_cons (ps_expr (pe_call G_need_hand (hr.mono (by decide)) (by rfl) T.g_need_hand T.F_need_hand.kp T.b_need_hand .nil (passes_call (takes_of rfl rfl rfl rfl) (fun _ _ _ _ h => h)) (pa_cons (pv 0) (pa_cons (pe_ix ix_seq (pv 4) pe_int (fun _ _ => rfl)) pa_nil)))) (pss_cons (ps_if (pt_cmpR (op_eqD hr.units) (pe_ix ix_seq (pv 4) pe_int (fun _ _ => rfl)) pe_str (nomark _)) (pss_cons (ps_expr (pe_call G_need_hand (hr.mono (by decide)) (by rfl) T.g_need_hand T.F_need_hand.kp T.b_need_hand .nil (passes_call (takes_of rfl rfl rfl rfl) (fun _ _ _ _ h => h)) (pa_cons (pv 0) (pa_cons (pe_ix ix_seq (pv 4) pe_int (fun _ _ => rfl)) pa_nil)))) (pss_one (ps_expr (pe_bm PySem.F.plainAttrs_list PySem.F.slot_list_append PySem.F.type_list_append mt_append (pv 2) (pa_cons (pe_tup (pa_cons (pe_ix ix_seq (pv 4) pe_int (fun _ _ => rfl)) (pa_cons (pe_ix ix_seq (pv 4) pe_int (fun _ _ => rfl)) (pa_cons (pv 3) (pa_cons pe_non pa_nil))))) pa_nil))))) pss_nil) (pss_one (ps_if (pt_cmpR (op_eqD hr.units) (pe_ix ix_seq (pv 4) pe_int (fun _ _ => rfl)) pe_str (nomark _)) (pss_cons (ps_expr (pe_call G_need_letter (hr.mono (by decide)) (by rfl) T.g_need_letter T.F_need_letter.kp T.b_need_letter .nil (passes_call (takes_of rfl rfl rfl rfl) (fun _ _ _ _ h => h)) (pa_cons (pv 2) (pa_cons (pe_ix ix_seq (pv 4) pe_int (fun _ _ => rfl)) (pa_cons (pe_ix ix_seq (pv 4) pe_int (fun _ _ => rfl)) pa_nil))))) (pss_one (ps_asg (pe_op op_addU (pe_slice sl_U (pe_ix ix_seq (pv 2) (pe_ix ix_seq (pv 4) pe_int (fun _ _ => rfl)) (fun _ _ => rfl)) po_none (po_some pe_int)) (pe_tup (pa_cons (pv 3) pa_nil))) (pg_sub (pv 2) (pe_ix ix_seq (pv 4) pe_int (fun _ _ => rfl)) set_list)))) pss_nil)))))) (pss_one (ps_ret (pv 2)))))))
theorem ok_letters (T : Tx K mg w a) : FnOk P w K mg base (L2.CX P w) 2 a.f_letters a.d_letters ["hands", "rows"] (sp_letters K a.C) :=
  okR T.F_letters sc_letters (fun _ _ h => len_letters h) 3 rfl (fun E => t_letters K E (sp_need_row K a.C) (sp_need_hand K a.C) (sp_need_letter K a.C) a.C_NoHands a.C_TooMany) (fun cdv A outer s H E hr => dv_letters T (ok_need_row T) (ok_need_hand T) (ok_need_letter T) cdv A outer s H E hr) (fun H E ds r h he => wk_letters K a.C H E ds r h he)
theorem dv__law_cell_at (T : Tx K mg w a)  (cdv : Value) (A : Around) (outer : List PySem.Env) (s : Shared) (H : Hp) (E : XK) (hr : Room 0 (A.deeper (PyProof.Rows.envOfC "_law_cell_at" (defScope s__law_cell_at) s.heap.objs.size a.f__law_cell_at cdv))) :
    PSs (cxOf CX0 P w K mg base ["_law_script", "_law_k"] "_law_cell_at" (defScope s__law_cell_at) a.f__law_cell_at cdv A outer s H E).nox (defBody s__law_cell_at) (t_l_cell_at K  ) := by
  exact (pss_cons (ps_if (pt_cmpR op_lt (pv 1) (pe_callB call_lenU (by rfl) T.n_len PySem.boot_len (pa_cons (pv 0) pa_nil)) (nomark _)) (pss_one (ps_ret (pe_ix ix_seq (pv 0) (pv 1) (fun _ _ => rfl)))) pss_nil) (pss_one (ps_ret pe_int)))
theorem ok__law_cell_at (T : Tx K mg w a) : FnOk P w K mg base CX0 1 a.f__law_cell_at a.d__law_cell_at ["_law_script", "_law_k"] (sp_l_cell_at K a.C) :=
  okS T.F__law_cell_at sc__law_cell_at (fun _ _ _ h => len_l_cell_at h) 0 rfl (t_l_cell_at K  ) (fun cdv A outer s H E hr => dv__law_cell_at T  cdv A outer s H E hr) (fun H b ns ds r hS h => wk_l_cell_at K a.C H b ns ds r hS h)
theorem dv__law_rows_by (T : Tx K mg w a)  (cdv : Value) (A : Around) (outer : List PySem.Env) (s : Shared) (H : Hp) (E : XK) (hr : Room 0 (A.deeper (PyProof.Rows.envOfC "_law_rows_by" (defScope s__law_rows_by) s.heap.objs.size a.f__law_rows_by cdv))) :
    PSs (cxOf CX0 P w K mg base ["_law_cells", "_law_hands", "_law_rows", "_law_sent", "_law_waits", "_law_cell", "_law_kind", "_law_more", "_law_letter", "_law_one"] "_law_rows_by" (defScope s__law_rows_by) a.f__law_rows_by cdv A outer s H E).nox (defBody s__law_rows_by) (t_l_rows_by K  ) := by
  exact (pss_cons (ps_set (i := 2) sc__law_rows_by.nd rfl (Or.inl rfl) (pe_lst pa_nil)) (pss_cons (ps_set (i := 3) sc__law_rows_by.nd rfl (Or.inl rfl) (pe_lst pa_nil)) (pss_cons (ps_set (i := 4) sc__law_rows_by.nd rfl (Or.inl rfl) (pe_lst pa_nil)) (pss_cons (ps_for PassesOwn.never rfl (pi_list (pv 0)) (pg_name (i := 5) sc__law_rows_by.nd rfl (Or.inl rfl)) (pss_cons (ps_set (i := 6) sc__law_rows_by.nd rfl (Or.inl rfl) (pe_op op_mod (pv 5) pe_int)) (pss_cons (ps_set (i := 7) sc__law_rows_by.nd rfl (Or.inl rfl) (pe_op op_fdiv (pv 5) pe_int)) (pss_one (ps_if (pt_cmpR op_gt (pv 6) pe_int (nomark _)) (pss_one (ps_expr (pe_bm PySem.F.plainAttrs_list PySem.F.slot_list_append PySem.F.type_list_append mt_append (pv 2) (pa_cons (pe_tup (pa_cons pe_str (pa_cons (pe_op op_mod (pv 7) (pv 1)) pa_nil))) pa_nil)))) (pss_one (ps_if (PW.pt (pw_and (pt_cmpR op_gt (pv 6) pe_int (nomark _)) (pw_and1 (pt_cmpR (op_neD hr.units) (pv 4) (pe_lst pa_nil) (nomark _))))) (pss_cons (ps_set (i := 8) sc__law_rows_by.nd rfl (Or.inr rfl) (pe_ix ix_seq (pv 4) (pe_op op_mod (pv 7) (pe_callB call_lenU (by rfl) T.n_len PySem.boot_len (pa_cons (pv 4) pa_nil))) (fun _ _ => rfl))) (pss_cons (ps_setLc (i := 4) (own := [("_law_one", 9)]) rfl sc__law_rows_by.nd rfl rfl (sw_true rfl rfl rfl (by decide +kernel)) (pi_list (pv 4)) (blkOk_by (N := ["_law_cells", "_law_hands", "_law_rows", "_law_sent", "_law_waits", "_law_cell", "_law_kind", "_law_more", "_law_letter", "_law_one"]) (sc := (defScope s__law_rows_by)) (own := [("_law_one", 9)]) (by decide +kernel)) (fun _ _ _ _ _ => (pg_name (i := 9) sc__law_rows_by.nd rfl (Or.inl rfl))) (fun _ _ _ _ _ => (pts_one (pt_cmpR (op_neD hr.units) (pv 9) (pv 8) (nomark _)))) (fun _ _ _ _ _ => (pv 9))) (pss_one (ps_expr (pe_bm PySem.F.plainAttrs_list PySem.F.slot_list_append PySem.F.type_list_append mt_append (pv 2) (pa_cons (pe_tup (pa_cons pe_str (pa_cons (pe_ix ix_seq (pv 3) (pv 8) (fun _ _ => rfl)) (pa_cons (pv 8) pa_nil)))) pa_nil)))))) (pss_cons (ps_expr (pe_bm PySem.F.plainAttrs_list PySem.F.slot_list_append PySem.F.type_list_append mt_append (pv 2) (pa_cons (pe_tup (pa_cons pe_str (pa_cons (pe_op op_mod (pv 7) (pv 1)) (pa_cons (pe_op op_mod (pe_op op_fdiv (pv 7) (pv 1)) (pv 1)) pa_nil)))) pa_nil))) (pss_cons (ps_expr (pe_bm PySem.F.plainAttrs_list PySem.F.slot_list_append PySem.F.type_list_append mt_append (pv 4) (pa_cons (pe_callB call_lenU (by rfl) T.n_len PySem.boot_len (pa_cons (pv 3) pa_nil)) pa_nil))) (pss_one (ps_expr (pe_bm PySem.F.plainAttrs_list PySem.F.slot_list_append PySem.F.type_list_append mt_append (pv 3) (pa_cons (pe_op op_mod (pe_op op_fdiv (pv 7) (pv 1)) (pv 1)) pa_nil))))))))))))) (pss_one (ps_ret (pv 2)))))))
theorem ok__law_rows_by (T : Tx K mg w a) : FnOk P w K mg base CX0 1 a.f__law_rows_by a.d__law_rows_by ["_law_cells", "_law_hands"] (sp_l_rows_by K a.C) :=
  okN T.F__law_rows_by sc__law_rows_by (fun _ _ h => len_l_rows_by h) 8 rfl (t_l_rows_by K  ) (fun cdv A outer s H E hr => dv__law_rows_by T  cdv A outer s H E hr) (fun H ds r h => wk_l_rows_by K a.C H ds r h)
theorem dv__law_refusal (T : Tx K mg w a) {s_letters : Sp} (G_letters : FnOk P w K mg base (L2.CX P w) 2 a.f_letters a.d_letters ["hands", "rows"] s_letters) (cdv : Value) (A : Around) (outer : List PySem.Env) (s : Shared) (H : Hp) (E : XK) (hr : Room 2 (A.deeper (PyProof.Rows.envOfC "_law_refusal" (defScope s__law_refusal) s.heap.objs.size a.f__law_refusal cdv))) :
    PSs (cxOf CX0 P w K mg base ["_law_hands", "_law_rows"] "_law_refusal" (defScope s__law_refusal) a.f__law_refusal cdv A outer s H E).nox (defBody s__law_refusal) (t_l_refusal K s_letters a.C_NoHands a.C_TooMany a.C_NoRow a.C_NoHand a.C_NoLetter a.C_GotTwice) := by
  exact (pss_cons (ps_try_many (tb := fun W => tDrop (tCallS s_letters (WE W) (tCons (tVar 0) (tCons (tVar 1) tNil)))) (l := clM [(a.C_NoHands, PySem.Str.ofString "NoHands"), (a.C_TooMany, PySem.Str.ofString "TooMany"), (a.C_NoRow, PySem.Str.ofString "NoRow"), (a.C_NoHand, PySem.Str.ofString "NoHand"), (a.C_NoLetter, PySem.Str.ofString "NoLetter"), (a.C_GotTwice, PySem.Str.ofString "GotTwice")]) (Wout := wNo) rfl rfl takes0 (fun W pn xe tk _ => pss_one (ps_expr (pe_callS G_letters (hr.mono (by decide)) (by rfl) T.g_letters T.F_letters.kp T.b_letters (fun σ => passAt tk σ) (pa_cons (pv 0) (pa_cons (pv 1) pa_nil))))) (HdsOk.cons ⟨rfl, by decide, .inl T.g_NoHands⟩ (fun _ _ _ _ _ _ _ => pss_one (ps_ret pe_str)) (HdsOk.cons ⟨rfl, by decide, .inl T.g_TooMany⟩ (fun _ _ _ _ _ _ _ => pss_one (ps_ret pe_str)) (HdsOk.cons ⟨rfl, by decide, .inl T.g_NoRow⟩ (fun _ _ _ _ _ _ _ => pss_one (ps_ret pe_str)) (HdsOk.cons ⟨rfl, by decide, .inl T.g_NoHand⟩ (fun _ _ _ _ _ _ _ => pss_one (ps_ret pe_str)) (HdsOk.cons ⟨rfl, by decide, .inl T.g_NoLetter⟩ (fun _ _ _ _ _ _ _ => pss_one (ps_ret pe_str)) (HdsOk.cons ⟨rfl, by decide, .inl T.g_GotTwice⟩ (fun _ _ _ _ _ _ _ => pss_one (ps_ret pe_str)) HdsOk.nil))))))) (pss_one (ps_ret pe_str)))
theorem ok__law_refusal (T : Tx K mg w a) : FnOk P w K mg base CX0 3 a.f__law_refusal a.d__law_refusal ["_law_hands", "_law_rows"] (sp_l_refusal K a.C) :=
  okN T.F__law_refusal sc__law_refusal (fun _ _ h => len_l_refusal h) 0 rfl (t_l_refusal K (sp_letters K a.C) a.C_NoHands a.C_TooMany a.C_NoRow a.C_NoHand a.C_NoLetter a.C_GotTwice) (fun cdv A outer s H E hr => dv__law_refusal T (ok_letters T) cdv A outer s H E hr) (fun H ds r h => wk_l_refusal K a.C (xm_ok T) H ds r h)
theorem dv__law_turned (T : Tx K mg w a) {s_letters : Sp} (G_letters : FnOk P w K mg base (L2.CX P w) 2 a.f_letters a.d_letters ["hands", "rows"] s_letters) (cdv : Value) (A : Around) (outer : List PySem.Env) (s : Shared) (H : Hp) (E : XK) (hr : Room 2 (A.deeper (PyProof.Rows.envOfC "_law_turned" (defScope s__law_turned) s.heap.objs.size a.f__law_turned cdv))) :
    PSs (cxOf CX0 P w K mg base ["_law_hands", "_law_rows"] "_law_turned" (defScope s__law_turned) a.f__law_turned cdv A outer s H E).nox (defBody s__law_turned) (t_l_turned K s_letters a.C_GotTwice a.C_NoLetter a.C_NoHand a.C_NoRow a.C_TooMany a.C_NoHands) := by
  exact (pss_cons (ps_try_many (tb := fun W => tDrop (tCallS s_letters (WE W) (tCons (tVar 0) (tCons (tVar 1) tNil)))) (l := clM [(a.C_GotTwice, PySem.Str.ofString "GotTwice"), (a.C_NoLetter, PySem.Str.ofString "NoLetter"), (a.C_NoHand, PySem.Str.ofString "NoHand"), (a.C_NoRow, PySem.Str.ofString "NoRow"), (a.C_TooMany, PySem.Str.ofString "TooMany"), (a.C_NoHands, PySem.Str.ofString "NoHands")]) (Wout := wNo) rfl rfl takes0 (fun W pn xe tk _ => pss_one (ps_expr (pe_callS G_letters (hr.mono (by decide)) (by rfl) T.g_letters T.F_letters.kp T.b_letters (fun σ => passAt tk σ) (pa_cons (pv 0) (pa_cons (pv 1) pa_nil))))) (HdsOk.cons ⟨rfl, by decide, .inl T.g_GotTwice⟩ (fun _ _ _ _ _ _ _ => pss_one (ps_ret pe_str)) (HdsOk.cons ⟨rfl, by decide, .inl T.g_NoLetter⟩ (fun _ _ _ _ _ _ _ => pss_one (ps_ret pe_str)) (HdsOk.cons ⟨rfl, by decide, .inl T.g_NoHand⟩ (fun _ _ _ _ _ _ _ => pss_one (ps_ret pe_str)) (HdsOk.cons ⟨rfl, by decide, .inl T.g_NoRow⟩ (fun _ _ _ _ _ _ _ => pss_one (ps_ret pe_str)) (HdsOk.cons ⟨rfl, by decide, .inl T.g_TooMany⟩ (fun _ _ _ _ _ _ _ => pss_one (ps_ret pe_str)) (HdsOk.cons ⟨rfl, by decide, .inl T.g_NoHands⟩ (fun _ _ _ _ _ _ _ => pss_one (ps_ret pe_str)) HdsOk.nil))))))) (pss_one (ps_ret pe_str)))
theorem ok__law_turned (T : Tx K mg w a) : FnOk P w K mg base CX0 3 a.f__law_turned a.d__law_turned ["_law_hands", "_law_rows"] (sp_l_turned K a.C) :=
  okN T.F__law_turned sc__law_turned (fun _ _ h => len_l_turned h) 0 rfl (t_l_turned K (sp_letters K a.C) a.C_GotTwice a.C_NoLetter a.C_NoHand a.C_NoRow a.C_TooMany a.C_NoHands) (fun cdv A outer s H E hr => dv__law_turned T (ok_letters T) cdv A outer s H E hr) (fun H ds r h => wk_l_turned K a.C (xm_ok T) H ds r h)
theorem dv__law_refused_by_any (T : Tx K mg w a) {s_letters : Sp} (G_letters : FnOk P w K mg base (L2.CX P w) 2 a.f_letters a.d_letters ["hands", "rows"] s_letters) (cdv : Value) (A : Around) (outer : List PySem.Env) (s : Shared) (H : Hp) (E : XK) (hr : Room 2 (A.deeper (PyProof.Rows.envOfC "_law_refused_by_any" (defScope s__law_refused_by_any) s.heap.objs.size a.f__law_refused_by_any cdv))) :
    PSs (cxOf CX0 P w K mg base ["_law_hands", "_law_rows", "e"] "_law_refused_by_any" (defScope s__law_refused_by_any) a.f__law_refused_by_any cdv A outer s H E).nox (defBody s__law_refused_by_any) (t_l_refused_by_any K s_letters a.C_LineError) := by
  exact (pss_cons (ps_try_as (i := 2) (tb := fun W => tDrop (tCallS s_letters (WE W) (tCons (tVar 0) (tCons (tVar 1) tNil)))) (ts := suiteIs K 2) (Wout := wNo) rfl rfl sc__law_refused_by_any.nd rfl rfl ⟨rfl, by decide, .inl T.g_LineError⟩ takes0 (fun W pn xe tk _ => pss_one (ps_expr (pe_callS G_letters (hr.mono (by decide)) (by rfl) T.g_letters T.F_letters.kp T.b_letters (fun σ => passAt tk σ) (pa_cons (pv 0) (pa_cons (pv 1) pa_nil))))) (fun a oe cls d pn hz hf => suite_is (cL := 0) hz hf (fun D0 hz0 hC => pss_one (ps_ret (pe_callB (call_isE hC hz0 hf) (by rfl) T.n_isinstance (by decide +kernel) (pa_cons (pv 2) (pa_cons (pe_bltn (v := .ty "ValueError") (by rfl) T.n_ValueError (by decide +kernel) rfl) pa_nil))))))) (pss_one (ps_ret pe_bl)))
theorem ok__law_refused_by_any (T : Tx K mg w a) : FnOk P w K mg base CX0 3 a.f__law_refused_by_any a.d__law_refused_by_any ["_law_hands", "_law_rows"] (sp_l_refused_by_any K a.C) :=
  okN T.F__law_refused_by_any sc__law_refused_by_any (fun _ _ h => len_l_refused_by_any h) 1 rfl (t_l_refused_by_any K (sp_letters K a.C) a.C_LineError) (fun cdv A outer s H E hr => dv__law_refused_by_any T (ok_letters T) cdv A outer s H E hr) (fun H ds r h => wk_l_refused_by_any K a.C a.C_LineError (is_ok T) H ds r h)
theorem dv__law_beyond (T : Tx K mg w a)  (cdv : Value) (A : Around) (outer : List PySem.Env) (s : Shared) (H : Hp) (E : XK) (hr : Room 0 (A.deeper (PyProof.Rows.envOfC "_law_beyond" (defScope s__law_beyond) s.heap.objs.size a.f__law_beyond cdv))) :
    PSs (cxOf CX0 P w K mg base ["_law_hands", "_law_cell"] "_law_beyond" (defScope s__law_beyond) a.f__law_beyond cdv A outer s H E).nox (defBody s__law_beyond) (t_l_beyond K  ) := by
  exact (pss_cons (ps_if (pt_cmpR (op_eqD hr.units) (pe_op op_mod (pv 1) pe_int) pe_int (nomark _)) (pss_one (ps_ret (pe_op op_addU (pv 0) (pe_op op_mod (pe_op op_fdiv (pv 1) pe_int) pe_int)))) pss_nil) (pss_one (ps_ret (pe_op op_sub (pe_un un_neg pe_int) (pe_op op_mod (pe_op op_fdiv (pv 1) pe_int) pe_int)))))
theorem ok__law_beyond (T : Tx K mg w a) : FnOk P w K mg base CX0 1 a.f__law_beyond a.d__law_beyond ["_law_hands", "_law_cell"] (sp_l_beyond K a.C) :=
  okN T.F__law_beyond sc__law_beyond (fun _ _ h => len_l_beyond h) 0 rfl (t_l_beyond K  ) (fun cdv A outer s H E hr => dv__law_beyond T  cdv A outer s H E hr) (fun H ds r h => wk_l_beyond K a.C H ds r h)
theorem dv__law_letter_wrong (T : Tx K mg w a)  (cdv : Value) (A : Around) (outer : List PySem.Env) (s : Shared) (H : Hp) (E : XK) (hr : Room 0 (A.deeper (PyProof.Rows.envOfC "_law_letter_wrong" (defScope s__law_letter_wrong) s.heap.objs.size a.f__law_letter_wrong cdv))) :
    PSs (cxOf CX0 P w K mg base ["_law_rows", "_law_hands", "_law_cell", "_law_goals", "_law_taken", "_law_others", "_law_letter", "_law_row", "_law_k"] "_law_letter_wrong" (defScope s__law_letter_wrong) a.f__law_letter_wrong cdv A outer s H E).nox (defBody s__law_letter_wrong) (t_l_letter_wrong K  ) := by
  exact (pss_cons (ps_set (i := 3) sc__law_letter_wrong.nd rfl (Or.inr rfl) (pe_lc (own := [("_law_row", 7)]) rfl sc__law_letter_wrong.nd (pi_list (pv 0)) (blkOk_by (N := ["_law_rows", "_law_hands", "_law_cell", "_law_goals", "_law_taken", "_law_others", "_law_letter", "_law_row", "_law_k"]) (sc := (defScope s__law_letter_wrong)) (own := [("_law_row", 7)]) (by decide +kernel)) (fun _ _ _ _ _ => (pg_name (i := 7) sc__law_letter_wrong.nd rfl (Or.inl rfl))) (fun _ _ _ _ _ => (pts_one (pt_cmpR (op_eqD hr.units) (pe_ix ix_seq (pv 7) pe_int (fun _ _ => rfl)) pe_str (nomark _)))) (fun _ _ _ _ _ => (pe_ix ix_seq (pv 7) pe_int (fun _ _ => rfl))))) (pss_cons (ps_setLc (i := 4) (own := [("_law_row", 7)]) rfl sc__law_letter_wrong.nd rfl rfl (sw_true rfl rfl rfl (by decide +kernel)) (pi_list (pv 0)) (blkOk_by (N := ["_law_rows", "_law_hands", "_law_cell", "_law_goals", "_law_taken", "_law_others", "_law_letter", "_law_row", "_law_k"]) (sc := (defScope s__law_letter_wrong)) (own := [("_law_row", 7)]) (by decide +kernel)) (fun _ _ _ _ _ => (pg_name (i := 7) sc__law_letter_wrong.nd rfl (Or.inl rfl))) (fun _ _ _ _ _ => (pts_one (pt_cmpR (op_eqD hr.units) (pe_ix ix_seq (pv 7) pe_int (fun _ _ => rfl)) pe_str (nomark _)))) (fun _ _ _ _ _ => (pe_ix ix_seq (pv 7) pe_int (fun _ _ => rfl)))) (pss_cons (ps_setLc (i := 5) (own := [("_law_k", 8)]) rfl sc__law_letter_wrong.nd rfl rfl (sw_true rfl rfl rfl (by decide +kernel)) (pi_range1 (by rfl) T.n_range (pa_cons (pe_callB call_lenU (by rfl) T.n_len PySem.boot_len (pa_cons (pv 3) pa_nil)) pa_nil)) (blkOk_by (N := ["_law_rows", "_law_hands", "_law_cell", "_law_goals", "_law_taken", "_law_others", "_law_letter", "_law_row", "_law_k"]) (sc := (defScope s__law_letter_wrong)) (own := [("_law_k", 8)]) (by decide +kernel)) (fun _ _ _ _ _ => (pg_name (i := 8) sc__law_letter_wrong.nd rfl (Or.inl rfl))) (fun _ _ _ _ _ => (pts_one (pt_cmpR (op_neD hr.units) (pe_ix ix_seq (pv 3) (pv 8) (fun _ _ => rfl)) (pe_op op_mod (pv 2) (pv 1)) (nomark _)))) (fun _ _ _ _ _ => (pv 8))) (pss_cons (ps_if (PW.pt (pw_and (pt_cmpR (op_eqD hr.units) (pe_op op_mod (pe_op op_fdiv (pv 2) pe_int) pe_int) pe_int (nomark _)) (pw_and1 (pt_cmpR (op_neD hr.units) (pv 5) (pe_lst pa_nil) (nomark _))))) (pss_one (ps_ret (pe_tup (pa_cons (pe_tup (pa_cons pe_str (pa_cons (pe_op op_mod (pv 2) (pv 1)) (pa_cons (pe_ix ix_seq (pv 5) (pe_op op_mod (pe_op op_fdiv (pv 2) pe_int) (pe_callB call_lenU (by rfl) T.n_len PySem.boot_len (pa_cons (pv 5) pa_nil))) (fun _ _ => rfl)) pa_nil)))) (pa_cons pe_str pa_nil))))) pss_nil) (pss_cons (ps_if (PW.pt (pw_and (pt_cmpR (op_eqD hr.units) (pe_op op_mod (pe_op op_fdiv (pv 2) pe_int) pe_int) pe_int (nomark _)) (pw_and1 (pt_cmpR (op_neD hr.units) (pv 4) (pe_lst pa_nil) (nomark _))))) (pss_cons (ps_set (i := 6) sc__law_letter_wrong.nd rfl (Or.inl rfl) (pe_ix ix_seq (pv 4) (pe_op op_mod (pe_op op_fdiv (pv 2) pe_int) (pe_callB call_lenU (by rfl) T.n_len PySem.boot_len (pa_cons (pv 4) pa_nil))) (fun _ _ => rfl))) (pss_one (ps_ret (pe_tup (pa_cons (pe_tup (pa_cons pe_str (pa_cons (pe_ix ix_seq (pv 3) (pv 6) (fun _ _ => rfl)) (pa_cons (pv 6) pa_nil)))) (pa_cons pe_str pa_nil)))))) pss_nil) (pss_cons (ps_if (pt_cmpR (op_eqD hr.units) (pe_op op_mod (pe_op op_fdiv (pv 2) pe_int) pe_int) pe_int (nomark _)) (pss_one (ps_ret (pe_tup (pa_cons (pe_tup (pa_cons pe_str (pa_cons (pe_op op_mod (pv 2) (pv 1)) (pa_cons (pe_op op_addU (pe_callB call_lenU (by rfl) T.n_len PySem.boot_len (pa_cons (pv 3) pa_nil)) (pe_op op_mod (pe_op op_fdiv (pv 2) pe_int) pe_int)) pa_nil)))) (pa_cons pe_str pa_nil))))) pss_nil) (pss_one (ps_ret (pe_tup (pa_cons (pe_tup (pa_cons pe_str (pa_cons (pe_op op_mod (pv 2) (pv 1)) (pa_cons (pe_op op_sub (pe_un un_neg pe_int) (pe_op op_mod (pe_op op_fdiv (pv 2) pe_int) pe_int)) pa_nil)))) (pa_cons pe_str pa_nil)))))))))))
theorem ok__law_letter_wrong (T : Tx K mg w a) : FnOk P w K mg base CX0 1 a.f__law_letter_wrong a.d__law_letter_wrong ["_law_rows", "_law_hands", "_law_cell"] (sp_l_letter_wrong K a.C) :=
  okN T.F__law_letter_wrong sc__law_letter_wrong (fun _ _ h => len_l_letter_wrong h) 6 rfl (t_l_letter_wrong K  ) (fun cdv A outer s H E hr => dv__law_letter_wrong T  cdv A outer s H E hr) (fun H ds r h => wk_l_letter_wrong K a.C H ds r h)
theorem dv__law_word (T : Tx K mg w a)  (cdv : Value) (A : Around) (outer : List PySem.Env) (s : Shared) (H : Hp) (E : XK) (hr : Room 0 (A.deeper (PyProof.Rows.envOfC "_law_word" (defScope s__law_word) s.heap.objs.size a.f__law_word cdv))) :
    PSs (cxOf CX0 P w K mg base ["_law_cell", "_law_word_here", "_law_at", "_law_sign", "_law_made"] "_law_word" (defScope s__law_word) a.f__law_word cdv A outer s H E).nox (defBody s__law_word) (t_l_word K  ) := by
  exact (pss_cons (ps_set (i := 1) sc__law_word.nd rfl (Or.inl rfl) (pe_ix ix_seq (pe_lst (pa_cons pe_str (pa_cons pe_str (pa_cons pe_str pa_nil)))) (pe_op op_mod (pv 0) pe_int) (fun _ _ => rfl))) (pss_cons (ps_set (i := 2) sc__law_word.nd rfl (Or.inl rfl) (pe_op op_mod (pe_op op_fdiv (pv 0) pe_int) (pe_op op_addU (pe_callB call_lenU (by rfl) T.n_len PySem.boot_len (pa_cons (pv 1) pa_nil)) pe_int))) (pss_cons (ps_set (i := 3) sc__law_word.nd rfl (Or.inl rfl) (pe_ix ix_seq pe_str (pe_op op_mod (pe_op op_fdiv (pv 0) pe_int) pe_int) (fun _ _ => rfl))) (pss_cons (ps_set (i := 4) sc__law_word.nd rfl (Or.inl rfl) (pe_lst (pa_cons (pe_op op_addU (pe_op op_addU (pe_slice sl_U (pv 1) po_none (po_some (pv 2))) (pv 3)) (pe_slice sl_U (pv 1) (po_some (pv 2)) po_none)) (pa_cons (pe_op op_addU (pe_slice sl_U (pv 1) po_none (po_some (pv 2))) (pe_slice sl_U (pv 1) (po_some (pe_op op_addU (pv 2) pe_int)) po_none)) (pa_cons (pe_op op_addU (pe_op op_addU (pe_slice sl_U (pv 1) po_none (po_some (pv 2))) (pv 3)) (pe_slice sl_U (pv 1) (po_some (pe_op op_addU (pv 2) pe_int)) po_none)) (pa_cons (pe_upper (pv 1)) pa_nil)))))) (pss_cons (ps_set (i := 4) sc__law_word.nd rfl (Or.inl rfl) (pe_ix ix_seq (pe_op op_addU (pv 4) (pe_lst (pa_cons (pe_op op_addU (pv 1) (pv 3)) (pa_cons (pe_op op_addU (pv 3) (pv 1)) pa_nil)))) (pe_op op_mod (pe_op op_fdiv (pv 0) pe_int) pe_int) (fun _ _ => rfl))) (pss_cons (ps_if (pt_cmpR (op_inU (Room.u65 hr)) (pv 4) (pe_tup (pa_cons pe_str (pa_cons pe_str (pa_cons pe_str pa_nil)))) (by rfl)) (pss_one (ps_set (i := 4) sc__law_word.nd rfl (Or.inl rfl) (pe_op op_addU (pv 4) pe_str))) pss_nil) (pss_one (ps_ret (pv 4)))))))))
theorem ok__law_word (T : Tx K mg w a) : FnOk P w K mg base CX0 1 a.f__law_word a.d__law_word ["_law_cell"] (sp_l_word K a.C) :=
  okN T.F__law_word sc__law_word (fun _ _ h => len_l_word h) 4 rfl (t_l_word K  ) (fun cdv A outer s H E hr => dv__law_word T  cdv A outer s H E hr) (fun H ds r h => wk_l_word K a.C H ds r h)
theorem dv__law_wrong (T : Tx K mg w a) {s__law_beyond s__law_word s__law_letter_wrong : Sp} (G__law_beyond : FnOk P w K mg base CX0 1 a.f__law_beyond a.d__law_beyond ["_law_hands", "_law_cell"] s__law_beyond) (G__law_word : FnOk P w K mg base CX0 1 a.f__law_word a.d__law_word ["_law_cell"] s__law_word) (G__law_letter_wrong : FnOk P w K mg base CX0 1 a.f__law_letter_wrong a.d__law_letter_wrong ["_law_rows", "_law_hands", "_law_cell"] s__law_letter_wrong) (cdv : Value) (A : Around) (outer : List PySem.Env) (s : Shared) (H : Hp) (E : XK) (hr : Room 1 (A.deeper (PyProof.Rows.envOfC "_law_wrong" (defScope s__law_wrong) s.heap.objs.size a.f__law_wrong cdv))) :
    PSs (cxOf CX0 P w K mg base ["_law_rows", "_law_hands", "_law_kind", "_law_cell", "_law_hand", "_law_more", "_law_word_here", "_law_fits", "_law_some", "_law_far"] "_law_wrong" (defScope s__law_wrong) a.f__law_wrong cdv A outer s H E).nox (defBody s__law_wrong) (t_l_wrong K s__law_beyond s__law_word s__law_letter_wrong ) := by
  exact (pss_cons (ps_set (i := 4) sc__law_wrong.nd rfl (Or.inl rfl) (pe_op op_mod (pv 3) (pv 1))) (pss_cons (ps_if (PW.pt (pw_and (pt_cmpR op_lt (pv 2) pe_int (nomark _)) (pw_and1 (pt_cmpR (op_eqD hr.units) (pe_op op_mod (pe_op op_fdiv (pv 3) pe_int) pe_int) pe_int (nomark _))))) (pss_one (ps_set (i := 4) sc__law_wrong.nd rfl (Or.inl rfl) (pe_call G__law_beyond (hr.mono (by decide)) (by rfl) T.g__law_beyond T.F__law_beyond.kp T.b__law_beyond .nil L2.pass0 (pa_cons (pv 1) (pa_cons (pe_op op_fdiv (pv 3) pe_int) pa_nil))))) pss_nil) (pss_cons (ps_if (pt_cmpR (op_eqD hr.units) (pv 2) pe_int (nomark _)) (pss_cons (ps_set (i := 5) sc__law_wrong.nd rfl (Or.inl rfl) (pe_op op_mod (pe_op op_mulU (pv 3) pe_int) pe_int)) (pss_cons (ps_set (i := 6) sc__law_wrong.nd rfl (Or.inl rfl) (pe_call G__law_word (hr.mono (by decide)) (by rfl) T.g__law_word T.F__law_word.kp T.b__law_word .nil L2.pass0 (pa_cons (pv 5) pa_nil))) (pss_cons (ps_set (i := 7) sc__law_wrong.nd rfl (Or.inl rfl) (pe_ix ix_seq (pe_lst (pa_cons (pe_tup (pa_cons (pv 6) (pa_cons (pv 4) (pa_cons (pv 4) pa_nil)))) (pa_cons (pe_tup (pa_cons (pv 6) (pa_cons (pv 4) (pa_cons pe_int pa_nil)))) (pa_cons (pe_tup (pa_cons (pv 6) (pa_cons (pv 4) pa_nil))) pa_nil)))) (pe_op op_mod (pv 5) pe_int) (fun _ _ => rfl))) (pss_one (ps_ret (pe_tup (pa_cons (pe_ix ix_seq (pe_lst (pa_cons (pv 7) (pa_cons (pv 7) (pa_cons (pv 7) (pa_cons (pe_tup (pa_cons pe_str (pa_cons (pv 4) pa_nil))) (pa_cons (pe_tup (pa_cons (pv 6) (pa_cons (pv 4) (pa_cons (pv 4) pa_nil)))) (pa_cons (pe_tup pa_nil) pa_nil))))))) (pe_op op_mod (pe_op op_fdiv (pv 3) pe_int) pe_int) (fun _ _ => rfl)) (pa_cons pe_str pa_nil)))))))) pss_nil) (pss_cons (ps_if (pt_cmpR (op_eqD hr.units) (pv 2) pe_int (nomark _)) (pss_cons (ps_set (i := 8) sc__law_wrong.nd rfl (Or.inl rfl) (pe_lst (pa_cons (pe_tup (pa_cons pe_str (pa_cons (pv 4) pa_nil))) (pa_cons (pe_tup (pa_cons pe_str (pa_cons (pv 4) (pa_cons (pv 4) (pa_cons pe_int pa_nil))))) (pa_cons (pe_tup (pa_cons pe_str (pa_cons (pv 4) pa_nil))) (pa_cons (pe_tup (pa_cons pe_str (pa_cons (pv 4) (pa_cons pe_int (pa_cons pe_int pa_nil))))) (pa_cons (pe_tup (pa_cons pe_str pa_nil)) pa_nil))))))) (pss_cons (ps_expr (pe_bm PySem.F.plainAttrs_list PySem.F.slot_list_append PySem.F.type_list_append mt_append (pv 8) (pa_cons (pe_tup (pa_cons pe_str (pa_cons (pv 4) (pa_cons pe_int pa_nil)))) pa_nil))) (pss_one (ps_ret (pe_tup (pa_cons (pe_ix ix_seq (pv 8) (pe_op op_mod (pe_op op_fdiv (pv 3) pe_int) pe_int) (fun _ _ => rfl)) (pa_cons pe_str pa_nil))))))) pss_nil) (pss_cons (ps_if (pt_cmpR (op_eqD hr.units) (pv 2) pe_int (nomark _)) (pss_cons (ps_set (i := 9) sc__law_wrong.nd rfl (Or.inl rfl) (pe_call G__law_beyond (hr.mono (by decide)) (by rfl) T.g__law_beyond T.F__law_beyond.kp T.b__law_beyond .nil L2.pass0 (pa_cons (pv 1) (pa_cons (pe_op op_fdiv (pv 3) pe_int) pa_nil)))) (pss_one (ps_ret (pe_tup (pa_cons (pe_ix ix_seq (pe_lst (pa_cons (pe_tup (pa_cons pe_str (pa_cons (pv 9) (pa_cons (pv 4) pa_nil)))) (pa_cons (pe_tup (pa_cons pe_str (pa_cons (pv 9) (pa_cons pe_int pa_nil)))) (pa_cons (pe_tup (pa_cons pe_str (pa_cons (pv 9) pa_nil))) (pa_cons (pe_tup (pa_cons pe_str (pa_cons (pv 9) (pa_cons (pv 9) pa_nil)))) pa_nil))))) (pe_op op_mod (pv 3) pe_int) (fun _ _ => rfl)) (pa_cons pe_str pa_nil)))))) pss_nil) (pss_cons (ps_if (pt_cmpR (op_eqD hr.units) (pv 2) pe_int (nomark _)) (pss_one (ps_ret (pe_tup (pa_cons (pe_tup (pa_cons pe_str (pa_cons (pv 4) (pa_cons (pe_call G__law_beyond (hr.mono (by decide)) (by rfl) T.g__law_beyond T.F__law_beyond.kp T.b__law_beyond .nil L2.pass0 (pa_cons (pv 1) (pa_cons (pe_op op_fdiv (pv 3) pe_int) pa_nil))) pa_nil)))) (pa_cons pe_str pa_nil))))) pss_nil) (pss_one (ps_ret (pe_call G__law_letter_wrong (hr.mono (by decide)) (by rfl) T.g__law_letter_wrong T.F__law_letter_wrong.kp T.b__law_letter_wrong .nil L2.pass0 (pa_cons (pv 0) (pa_cons (pv 1) (pa_cons (pv 3) pa_nil))))))))))))
theorem ok__law_wrong (T : Tx K mg w a) : FnOk P w K mg base CX0 2 a.f__law_wrong a.d__law_wrong ["_law_rows", "_law_hands", "_law_kind", "_law_cell"] (sp_l_wrong K a.C) :=
  okN T.F__law_wrong sc__law_wrong (fun _ _ h => len_l_wrong h) 6 rfl (t_l_wrong K (sp_l_beyond K a.C) (sp_l_word K a.C) (sp_l_letter_wrong K a.C) ) (fun cdv A outer s H E hr => dv__law_wrong T (ok__law_beyond T) (ok__law_word T) (ok__law_letter_wrong T) cdv A outer s H E hr) (fun H ds r h => wk_l_wrong K a.C H ds r h)
theorem dv__law_history (T : Tx K mg w a) {s__law_cell_at s__law_rows_by s__law_wrong : Sp} (G__law_cell_at : FnOk P w K mg base CX0 1 a.f__law_cell_at a.d__law_cell_at ["_law_script", "_law_k"] s__law_cell_at) (G__law_rows_by : FnOk P w K mg base CX0 1 a.f__law_rows_by a.d__law_rows_by ["_law_cells", "_law_hands"] s__law_rows_by) (G__law_wrong : FnOk P w K mg base CX0 2 a.f__law_wrong a.d__law_wrong ["_law_rows", "_law_hands", "_law_kind", "_law_cell"] s__law_wrong) (cdv : Value) (A : Around) (outer : List PySem.Env) (s : Shared) (H : Hp) (E : XK) (hr : Room 2 (A.deeper (PyProof.Rows.envOfC "_law_history" (defScope s__law_history) s.heap.objs.size a.f__law_history cdv))) :
    PSs (cxOf CX0 P w K mg base ["_law_script", "_law_hands", "_law_cell", "_law_rows", "_law_kind", "_law_due", "_law_place", "_law_wrong_here", "_law_tail", "_law_k"] "_law_history" (defScope s__law_history) a.f__law_history cdv A outer s H E).nox (defBody s__law_history) (t_l_history K s__law_cell_at s__law_rows_by s__law_wrong ) := by
  exact (pss_cons (ps_set (i := 2) sc__law_history.nd rfl (Or.inr rfl) (pe_call G__law_cell_at (hr.mono (by decide)) (by rfl) T.g__law_cell_at T.F__law_cell_at.kp T.b__law_cell_at .nil L2.pass0 (pa_cons (pv 0) (pa_cons pe_int pa_nil)))) (pss_cons (ps_set (i := 3) sc__law_history.nd rfl (Or.inl rfl) (pe_call G__law_rows_by (hr.mono (by decide)) (by rfl) T.g__law_rows_by T.F__law_rows_by.kp T.b__law_rows_by .nil L2.pass0 (pa_cons (pe_lc (own := [("_law_k", 9)]) rfl sc__law_history.nd (pi_range1 (by rfl) T.n_range (pa_cons (pe_op op_mod (pv 2) pe_int) pa_nil)) (blkOk_by (N := ["_law_script", "_law_hands", "_law_cell", "_law_rows", "_law_kind", "_law_due", "_law_place", "_law_wrong_here", "_law_tail", "_law_k"]) (sc := (defScope s__law_history)) (own := [("_law_k", 9)]) (by decide +kernel)) (fun _ _ _ _ _ => (pg_name (i := 9) sc__law_history.nd rfl (Or.inl rfl))) (fun _ _ _ _ _ => pts_nil) (fun _ _ _ _ _ => (pe_op op_mod (pe_op op_mulU (pe_op op_addU (pe_op op_fdiv (pv 2) pe_int) (pe_op op_mulU pe_int (pv 9))) pe_int) pe_int))) (pa_cons (pv 1) pa_nil)))) (pss_cons (ps_set (i := 4) sc__law_history.nd rfl (Or.inl rfl) (pe_op op_mod (pe_call G__law_cell_at (hr.mono (by decide)) (by rfl) T.g__law_cell_at T.F__law_cell_at.kp T.b__law_cell_at .nil L2.pass0 (pa_cons (pv 0) (pa_cons pe_int pa_nil))) pe_int)) (pss_cons (ps_set (i := 5) sc__law_history.nd rfl (Or.inl rfl) pe_str) (pss_cons (ps_if (pt_cmpR op_lt (pv 4) pe_int (nomark _)) (pss_cons (ps_set (i := 6) sc__law_history.nd rfl (Or.inl rfl) (pe_op op_mod (pe_call G__law_cell_at (hr.mono (by decide)) (by rfl) T.g__law_cell_at T.F__law_cell_at.kp T.b__law_cell_at .nil L2.pass0 (pa_cons (pv 0) (pa_cons pe_int pa_nil))) (pe_op op_addU (pe_callB call_lenU (by rfl) T.n_len PySem.boot_len (pa_cons (pv 3) pa_nil)) pe_int))) (pss_cons (ps_set (i := 4) sc__law_history.nd rfl (Or.inl rfl) (pe_ix ix_seq (pe_lst (pa_cons pe_int (pa_cons pe_int (pa_cons pe_int (pa_cons pe_int (pa_cons pe_int (pa_cons pe_int (pa_cons pe_int (pa_cons pe_int (pa_cons pe_int pa_nil)))))))))) (pv 4) (fun _ _ => rfl))) (pss_cons (ps_set (i := 7) sc__law_history.nd rfl (Or.inl rfl) (pe_call G__law_wrong (hr.mono (by decide)) (by rfl) T.g__law_wrong T.F__law_wrong.kp T.b__law_wrong .nil L2.pass0 (pa_cons (pe_slice sl_U (pv 3) po_none (po_some (pv 6))) (pa_cons (pv 1) (pa_cons (pv 4) (pa_cons (pe_call G__law_cell_at (hr.mono (by decide)) (by rfl) T.g__law_cell_at T.F__law_cell_at.kp T.b__law_cell_at .nil L2.pass0 (pa_cons (pv 0) (pa_cons pe_int pa_nil))) pa_nil)))))) (pss_cons (ps_set (i := 5) sc__law_history.nd rfl (Or.inl rfl) (pe_ix ix_seq (pv 7) pe_int (fun _ _ => rfl))) (pss_cons (ps_set (i := 8) sc__law_history.nd rfl (Or.inl rfl) (pe_slice sl_U (pv 3) (po_some (pv 6)) po_none)) (pss_cons (ps_if (pt_cmpR (op_eqD hr.units) (pe_op op_mod (pe_call G__law_cell_at (hr.mono (by decide)) (by rfl) T.g__law_cell_at T.F__law_cell_at.kp T.b__law_cell_at .nil L2.pass0 (pa_cons (pv 0) (pa_cons pe_int pa_nil))) pe_int) pe_int (nomark _)) (pss_one (ps_set (i := 8) sc__law_history.nd rfl (Or.inl rfl) (pe_op op_addU (pe_lst (pa_cons (pe_ix ix_seq (pe_call G__law_wrong (hr.mono (by decide)) (by rfl) T.g__law_wrong T.F__law_wrong.kp T.b__law_wrong .nil L2.pass0 (pa_cons (pe_lst pa_nil) (pa_cons (pv 1) (pa_cons (pe_op op_mod (pe_op op_fdiv (pe_call G__law_cell_at (hr.mono (by decide)) (by rfl) T.g__law_cell_at T.F__law_cell_at.kp T.b__law_cell_at .nil L2.pass0 (pa_cons (pv 0) (pa_cons pe_int pa_nil))) pe_int) pe_int) (pa_cons (pe_call G__law_cell_at (hr.mono (by decide)) (by rfl) T.g__law_cell_at T.F__law_cell_at.kp T.b__law_cell_at .nil L2.pass0 (pa_cons (pv 0) (pa_cons pe_int pa_nil))) pa_nil))))) pe_int (fun _ _ => rfl)) pa_nil)) (pv 8)))) pss_nil) (pss_one (ps_set (i := 3) sc__law_history.nd rfl (Or.inl rfl) (pe_op op_addU (pe_op op_addU (pe_slice sl_U (pv 3) po_none (po_some (pv 6))) (pe_lst (pa_cons (pe_ix ix_seq (pv 7) pe_int (fun _ _ => rfl)) pa_nil))) (pv 8)))))))))) pss_nil) (pss_cons (ps_if (pt_cmpR (op_eqD hr.units) (pv 4) pe_int (nomark _)) (pss_cons (ps_set (i := 3) sc__law_history.nd rfl (Or.inl rfl) (pe_op op_addU (pe_op op_addU (pv 3) (pe_op op_mulU (pe_lst (pa_cons (pe_tup (pa_cons pe_str (pa_cons (pe_op op_sub (pv 1) pe_int) pa_nil))) pa_nil)) (pe_op op_sub pe_int (pe_callB call_lenU (by rfl) T.n_len PySem.boot_len (pa_cons (pv 3) pa_nil))))) (pe_op op_mulU (pe_lst (pa_cons (pe_tup (pa_cons pe_str (pa_cons pe_int pa_nil))) pa_nil)) (pe_op op_mod (pe_call G__law_cell_at (hr.mono (by decide)) (by rfl) T.g__law_cell_at T.F__law_cell_at.kp T.b__law_cell_at .nil L2.pass0 (pa_cons (pv 0) (pa_cons pe_int pa_nil))) pe_int)))) (pss_cons (ps_if (pt_cmpR (op_eqD hr.units) (pe_op op_mod (pe_call G__law_cell_at (hr.mono (by decide)) (by rfl) T.g__law_cell_at T.F__law_cell_at.kp T.b__law_cell_at .nil L2.pass0 (pa_cons (pv 0) (pa_cons pe_int pa_nil))) pe_int) pe_int (nomark _)) (pss_cons (ps_asg (pe_tup (pa_cons pe_str (pa_cons pe_int pa_nil))) (pg_sub (pv 3) (pe_op op_mod (pe_call G__law_cell_at (hr.mono (by decide)) (by rfl) T.g__law_cell_at T.F__law_cell_at.kp T.b__law_cell_at .nil L2.pass0 (pa_cons (pv 0) (pa_cons pe_int pa_nil))) pe_int) set_list)) (pss_one (ps_set (i := 5) sc__law_history.nd rfl (Or.inl rfl) pe_str))) pss_nil) (pss_one (ps_if (pt_cmpR op_gt (pe_callB call_lenU (by rfl) T.n_len PySem.boot_len (pa_cons (pv 3) pa_nil)) pe_int (nomark _)) (pss_one (ps_set (i := 5) sc__law_history.nd rfl (Or.inl rfl) pe_str)) pss_nil)))) pss_nil) (pss_one (ps_ret (pe_lst (pa_cons (pv 3) (pa_cons (pv 5) pa_nil)))))))))))
theorem ok__law_history (T : Tx K mg w a) : FnOk P w K mg base CX0 3 a.f__law_history a.d__law_history ["_law_script", "_law_hands"] (sp_l_history K a.C) :=
  okS T.F__law_history sc__law_history (fun _ _ _ h => len_l_history h) 8 rfl (t_l_history K (sp_l_cell_at K a.C) (sp_l_rows_by K a.C) (sp_l_wrong K a.C) ) (fun cdv A outer s H E hr => dv__law_history T (ok__law_cell_at T) (ok__law_rows_by T) (ok__law_wrong T) cdv A outer s H E hr) (fun H b ns ds r hS h => wk_l_history K a.C H b ns ds r hS h)
theorem dv_law (T : Tx K mg w a) {s__law_cell_at s__law_history s__law_refusal s__law_turned s__law_refused_by_any : Sp} (G__law_cell_at : FnOk P w K mg base CX0 1 a.f__law_cell_at a.d__law_cell_at ["_law_script", "_law_k"] s__law_cell_at) (G__law_history : FnOk P w K mg base CX0 3 a.f__law_history a.d__law_history ["_law_script", "_law_hands"] s__law_history) (G__law_refusal : FnOk P w K mg base CX0 3 a.f__law_refusal a.d__law_refusal ["_law_hands", "_law_rows"] s__law_refusal) (G__law_turned : FnOk P w K mg base CX0 3 a.f__law_turned a.d__law_turned ["_law_hands", "_law_rows"] s__law_turned) (G__law_refused_by_any : FnOk P w K mg base CX0 3 a.f__law_refused_by_any a.d__law_refused_by_any ["_law_hands", "_law_rows"] s__law_refused_by_any) (cdv : Value) (A : Around) (outer : List PySem.Env) (s : Shared) (H : Hp) (E : XK) (hr : Room 3 (A.deeper (PyProof.Rows.envOfC "law" (defScope s_law) s.heap.objs.size a.f_law cdv))) :
    PSs (cxOf CX0 P w K mg base ["_law_script", "_law_hands", "_law_made", "_law_rows", "_law_due", "_law_far", "_law_handed", "_law_found"] "law" (defScope s_law) a.f_law cdv A outer s H E).nox (defBody s_law) (t_law_k02 K s__law_cell_at s__law_history s__law_refusal s__law_turned s__law_refused_by_any ) := by
  exact (pss_cons (ps_if (PW.pt (pw_or (pt_cmpR (op_neD hr.units) (pe_glob (v := .int 40) rfl T.m_HANDS.choose_spec ⟨_, rfl⟩) pe_int (nomark _)) (pw_or1 (pt_cmpR (op_neD hr.units) (pe_glob (v := .int 1000) rfl T.m_ROWS.choose_spec ⟨_, rfl⟩) pe_int (nomark _))))) (pss_one (ps_ret pe_bl)) pss_nil) (pss_cons (ps_set (i := 1) sc_law.nd rfl (Or.inl rfl) (pe_op op_addU pe_int (pe_op op_mod (pe_call G__law_cell_at (hr.mono (by decide)) (by rfl) T.g__law_cell_at T.F__law_cell_at.kp T.b__law_cell_at .nil L2.pass0 (pa_cons (pv 0) (pa_cons pe_int pa_nil))) pe_int))) (pss_cons (ps_set (i := 2) sc_law.nd rfl (Or.inl rfl) (pe_call G__law_history (hr.mono (by decide)) (by rfl) T.g__law_history T.F__law_history.kp T.b__law_history .nil L2.pass0 (pa_cons (pv 0) (pa_cons (pv 1) pa_nil)))) (pss_cons (ps_set (i := 3) sc_law.nd rfl (Or.inl rfl) (pe_ix ix_seq (pv 2) pe_int (fun _ _ => rfl))) (pss_cons (ps_set (i := 4) sc_law.nd rfl (Or.inl rfl) (pe_ix ix_seq (pv 2) pe_int (fun _ _ => rfl))) (pss_cons (ps_if (pt_cmpR (op_eqD hr.units) (pe_op op_mod (pe_op op_fdiv (pe_call G__law_cell_at (hr.mono (by decide)) (by rfl) T.g__law_cell_at T.F__law_cell_at.kp T.b__law_cell_at .nil L2.pass0 (pa_cons (pv 0) (pa_cons pe_int pa_nil))) pe_int) pe_int) pe_int (nomark _)) (pss_cons (ps_set (i := 5) sc_law.nd rfl (Or.inl rfl) (pe_op op_mod (pe_call G__law_cell_at (hr.mono (by decide)) (by rfl) T.g__law_cell_at T.F__law_cell_at.kp T.b__law_cell_at .nil L2.pass0 (pa_cons (pv 0) (pa_cons pe_int pa_nil))) (pe_op op_pow pe_int pe_int))) (pss_cons (ps_set (i := 1) sc_law.nd rfl (Or.inl rfl) (pe_ix ix_seq (pe_lst (pa_cons pe_int (pa_cons pe_int (pa_cons (pe_op op_mulU (pe_un un_neg (pv 5)) (pv 5)) (pa_cons (pe_op op_addU pe_int (pe_op op_mulU (pv 5) (pv 5))) pa_nil))))) (pe_op op_mod (pv 5) pe_int) (fun _ _ => rfl))) (pss_one (ps_set (i := 4) sc_law.nd rfl (Or.inl rfl) pe_str)))) pss_nil) (pss_cons (ps_set (i := 6) sc_law.nd rfl (Or.inl rfl) (pe_callTy (call_listU rfl) (by rfl) T.n_list (by decide +kernel) (pa_cons (pv 3) pa_nil))) (pss_cons (ps_set (i := 7) sc_law.nd rfl (Or.inl rfl) (pe_call G__law_refusal (hr.mono (by decide)) (by rfl) T.g__law_refusal T.F__law_refusal.kp T.b__law_refusal .nil L2.pass0 (pa_cons (pv 1) (pa_cons (pv 6) pa_nil)))) (pss_cons (ps_if (PW.pt (pw_or (pt_cmpR (op_neD hr.units) (pv 7) (pv 4) (nomark _)) (pw_or (pt_cmpR (op_neD hr.units) (pv 6) (pv 3) (nomark _)) (pw_or1 (pt_cmpR (op_neD hr.units) (pe_call G__law_turned (hr.mono (by decide)) (by rfl) T.g__law_turned T.F__law_turned.kp T.b__law_turned .nil L2.pass0 (pa_cons (pv 1) (pa_cons (pe_callTy (call_listU rfl) (by rfl) T.n_list (by decide +kernel) (pa_cons (pv 3) pa_nil)) pa_nil))) (pv 4) (nomark _)))))) (pss_one (ps_ret pe_bl)) pss_nil) (pss_one (ps_ret (pe_cmpR (op_eqD hr.units) (pe_call G__law_refused_by_any (hr.mono (by decide)) (by rfl) T.g__law_refused_by_any T.F__law_refused_by_any.kp T.b__law_refused_by_any .nil L2.pass0 (pa_cons (pv 1) (pa_cons (pe_callTy (call_listU rfl) (by rfl) T.n_list (by decide +kernel) (pa_cons (pv 3) pa_nil)) pa_nil))) (pe_cmpR (op_neD hr.units) (pv 4) pe_str (nomark _)) (nomark _)))))))))))))
theorem ok_law (T : Tx K mg w a) : FnOk P w K mg base CX0 4 a.f_law a.d_law ["_law_script"] (sp_law K a.C) :=
  okS T.F_law sc_law (fun _ _ _ h => len_law h) 7 rfl (t_law_k02 K (sp_l_cell_at K a.C) (sp_l_history K a.C) (sp_l_refusal K a.C) (sp_l_turned K a.C) (sp_l_refused_by_any K a.C) ) (fun cdv A outer s H E hr => dv_law T (ok__law_cell_at T) (ok__law_history T) (ok__law_refusal T) (ok__law_turned T) (ok__law_refused_by_any T) cdv A outer s H E hr) (fun H b ns ds r hS h => wk_law_k02 K a.C H b ns ds r hS h)
end
/-! ### what the top has written -/
theorem all_mk {l : PySem.W.OpenLaw} {w : World} {K : PySem.W.Frag} {h : Heap} {mg : Str → Option Value} {fa f0 f1 f2 f3 f4 f5 f6 f7 f8 f9 f10 f11 f12 f13 f14 c_LineError c_NoHands c_TooMany c_NoRow c_NoHand c_NoLetter c_GotTwice pD : Addr} (X : K.In h) (G : h.Ns mainGlobals mg) (hfa : mg "law" = some (.ref fa))
    {od0 od1 od2 od3 od4 od5 od6 od7 od8 od9 od10 od11 od12 od13 od14 an0 an1 an2 an3 an4 an5 an6 an7 an8 an9 an10 an11 an12 an13 an14 : Option Addr} {sl0 sl1 sl2 sl3 sl4 sl5 sl6 sl7 sl8 sl9 sl10 sl11 sl12 sl13 sl14 : Array (Option Value)} {oc0 kV0 dc0 pm0 cd0 ct0 oc1 kV1 dc1 pm1 cd1 ct1 oc2 kV2 dc2 pm2 cd2 ct2 oc3 kV3 dc3 pm3 cd3 ct3 oc4 kV4 dc4 pm4 cd4 ct4 oc5 kV5 dc5 pm5 cd5 ct5 oc6 kV6 dc6 pm6 cd6 ct6 oc7 kV7 dc7 pm7 cd7 ct7 oc8 kV8 dc8 pm8 cd8 ct8 oc9 kV9 dc9 pm9 cd9 ct9 oc10 kV10 dc10 pm10 cd10 ct10 oc11 kV11 dc11 pm11 cd11 ct11 oc12 kV12 dc12 pm12 cd12 ct12 oc13 kV13 dc13 pm13 cd13 ct13 oc14 kV14 dc14 pm14 cd14 ct14 : Value}
    {t_HANDS : Tok} {t_ROWS : Tok} {h1 h2 h3 : Int} {u1 u2 u3 v1 v2 v3 : Tok} {pN : Nat}
    (a0 : PySem.W.nsIn K mainGlobals "need_row" = some (some (.ref f0))) (l0 : K.lookup f0 = some ⟨oc0, od0, .func (PySem.W.fnOf "need_row" "need_row" (defArgs s_need_row) (defBody s_need_row) (defScope s_need_row) .none kV0 dc0 pm0 an0 cd0 ct0), sl0⟩) (c0 : PySem.W.codeIn K cd0 "need_row" = true) (k0 : PySem.W.keepIn K (.ref f0) = true)
    (a1 : PySem.W.nsIn K mainGlobals "need_hand" = some (some (.ref f1))) (l1 : K.lookup f1 = some ⟨oc1, od1, .func (PySem.W.fnOf "need_hand" "need_hand" (defArgs s_need_hand) (defBody s_need_hand) (defScope s_need_hand) .none kV1 dc1 pm1 an1 cd1 ct1), sl1⟩) (c1 : PySem.W.codeIn K cd1 "need_hand" = true) (k1 : PySem.W.keepIn K (.ref f1) = true)
    (a2 : PySem.W.nsIn K mainGlobals "need_letter" = some (some (.ref f2))) (l2 : K.lookup f2 = some ⟨oc2, od2, .func (PySem.W.fnOf "need_letter" "need_letter" (defArgs s_need_letter) (defBody s_need_letter) (defScope s_need_letter) .none kV2 dc2 pm2 an2 cd2 ct2), sl2⟩) (c2 : PySem.W.codeIn K cd2 "need_letter" = true) (k2 : PySem.W.keepIn K (.ref f2) = true)
    (a3 : PySem.W.nsIn K mainGlobals "letters" = some (some (.ref f3))) (l3 : K.lookup f3 = some ⟨oc3, od3, .func (PySem.W.fnOf "letters" "letters" (defArgs s_letters) (defBody s_letters) (defScope s_letters) .none kV3 dc3 pm3 an3 cd3 ct3), sl3⟩) (c3 : PySem.W.codeIn K cd3 "letters" = true) (k3 : PySem.W.keepIn K (.ref f3) = true)
    (a4 : PySem.W.nsIn K mainGlobals "_law_cell_at" = some (some (.ref f4))) (l4 : K.lookup f4 = some ⟨oc4, od4, .func (PySem.W.fnOf "_law_cell_at" "_law_cell_at" (defArgs s__law_cell_at) (defBody s__law_cell_at) (defScope s__law_cell_at) .none kV4 dc4 pm4 an4 cd4 ct4), sl4⟩) (c4 : PySem.W.codeIn K cd4 "_law_cell_at" = true) (k4 : PySem.W.keepIn K (.ref f4) = true)
    (a5 : PySem.W.nsIn K mainGlobals "_law_rows_by" = some (some (.ref f5))) (l5 : K.lookup f5 = some ⟨oc5, od5, .func (PySem.W.fnOf "_law_rows_by" "_law_rows_by" (defArgs s__law_rows_by) (defBody s__law_rows_by) (defScope s__law_rows_by) .none kV5 dc5 pm5 an5 cd5 ct5), sl5⟩) (c5 : PySem.W.codeIn K cd5 "_law_rows_by" = true) (k5 : PySem.W.keepIn K (.ref f5) = true)
    (a6 : PySem.W.nsIn K mainGlobals "_law_refusal" = some (some (.ref f6))) (l6 : K.lookup f6 = some ⟨oc6, od6, .func (PySem.W.fnOf "_law_refusal" "_law_refusal" (defArgs s__law_refusal) (defBody s__law_refusal) (defScope s__law_refusal) .none kV6 dc6 pm6 an6 cd6 ct6), sl6⟩) (c6 : PySem.W.codeIn K cd6 "_law_refusal" = true) (k6 : PySem.W.keepIn K (.ref f6) = true)
    (a7 : PySem.W.nsIn K mainGlobals "_law_turned" = some (some (.ref f7))) (l7 : K.lookup f7 = some ⟨oc7, od7, .func (PySem.W.fnOf "_law_turned" "_law_turned" (defArgs s__law_turned) (defBody s__law_turned) (defScope s__law_turned) .none kV7 dc7 pm7 an7 cd7 ct7), sl7⟩) (c7 : PySem.W.codeIn K cd7 "_law_turned" = true) (k7 : PySem.W.keepIn K (.ref f7) = true)
    (a8 : PySem.W.nsIn K mainGlobals "_law_refused_by_any" = some (some (.ref f8))) (l8 : K.lookup f8 = some ⟨oc8, od8, .func (PySem.W.fnOf "_law_refused_by_any" "_law_refused_by_any" (defArgs s__law_refused_by_any) (defBody s__law_refused_by_any) (defScope s__law_refused_by_any) .none kV8 dc8 pm8 an8 cd8 ct8), sl8⟩) (c8 : PySem.W.codeIn K cd8 "_law_refused_by_any" = true) (k8 : PySem.W.keepIn K (.ref f8) = true)
    (a9 : PySem.W.nsIn K mainGlobals "_law_beyond" = some (some (.ref f9))) (l9 : K.lookup f9 = some ⟨oc9, od9, .func (PySem.W.fnOf "_law_beyond" "_law_beyond" (defArgs s__law_beyond) (defBody s__law_beyond) (defScope s__law_beyond) .none kV9 dc9 pm9 an9 cd9 ct9), sl9⟩) (c9 : PySem.W.codeIn K cd9 "_law_beyond" = true) (k9 : PySem.W.keepIn K (.ref f9) = true)
    (a10 : PySem.W.nsIn K mainGlobals "_law_letter_wrong" = some (some (.ref f10))) (l10 : K.lookup f10 = some ⟨oc10, od10, .func (PySem.W.fnOf "_law_letter_wrong" "_law_letter_wrong" (defArgs s__law_letter_wrong) (defBody s__law_letter_wrong) (defScope s__law_letter_wrong) .none kV10 dc10 pm10 an10 cd10 ct10), sl10⟩) (c10 : PySem.W.codeIn K cd10 "_law_letter_wrong" = true) (k10 : PySem.W.keepIn K (.ref f10) = true)
    (a11 : PySem.W.nsIn K mainGlobals "_law_word" = some (some (.ref f11))) (l11 : K.lookup f11 = some ⟨oc11, od11, .func (PySem.W.fnOf "_law_word" "_law_word" (defArgs s__law_word) (defBody s__law_word) (defScope s__law_word) .none kV11 dc11 pm11 an11 cd11 ct11), sl11⟩) (c11 : PySem.W.codeIn K cd11 "_law_word" = true) (k11 : PySem.W.keepIn K (.ref f11) = true)
    (a12 : PySem.W.nsIn K mainGlobals "_law_wrong" = some (some (.ref f12))) (l12 : K.lookup f12 = some ⟨oc12, od12, .func (PySem.W.fnOf "_law_wrong" "_law_wrong" (defArgs s__law_wrong) (defBody s__law_wrong) (defScope s__law_wrong) .none kV12 dc12 pm12 an12 cd12 ct12), sl12⟩) (c12 : PySem.W.codeIn K cd12 "_law_wrong" = true) (k12 : PySem.W.keepIn K (.ref f12) = true)
    (a13 : PySem.W.nsIn K mainGlobals "_law_history" = some (some (.ref f13))) (l13 : K.lookup f13 = some ⟨oc13, od13, .func (PySem.W.fnOf "_law_history" "_law_history" (defArgs s__law_history) (defBody s__law_history) (defScope s__law_history) .none kV13 dc13 pm13 an13 cd13 ct13), sl13⟩) (c13 : PySem.W.codeIn K cd13 "_law_history" = true) (k13 : PySem.W.keepIn K (.ref f13) = true)
    (a14 : PySem.W.nsIn K mainGlobals "law" = some (some (.ref f14))) (l14 : K.lookup f14 = some ⟨oc14, od14, .func (PySem.W.fnOf "law" "law" (defArgs s_law) (defBody s_law) (defScope s_law) .none kV14 dc14 pm14 an14 cd14 ct14), sl14⟩) (c14 : PySem.W.codeIn K cd14 "law" = true) (k14 : PySem.W.keepIn K (.ref f14) = true)
    (z_ValueError : PySem.W.nsIn K mainGlobals "ValueError" = some none)
    (z_enumerate : PySem.W.nsIn K mainGlobals "enumerate" = some none)
    (z_isinstance : PySem.W.nsIn K mainGlobals "isinstance" = some none)
    (z_len : PySem.W.nsIn K mainGlobals "len" = some none)
    (z_list : PySem.W.nsIn K mainGlobals "list" = some none)
    (z_range : PySem.W.nsIn K mainGlobals "range" = some none)
    (m_HANDS : PySem.W.nsIn K mainGlobals "HANDS" = some (some (.int 40 t_HANDS)))
    (m_ROWS : PySem.W.nsIn K mainGlobals "ROWS" = some (some (.int 1000 t_ROWS)))
    (pA : PySem.W.nsIn K mainGlobals "PARTS" = some (some (.ref pD))) (pL : K.lookup pD = some ⟨.type "dict", none, .dict #[⟨h1, .str wSend u1, .int 3 v1⟩, ⟨h2, .str wGot u2, .int 3 v2⟩, ⟨h3, .str wNote u3, .int 2 v3⟩] pN, #[]⟩) (pK : PySem.W.KeysLit w.params [⟨h1, .str wSend u1, .int 3 v1⟩, ⟨h2, .str wGot u2, .int 3 v2⟩, ⟨h3, .str wNote u3, .int 2 v3⟩]) (pS : (pD == sysModules) = false)
    (gc_LineError : PySem.W.nsIn K mainGlobals "LineError" = some (some (.ref c_LineError)))
    (gc_NoHands : PySem.W.nsIn K mainGlobals "NoHands" = some (some (.ref c_NoHands)))
    (gc_TooMany : PySem.W.nsIn K mainGlobals "TooMany" = some (some (.ref c_TooMany)))
    (gc_NoRow : PySem.W.nsIn K mainGlobals "NoRow" = some (some (.ref c_NoRow)))
    (gc_NoHand : PySem.W.nsIn K mainGlobals "NoHand" = some (some (.ref c_NoHand)))
    (gc_NoLetter : PySem.W.nsIn K mainGlobals "NoLetter" = some (some (.ref c_NoLetter)))
    (gc_GotTwice : PySem.W.nsIn K mainGlobals "GotTwice" = some (some (.ref c_GotTwice)))
    (xc_GotTwice : PySem.W.excIn K c_GotTwice [.type "ValueError", .type "Exception", .type "BaseException", .type "object"] "ValueError.__new__" = true) (kc_GotTwice : PySem.W.keepIn K (.ref c_GotTwice) = true) (bc_GotTwice : PySem.W.subIn K (.ref c_GotTwice) (.type "BaseException") = some true) (tc_GotTwice : PySem.W.typeIn K (.ref c_GotTwice) = some (.type "type"))
    (xc_NoHand : PySem.W.excIn K c_NoHand [.type "ValueError", .type "Exception", .type "BaseException", .type "object"] "ValueError.__new__" = true) (kc_NoHand : PySem.W.keepIn K (.ref c_NoHand) = true) (bc_NoHand : PySem.W.subIn K (.ref c_NoHand) (.type "BaseException") = some true) (tc_NoHand : PySem.W.typeIn K (.ref c_NoHand) = some (.type "type"))
    (xc_NoHands : PySem.W.excIn K c_NoHands [.type "ValueError", .type "Exception", .type "BaseException", .type "object"] "ValueError.__new__" = true) (kc_NoHands : PySem.W.keepIn K (.ref c_NoHands) = true) (bc_NoHands : PySem.W.subIn K (.ref c_NoHands) (.type "BaseException") = some true) (tc_NoHands : PySem.W.typeIn K (.ref c_NoHands) = some (.type "type"))
    (xc_NoLetter : PySem.W.excIn K c_NoLetter [.type "ValueError", .type "Exception", .type "BaseException", .type "object"] "ValueError.__new__" = true) (kc_NoLetter : PySem.W.keepIn K (.ref c_NoLetter) = true) (bc_NoLetter : PySem.W.subIn K (.ref c_NoLetter) (.type "BaseException") = some true) (tc_NoLetter : PySem.W.typeIn K (.ref c_NoLetter) = some (.type "type"))
    (xc_NoRow : PySem.W.excIn K c_NoRow [.type "ValueError", .type "Exception", .type "BaseException", .type "object"] "ValueError.__new__" = true) (kc_NoRow : PySem.W.keepIn K (.ref c_NoRow) = true) (bc_NoRow : PySem.W.subIn K (.ref c_NoRow) (.type "BaseException") = some true) (tc_NoRow : PySem.W.typeIn K (.ref c_NoRow) = some (.type "type"))
    (xc_TooMany : PySem.W.excIn K c_TooMany [.type "ValueError", .type "Exception", .type "BaseException", .type "object"] "ValueError.__new__" = true) (kc_TooMany : PySem.W.keepIn K (.ref c_TooMany) = true) (bc_TooMany : PySem.W.subIn K (.ref c_TooMany) (.type "BaseException") = some true) (tc_TooMany : PySem.W.typeIn K (.ref c_TooMany) = some (.type "type"))
    (qc_GotTwice_GotTwice : PySem.W.mroIn K c_GotTwice (.ref c_GotTwice) = some true)
    (qc_GotTwice_NoHand : PySem.W.mroIn K c_GotTwice (.ref c_NoHand) = some false)
    (qc_GotTwice_NoHands : PySem.W.mroIn K c_GotTwice (.ref c_NoHands) = some false)
    (qc_GotTwice_NoLetter : PySem.W.mroIn K c_GotTwice (.ref c_NoLetter) = some false)
    (qc_GotTwice_NoRow : PySem.W.mroIn K c_GotTwice (.ref c_NoRow) = some false)
    (qc_GotTwice_TooMany : PySem.W.mroIn K c_GotTwice (.ref c_TooMany) = some false)
    (qc_NoHand_GotTwice : PySem.W.mroIn K c_NoHand (.ref c_GotTwice) = some false)
    (qc_NoHand_NoHand : PySem.W.mroIn K c_NoHand (.ref c_NoHand) = some true)
    (qc_NoHand_NoHands : PySem.W.mroIn K c_NoHand (.ref c_NoHands) = some false)
    (qc_NoHand_NoLetter : PySem.W.mroIn K c_NoHand (.ref c_NoLetter) = some false)
    (qc_NoHand_NoRow : PySem.W.mroIn K c_NoHand (.ref c_NoRow) = some false)
    (qc_NoHand_TooMany : PySem.W.mroIn K c_NoHand (.ref c_TooMany) = some false)
    (qc_NoHands_GotTwice : PySem.W.mroIn K c_NoHands (.ref c_GotTwice) = some false)
    (qc_NoHands_NoHand : PySem.W.mroIn K c_NoHands (.ref c_NoHand) = some false)
    (qc_NoHands_NoHands : PySem.W.mroIn K c_NoHands (.ref c_NoHands) = some true)
    (qc_NoHands_NoLetter : PySem.W.mroIn K c_NoHands (.ref c_NoLetter) = some false)
    (qc_NoHands_NoRow : PySem.W.mroIn K c_NoHands (.ref c_NoRow) = some false)
    (qc_NoHands_TooMany : PySem.W.mroIn K c_NoHands (.ref c_TooMany) = some false)
    (qc_NoLetter_GotTwice : PySem.W.mroIn K c_NoLetter (.ref c_GotTwice) = some false)
    (qc_NoLetter_NoHand : PySem.W.mroIn K c_NoLetter (.ref c_NoHand) = some false)
    (qc_NoLetter_NoHands : PySem.W.mroIn K c_NoLetter (.ref c_NoHands) = some false)
    (qc_NoLetter_NoLetter : PySem.W.mroIn K c_NoLetter (.ref c_NoLetter) = some true)
    (qc_NoLetter_NoRow : PySem.W.mroIn K c_NoLetter (.ref c_NoRow) = some false)
    (qc_NoLetter_TooMany : PySem.W.mroIn K c_NoLetter (.ref c_TooMany) = some false)
    (qc_NoRow_GotTwice : PySem.W.mroIn K c_NoRow (.ref c_GotTwice) = some false)
    (qc_NoRow_NoHand : PySem.W.mroIn K c_NoRow (.ref c_NoHand) = some false)
    (qc_NoRow_NoHands : PySem.W.mroIn K c_NoRow (.ref c_NoHands) = some false)
    (qc_NoRow_NoLetter : PySem.W.mroIn K c_NoRow (.ref c_NoLetter) = some false)
    (qc_NoRow_NoRow : PySem.W.mroIn K c_NoRow (.ref c_NoRow) = some true)
    (qc_NoRow_TooMany : PySem.W.mroIn K c_NoRow (.ref c_TooMany) = some false)
    (qc_TooMany_GotTwice : PySem.W.mroIn K c_TooMany (.ref c_GotTwice) = some false)
    (qc_TooMany_NoHand : PySem.W.mroIn K c_TooMany (.ref c_NoHand) = some false)
    (qc_TooMany_NoHands : PySem.W.mroIn K c_TooMany (.ref c_NoHands) = some false)
    (qc_TooMany_NoLetter : PySem.W.mroIn K c_TooMany (.ref c_NoLetter) = some false)
    (qc_TooMany_NoRow : PySem.W.mroIn K c_TooMany (.ref c_NoRow) = some false)
    (qc_TooMany_TooMany : PySem.W.mroIn K c_TooMany (.ref c_TooMany) = some true)
    (id_GotTwice : PySem.W.hasDictIn K c_GotTwice = true)
    (id_NoHand : PySem.W.hasDictIn K c_NoHand = true)
    (id_NoHands : PySem.W.hasDictIn K c_NoHands = true)
    (id_NoLetter : PySem.W.hasDictIn K c_NoLetter = true)
    (id_NoRow : PySem.W.hasDictIn K c_NoRow = true)
    (id_TooMany : PySem.W.hasDictIn K c_TooMany = true)
    (ie_n : PySem.W.specialIn K (.builtin "object.__class__") "__get__" = some (some (.builtin "getset_descriptor.__get__"))) (ie_t : PySem.W.takesIn K (.builtin "object.__class__") = some true)
    (bc_LineError : PySem.W.subIn K (.ref c_LineError) (.type "BaseException") = some true) (tc_LineError : PySem.W.typeIn K (.ref c_LineError) = some (.type "type")) (id_LineError : PySem.W.hasDictIn K c_LineError = true)
    (ix_GotTwice : PySem.W.mroIn K c_GotTwice (.ref c_LineError) = some true) (ig_GotTwice : PySem.W.findIn K (.ref c_GotTwice) "__getattribute__" = some (some (.builtin "BaseException.__getattribute__"))) (ik_GotTwice : PySem.W.findIn K (.ref c_GotTwice) "__getattr__" = some none) (ia_GotTwice : PySem.W.findIn K (.ref c_GotTwice) "__class__" = some (some (.builtin "object.__class__"))) (im_GotTwice : PySem.W.mroIn K c_GotTwice (.type "object") = some true) (iv_GotTwice : PySem.W.mroIn K c_GotTwice (.type "ValueError") = some true)
    (ix_NoHand : PySem.W.mroIn K c_NoHand (.ref c_LineError) = some true) (ig_NoHand : PySem.W.findIn K (.ref c_NoHand) "__getattribute__" = some (some (.builtin "BaseException.__getattribute__"))) (ik_NoHand : PySem.W.findIn K (.ref c_NoHand) "__getattr__" = some none) (ia_NoHand : PySem.W.findIn K (.ref c_NoHand) "__class__" = some (some (.builtin "object.__class__"))) (im_NoHand : PySem.W.mroIn K c_NoHand (.type "object") = some true) (iv_NoHand : PySem.W.mroIn K c_NoHand (.type "ValueError") = some true)
    (ix_NoHands : PySem.W.mroIn K c_NoHands (.ref c_LineError) = some true) (ig_NoHands : PySem.W.findIn K (.ref c_NoHands) "__getattribute__" = some (some (.builtin "BaseException.__getattribute__"))) (ik_NoHands : PySem.W.findIn K (.ref c_NoHands) "__getattr__" = some none) (ia_NoHands : PySem.W.findIn K (.ref c_NoHands) "__class__" = some (some (.builtin "object.__class__"))) (im_NoHands : PySem.W.mroIn K c_NoHands (.type "object") = some true) (iv_NoHands : PySem.W.mroIn K c_NoHands (.type "ValueError") = some true)
    (ix_NoLetter : PySem.W.mroIn K c_NoLetter (.ref c_LineError) = some true) (ig_NoLetter : PySem.W.findIn K (.ref c_NoLetter) "__getattribute__" = some (some (.builtin "BaseException.__getattribute__"))) (ik_NoLetter : PySem.W.findIn K (.ref c_NoLetter) "__getattr__" = some none) (ia_NoLetter : PySem.W.findIn K (.ref c_NoLetter) "__class__" = some (some (.builtin "object.__class__"))) (im_NoLetter : PySem.W.mroIn K c_NoLetter (.type "object") = some true) (iv_NoLetter : PySem.W.mroIn K c_NoLetter (.type "ValueError") = some true)
    (ix_NoRow : PySem.W.mroIn K c_NoRow (.ref c_LineError) = some true) (ig_NoRow : PySem.W.findIn K (.ref c_NoRow) "__getattribute__" = some (some (.builtin "BaseException.__getattribute__"))) (ik_NoRow : PySem.W.findIn K (.ref c_NoRow) "__getattr__" = some none) (ia_NoRow : PySem.W.findIn K (.ref c_NoRow) "__class__" = some (some (.builtin "object.__class__"))) (im_NoRow : PySem.W.mroIn K c_NoRow (.type "object") = some true) (iv_NoRow : PySem.W.mroIn K c_NoRow (.type "ValueError") = some true)
    (ix_TooMany : PySem.W.mroIn K c_TooMany (.ref c_LineError) = some true) (ig_TooMany : PySem.W.findIn K (.ref c_TooMany) "__getattribute__" = some (some (.builtin "BaseException.__getattribute__"))) (ik_TooMany : PySem.W.findIn K (.ref c_TooMany) "__getattr__" = some none) (ia_TooMany : PySem.W.findIn K (.ref c_TooMany) "__class__" = some (some (.builtin "object.__class__"))) (im_TooMany : PySem.W.mroIn K c_TooMany (.type "object") = some true) (iv_TooMany : PySem.W.mroIn K c_TooMany (.type "ValueError") = some true)
    : ∃ fd : FuncData, (∀ (s : Shared) (v : Value), BindsTo s fd ⟨[v], []⟩ [("_law_script", v)]) ∧ ∀ base : Heap, K.In base → base.Ns mainGlobals mg → FnOk l.prog w K mg base CX0 4 fa fd ["_law_script"] (spLaw K) := by
  have e := hfa.symm.trans (PySem.W.mg_of X G a14)
  cases e
  have F0 := fun_mk (st := s_need_row) l0 c0 k0
  have b0 := F0.binds (ps := ["row"]) fun _ _ _ _ _ _ us hl => match us, hl with | [_], _ => rfl
  have F1 := fun_mk (st := s_need_hand) l1 c1 k1
  have b1 := F1.binds (ps := ["hands", "hand"]) fun _ _ _ _ _ _ us hl => match us, hl with | [_, _], _ => rfl
  have F2 := fun_mk (st := s_need_letter) l2 c2 k2
  have b2 := F2.binds (ps := ["found", "hand", "letter"]) fun _ _ _ _ _ _ us hl => match us, hl with | [_, _, _], _ => rfl
  have F3 := fun_mk (st := s_letters) l3 c3 k3
  have b3 := F3.binds (ps := ["hands", "rows"]) fun _ _ _ _ _ _ us hl => match us, hl with | [_, _], _ => rfl
  have F4 := fun_mk (st := s__law_cell_at) l4 c4 k4
  have b4 := F4.binds (ps := ["_law_script", "_law_k"]) fun _ _ _ _ _ _ us hl => match us, hl with | [_, _], _ => rfl
  have F5 := fun_mk (st := s__law_rows_by) l5 c5 k5
  have b5 := F5.binds (ps := ["_law_cells", "_law_hands"]) fun _ _ _ _ _ _ us hl => match us, hl with | [_, _], _ => rfl
  have F6 := fun_mk (st := s__law_refusal) l6 c6 k6
  have b6 := F6.binds (ps := ["_law_hands", "_law_rows"]) fun _ _ _ _ _ _ us hl => match us, hl with | [_, _], _ => rfl
  have F7 := fun_mk (st := s__law_turned) l7 c7 k7
  have b7 := F7.binds (ps := ["_law_hands", "_law_rows"]) fun _ _ _ _ _ _ us hl => match us, hl with | [_, _], _ => rfl
  have F8 := fun_mk (st := s__law_refused_by_any) l8 c8 k8
  have b8 := F8.binds (ps := ["_law_hands", "_law_rows"]) fun _ _ _ _ _ _ us hl => match us, hl with | [_, _], _ => rfl
  have F9 := fun_mk (st := s__law_beyond) l9 c9 k9
  have b9 := F9.binds (ps := ["_law_hands", "_law_cell"]) fun _ _ _ _ _ _ us hl => match us, hl with | [_, _], _ => rfl
  have F10 := fun_mk (st := s__law_letter_wrong) l10 c10 k10
  have b10 := F10.binds (ps := ["_law_rows", "_law_hands", "_law_cell"]) fun _ _ _ _ _ _ us hl => match us, hl with | [_, _, _], _ => rfl
  have F11 := fun_mk (st := s__law_word) l11 c11 k11
  have b11 := F11.binds (ps := ["_law_cell"]) fun _ _ _ _ _ _ us hl => match us, hl with | [_], _ => rfl
  have F12 := fun_mk (st := s__law_wrong) l12 c12 k12
  have b12 := F12.binds (ps := ["_law_rows", "_law_hands", "_law_kind", "_law_cell"]) fun _ _ _ _ _ _ us hl => match us, hl with | [_, _, _, _], _ => rfl
  have F13 := fun_mk (st := s__law_history) l13 c13 k13
  have b13 := F13.binds (ps := ["_law_script", "_law_hands"]) fun _ _ _ _ _ _ us hl => match us, hl with | [_, _], _ => rfl
  have F14 := fun_mk (st := s_law) l14 c14 k14
  have b14 := F14.binds (ps := ["_law_script"]) fun _ _ _ _ _ _ us hl => match us, hl with | [_], _ => rfl
  have T : Tx K mg w { f_need_row := _, d_need_row := _, f_need_hand := _, d_need_hand := _, f_need_letter := _, d_need_letter := _, f_letters := _, d_letters := _, f__law_cell_at := _, d__law_cell_at := _, f__law_rows_by := _, d__law_rows_by := _, f__law_refusal := _, d__law_refusal := _, f__law_turned := _, d__law_turned := _, f__law_refused_by_any := _, d__law_refused_by_any := _, f__law_beyond := _, d__law_beyond := _, f__law_letter_wrong := _, d__law_letter_wrong := _, f__law_word := _, d__law_word := _, f__law_wrong := _, d__law_wrong := _, f__law_history := _, d__law_history := _, f_law := _, d_law := _, C_LineError := _, C_NoHands := _, C_TooMany := _, C_NoRow := _, C_NoHand := _, C_NoLetter := _, C_GotTwice := _, a_PARTS := _ } := { F_need_row := F0, b_need_row := b0, g_need_row := PySem.W.mg_of X G a0, F_need_hand := F1, b_need_hand := b1, g_need_hand := PySem.W.mg_of X G a1, F_need_letter := F2, b_need_letter := b2, g_need_letter := PySem.W.mg_of X G a2, F_letters := F3, b_letters := b3, g_letters := PySem.W.mg_of X G a3, F__law_cell_at := F4, b__law_cell_at := b4, g__law_cell_at := PySem.W.mg_of X G a4, F__law_rows_by := F5, b__law_rows_by := b5, g__law_rows_by := PySem.W.mg_of X G a5, F__law_refusal := F6, b__law_refusal := b6, g__law_refusal := PySem.W.mg_of X G a6, F__law_turned := F7, b__law_turned := b7, g__law_turned := PySem.W.mg_of X G a7, F__law_refused_by_any := F8, b__law_refused_by_any := b8, g__law_refused_by_any := PySem.W.mg_of X G a8, F__law_beyond := F9, b__law_beyond := b9, g__law_beyond := PySem.W.mg_of X G a9, F__law_letter_wrong := F10, b__law_letter_wrong := b10, g__law_letter_wrong := PySem.W.mg_of X G a10, F__law_word := F11, b__law_word := b11, g__law_word := PySem.W.mg_of X G a11, F__law_wrong := F12, b__law_wrong := b12, g__law_wrong := PySem.W.mg_of X G a12, F__law_history := F13, b__law_history := b13, g__law_history := PySem.W.mg_of X G a13, F_law := F14, b_law := b14, g_law := PySem.W.mg_of X G a14, n_ValueError := PySem.W.mg_none_of X G z_ValueError, n_enumerate := PySem.W.mg_none_of X G z_enumerate, n_isinstance := PySem.W.mg_none_of X G z_isinstance, n_len := PySem.W.mg_none_of X G z_len, n_list := PySem.W.mg_none_of X G z_list, n_range := PySem.W.mg_none_of X G z_range, m_HANDS := ⟨_, PySem.W.mg_of X G m_HANDS⟩, m_ROWS := ⟨_, PySem.W.mg_of X G m_ROWS⟩, g_PARTS := PySem.W.mg_of X G pA, parts := parts_mk pL pK pS, g_LineError := PySem.W.mg_of X G gc_LineError, g_NoHands := PySem.W.mg_of X G gc_NoHands, g_TooMany := PySem.W.mg_of X G gc_TooMany, g_NoRow := PySem.W.mg_of X G gc_NoRow, g_NoHand := PySem.W.mg_of X G gc_NoHand, g_NoLetter := PySem.W.mg_of X G gc_NoLetter, g_GotTwice := PySem.W.mg_of X G gc_GotTwice, x_GotTwice := xc_GotTwice, k_GotTwice := kc_GotTwice, bs_GotTwice := bc_GotTwice, tp_GotTwice := tc_GotTwice, x_NoHand := xc_NoHand, k_NoHand := kc_NoHand, bs_NoHand := bc_NoHand, tp_NoHand := tc_NoHand, x_NoHands := xc_NoHands, k_NoHands := kc_NoHands, bs_NoHands := bc_NoHands, tp_NoHands := tc_NoHands, x_NoLetter := xc_NoLetter, k_NoLetter := kc_NoLetter, bs_NoLetter := bc_NoLetter, tp_NoLetter := tc_NoLetter, x_NoRow := xc_NoRow, k_NoRow := kc_NoRow, bs_NoRow := bc_NoRow, tp_NoRow := tc_NoRow, x_TooMany := xc_TooMany, k_TooMany := kc_TooMany, bs_TooMany := bc_TooMany, tp_TooMany := tc_TooMany, q_GotTwice_GotTwice := exm_mk bc_GotTwice id_GotTwice tc_GotTwice qc_GotTwice_GotTwice, q_GotTwice_NoHand := exm_mk bc_NoHand id_NoHand tc_NoHand qc_GotTwice_NoHand, q_GotTwice_NoHands := exm_mk bc_NoHands id_NoHands tc_NoHands qc_GotTwice_NoHands, q_GotTwice_NoLetter := exm_mk bc_NoLetter id_NoLetter tc_NoLetter qc_GotTwice_NoLetter, q_GotTwice_NoRow := exm_mk bc_NoRow id_NoRow tc_NoRow qc_GotTwice_NoRow, q_GotTwice_TooMany := exm_mk bc_TooMany id_TooMany tc_TooMany qc_GotTwice_TooMany, q_NoHand_GotTwice := exm_mk bc_GotTwice id_GotTwice tc_GotTwice qc_NoHand_GotTwice, q_NoHand_NoHand := exm_mk bc_NoHand id_NoHand tc_NoHand qc_NoHand_NoHand, q_NoHand_NoHands := exm_mk bc_NoHands id_NoHands tc_NoHands qc_NoHand_NoHands, q_NoHand_NoLetter := exm_mk bc_NoLetter id_NoLetter tc_NoLetter qc_NoHand_NoLetter, q_NoHand_NoRow := exm_mk bc_NoRow id_NoRow tc_NoRow qc_NoHand_NoRow, q_NoHand_TooMany := exm_mk bc_TooMany id_TooMany tc_TooMany qc_NoHand_TooMany, q_NoHands_GotTwice := exm_mk bc_GotTwice id_GotTwice tc_GotTwice qc_NoHands_GotTwice, q_NoHands_NoHand := exm_mk bc_NoHand id_NoHand tc_NoHand qc_NoHands_NoHand, q_NoHands_NoHands := exm_mk bc_NoHands id_NoHands tc_NoHands qc_NoHands_NoHands, q_NoHands_NoLetter := exm_mk bc_NoLetter id_NoLetter tc_NoLetter qc_NoHands_NoLetter, q_NoHands_NoRow := exm_mk bc_NoRow id_NoRow tc_NoRow qc_NoHands_NoRow, q_NoHands_TooMany := exm_mk bc_TooMany id_TooMany tc_TooMany qc_NoHands_TooMany, q_NoLetter_GotTwice := exm_mk bc_GotTwice id_GotTwice tc_GotTwice qc_NoLetter_GotTwice, q_NoLetter_NoHand := exm_mk bc_NoHand id_NoHand tc_NoHand qc_NoLetter_NoHand, q_NoLetter_NoHands := exm_mk bc_NoHands id_NoHands tc_NoHands qc_NoLetter_NoHands, q_NoLetter_NoLetter := exm_mk bc_NoLetter id_NoLetter tc_NoLetter qc_NoLetter_NoLetter, q_NoLetter_NoRow := exm_mk bc_NoRow id_NoRow tc_NoRow qc_NoLetter_NoRow, q_NoLetter_TooMany := exm_mk bc_TooMany id_TooMany tc_TooMany qc_NoLetter_TooMany, q_NoRow_GotTwice := exm_mk bc_GotTwice id_GotTwice tc_GotTwice qc_NoRow_GotTwice, q_NoRow_NoHand := exm_mk bc_NoHand id_NoHand tc_NoHand qc_NoRow_NoHand, q_NoRow_NoHands := exm_mk bc_NoHands id_NoHands tc_NoHands qc_NoRow_NoHands, q_NoRow_NoLetter := exm_mk bc_NoLetter id_NoLetter tc_NoLetter qc_NoRow_NoLetter, q_NoRow_NoRow := exm_mk bc_NoRow id_NoRow tc_NoRow qc_NoRow_NoRow, q_NoRow_TooMany := exm_mk bc_TooMany id_TooMany tc_TooMany qc_NoRow_TooMany, q_TooMany_GotTwice := exm_mk bc_GotTwice id_GotTwice tc_GotTwice qc_TooMany_GotTwice, q_TooMany_NoHand := exm_mk bc_NoHand id_NoHand tc_NoHand qc_TooMany_NoHand, q_TooMany_NoHands := exm_mk bc_NoHands id_NoHands tc_NoHands qc_TooMany_NoHands, q_TooMany_NoLetter := exm_mk bc_NoLetter id_NoLetter tc_NoLetter qc_TooMany_NoLetter, q_TooMany_NoRow := exm_mk bc_NoRow id_NoRow tc_NoRow qc_TooMany_NoRow, q_TooMany_TooMany := exm_mk bc_TooMany id_TooMany tc_TooMany qc_TooMany_TooMany, i_GotTwice := ⟨exm_mk bc_LineError id_LineError tc_LineError ix_GotTwice, ⟨ig_GotTwice, ik_GotTwice, bc_GotTwice, id_GotTwice, ia_GotTwice, ie_n, ie_t, im_GotTwice⟩, kit_mk iv_GotTwice⟩, i_NoHand := ⟨exm_mk bc_LineError id_LineError tc_LineError ix_NoHand, ⟨ig_NoHand, ik_NoHand, bc_NoHand, id_NoHand, ia_NoHand, ie_n, ie_t, im_NoHand⟩, kit_mk iv_NoHand⟩, i_NoHands := ⟨exm_mk bc_LineError id_LineError tc_LineError ix_NoHands, ⟨ig_NoHands, ik_NoHands, bc_NoHands, id_NoHands, ia_NoHands, ie_n, ie_t, im_NoHands⟩, kit_mk iv_NoHands⟩, i_NoLetter := ⟨exm_mk bc_LineError id_LineError tc_LineError ix_NoLetter, ⟨ig_NoLetter, ik_NoLetter, bc_NoLetter, id_NoLetter, ia_NoLetter, ie_n, ie_t, im_NoLetter⟩, kit_mk iv_NoLetter⟩, i_NoRow := ⟨exm_mk bc_LineError id_LineError tc_LineError ix_NoRow, ⟨ig_NoRow, ik_NoRow, bc_NoRow, id_NoRow, ia_NoRow, ie_n, ie_t, im_NoRow⟩, kit_mk iv_NoRow⟩, i_TooMany := ⟨exm_mk bc_LineError id_LineError tc_LineError ix_TooMany, ⟨ig_TooMany, ik_TooMany, bc_TooMany, id_TooMany, ia_TooMany, ie_n, ie_t, im_TooMany⟩, kit_mk iv_TooMany⟩ }
  exact ⟨_, fun s v => .of_eq rfl, fun base _ _ => (ok_law (P := l.prog) (w := w) (base := base) T).imp fun vs H Q E h => law_imp h⟩
end Row
open PySem PySem.W
set_option maxHeartbeats 0 in
theorem PySem.Challenge.cw_lastline_k02_histories_refused_holds : PySem.Challenge.rw_lastline_k02_histories_refused.Holds := by
  w_on; o_law; k_head; (case hw => w_witness2)
  k_fill
  refine L2.walk_of (l := PySem.Challenge.rw_lastline_k02_histories_refused) (n := 63) (k := 4) (x := "_law_script") (CX := fun _ => L2.CX0) (sp := fun w => Y.spLaw _) rfl (by decide) rfl ⟨rfl, by decide, by decide⟩ (fun w h Y => PySem.W.kIn_of Y) ?F (fun _ _ a ns hl _ hS => ⟨a, ns, rfl, hS, hl, fun _ => rfl⟩) (fun _ _ _ _ _ h => h)
  case F =>
    intro w mg fa h KX G hmg
    refine' Row.all_mk KX G hmg ?a0 ?l0 ?c0 ?k0 ?a1 ?l1 ?c1 ?k1 ?a2 ?l2 ?c2 ?k2 ?a3 ?l3 ?c3 ?k3 ?a4 ?l4 ?c4 ?k4 ?a5 ?l5 ?c5 ?k5 ?a6 ?l6 ?c6 ?k6 ?a7 ?l7 ?c7 ?k7 ?a8 ?l8 ?c8 ?k8 ?a9 ?l9 ?c9 ?k9 ?a10 ?l10 ?c10 ?k10 ?a11 ?l11 ?c11 ?k11 ?a12 ?l12 ?c12 ?k12 ?a13 ?l13 ?c13 ?k13 ?a14 ?l14 ?c14 ?k14 ?z_ValueError ?z_enumerate ?z_isinstance ?z_len ?z_list ?z_range ?m_HANDS ?m_ROWS ?pA ?pL ?pK ?pS ?gc_LineError ?gc_NoHands ?gc_TooMany ?gc_NoRow ?gc_NoHand ?gc_NoLetter ?gc_GotTwice ?xc_GotTwice ?kc_GotTwice ?bc_GotTwice ?tc_GotTwice ?xc_NoHand ?kc_NoHand ?bc_NoHand ?tc_NoHand ?xc_NoHands ?kc_NoHands ?bc_NoHands ?tc_NoHands ?xc_NoLetter ?kc_NoLetter ?bc_NoLetter ?tc_NoLetter ?xc_NoRow ?kc_NoRow ?bc_NoRow ?tc_NoRow ?xc_TooMany ?kc_TooMany ?bc_TooMany ?tc_TooMany ?qc_GotTwice_GotTwice ?qc_GotTwice_NoHand ?qc_GotTwice_NoHands ?qc_GotTwice_NoLetter ?qc_GotTwice_NoRow ?qc_GotTwice_TooMany ?qc_NoHand_GotTwice ?qc_NoHand_NoHand ?qc_NoHand_NoHands ?qc_NoHand_NoLetter ?qc_NoHand_NoRow ?qc_NoHand_TooMany ?qc_NoHands_GotTwice ?qc_NoHands_NoHand ?qc_NoHands_NoHands ?qc_NoHands_NoLetter ?qc_NoHands_NoRow ?qc_NoHands_TooMany ?qc_NoLetter_GotTwice ?qc_NoLetter_NoHand ?qc_NoLetter_NoHands ?qc_NoLetter_NoLetter ?qc_NoLetter_NoRow ?qc_NoLetter_TooMany ?qc_NoRow_GotTwice ?qc_NoRow_NoHand ?qc_NoRow_NoHands ?qc_NoRow_NoLetter ?qc_NoRow_NoRow ?qc_NoRow_TooMany ?qc_TooMany_GotTwice ?qc_TooMany_NoHand ?qc_TooMany_NoHands ?qc_TooMany_NoLetter ?qc_TooMany_NoRow ?qc_TooMany_TooMany ?id_GotTwice ?id_NoHand ?id_NoHands ?id_NoLetter ?id_NoRow ?id_TooMany ?ie_n ?ie_t ?bc_LineError ?tc_LineError ?id_LineError ?ix_GotTwice ?ig_GotTwice ?ik_GotTwice ?ia_GotTwice ?im_GotTwice ?iv_GotTwice ?ix_NoHand ?ig_NoHand ?ik_NoHand ?ia_NoHand ?im_NoHand ?iv_NoHand ?ix_NoHands ?ig_NoHands ?ik_NoHands ?ia_NoHands ?im_NoHands ?iv_NoHands ?ix_NoLetter ?ig_NoLetter ?ik_NoLetter ?ia_NoLetter ?im_NoLetter ?iv_NoLetter ?ix_NoRow ?ig_NoRow ?ik_NoRow ?ia_NoRow ?im_NoRow ?iv_NoRow ?ix_TooMany ?ig_TooMany ?ik_TooMany ?ia_TooMany ?im_TooMany ?iv_TooMany
    (case a0 => k_is)
    (case l0 => k_is)
    (case c0 => k_is)
    (case k0 => k_is)
    (case a1 => k_is)
    (case l1 => k_is)
    (case c1 => k_is)
    (case k1 => k_is)
    (case a2 => k_is)
    (case l2 => k_is)
    (case c2 => k_is)
    (case k2 => k_is)
    (case a3 => k_is)
    (case l3 => k_is)
    (case c3 => k_is)
    (case k3 => k_is)
    (case a4 => k_is)
    (case l4 => k_is)
    (case c4 => k_is)
    (case k4 => k_is)
    (case a5 => k_is)
    (case l5 => k_is)
    (case c5 => k_is)
    (case k5 => k_is)
    (case a6 => k_is)
    (case l6 => k_is)
    (case c6 => k_is)
    (case k6 => k_is)
    (case a7 => k_is)
    (case l7 => k_is)
    (case c7 => k_is)
    (case k7 => k_is)
    (case a8 => k_is)
    (case l8 => k_is)
    (case c8 => k_is)
    (case k8 => k_is)
    (case a9 => k_is)
    (case l9 => k_is)
    (case c9 => k_is)
    (case k9 => k_is)
    (case a10 => k_is)
    (case l10 => k_is)
    (case c10 => k_is)
    (case k10 => k_is)
    (case a11 => k_is)
    (case l11 => k_is)
    (case c11 => k_is)
    (case k11 => k_is)
    (case a12 => k_is)
    (case l12 => k_is)
    (case c12 => k_is)
    (case k12 => k_is)
    (case a13 => k_is)
    (case l13 => k_is)
    (case c13 => k_is)
    (case k13 => k_is)
    (case a14 => k_is)
    (case l14 => k_is)
    (case c14 => k_is)
    (case k14 => k_is)
    (case z_ValueError => k_is)
    (case z_enumerate => k_is)
    (case z_isinstance => k_is)
    (case z_len => k_is)
    (case z_list => k_is)
    (case z_range => k_is)
    (case m_HANDS => k_is)
    (case m_ROWS => k_is)
    (case pA => k_is)
    (case pL => k_is)
    (case pK => exact ⟨⟨_, _, rfl, rfl⟩, ⟨_, _, rfl, rfl⟩, ⟨_, _, rfl, rfl⟩, trivial⟩)
    (case pS => first | rfl | decide | k_is)
    (case gc_LineError => k_is)
    (case gc_NoHands => k_is)
    (case gc_TooMany => k_is)
    (case gc_NoRow => k_is)
    (case gc_NoHand => k_is)
    (case gc_NoLetter => k_is)
    (case gc_GotTwice => k_is)
    (case xc_GotTwice => first | k_is | k_exc)
    (case kc_GotTwice => k_is)
    (case bc_GotTwice => k_is)
    (case tc_GotTwice => k_is)
    (case xc_NoHand => first | k_is | k_exc)
    (case kc_NoHand => k_is)
    (case bc_NoHand => k_is)
    (case tc_NoHand => k_is)
    (case xc_NoHands => first | k_is | k_exc)
    (case kc_NoHands => k_is)
    (case bc_NoHands => k_is)
    (case tc_NoHands => k_is)
    (case xc_NoLetter => first | k_is | k_exc)
    (case kc_NoLetter => k_is)
    (case bc_NoLetter => k_is)
    (case tc_NoLetter => k_is)
    (case xc_NoRow => first | k_is | k_exc)
    (case kc_NoRow => k_is)
    (case bc_NoRow => k_is)
    (case tc_NoRow => k_is)
    (case xc_TooMany => first | k_is | k_exc)
    (case kc_TooMany => k_is)
    (case bc_TooMany => k_is)
    (case tc_TooMany => k_is)
    (case qc_GotTwice_GotTwice => k_is)
    (case qc_GotTwice_NoHand => k_is)
    (case qc_GotTwice_NoHands => k_is)
    (case qc_GotTwice_NoLetter => k_is)
    (case qc_GotTwice_NoRow => k_is)
    (case qc_GotTwice_TooMany => k_is)
    (case qc_NoHand_GotTwice => k_is)
    (case qc_NoHand_NoHand => k_is)
    (case qc_NoHand_NoHands => k_is)
    (case qc_NoHand_NoLetter => k_is)
    (case qc_NoHand_NoRow => k_is)
    (case qc_NoHand_TooMany => k_is)
    (case qc_NoHands_GotTwice => k_is)
    (case qc_NoHands_NoHand => k_is)
    (case qc_NoHands_NoHands => k_is)
    (case qc_NoHands_NoLetter => k_is)
    (case qc_NoHands_NoRow => k_is)
    (case qc_NoHands_TooMany => k_is)
    (case qc_NoLetter_GotTwice => k_is)
    (case qc_NoLetter_NoHand => k_is)
    (case qc_NoLetter_NoHands => k_is)
    (case qc_NoLetter_NoLetter => k_is)
    (case qc_NoLetter_NoRow => k_is)
    (case qc_NoLetter_TooMany => k_is)
    (case qc_NoRow_GotTwice => k_is)
    (case qc_NoRow_NoHand => k_is)
    (case qc_NoRow_NoHands => k_is)
    (case qc_NoRow_NoLetter => k_is)
    (case qc_NoRow_NoRow => k_is)
    (case qc_NoRow_TooMany => k_is)
    (case qc_TooMany_GotTwice => k_is)
    (case qc_TooMany_NoHand => k_is)
    (case qc_TooMany_NoHands => k_is)
    (case qc_TooMany_NoLetter => k_is)
    (case qc_TooMany_NoRow => k_is)
    (case qc_TooMany_TooMany => k_is)
    (case id_GotTwice => k_is)
    (case id_NoHand => k_is)
    (case id_NoHands => k_is)
    (case id_NoLetter => k_is)
    (case id_NoRow => k_is)
    (case id_TooMany => k_is)
    (case ie_n => k_is)
    (case ie_t => k_is)
    (case bc_LineError => k_is)
    (case tc_LineError => k_is)
    (case id_LineError => k_is)
    (case ix_GotTwice => k_is)
    (case ig_GotTwice => k_is)
    (case ik_GotTwice => k_is)
    (case ia_GotTwice => k_is)
    (case im_GotTwice => k_is)
    (case iv_GotTwice => k_is)
    (case ix_NoHand => k_is)
    (case ig_NoHand => k_is)
    (case ik_NoHand => k_is)
    (case ia_NoHand => k_is)
    (case im_NoHand => k_is)
    (case iv_NoHand => k_is)
    (case ix_NoHands => k_is)
    (case ig_NoHands => k_is)
    (case ik_NoHands => k_is)
    (case ia_NoHands => k_is)
    (case im_NoHands => k_is)
    (case iv_NoHands => k_is)
    (case ix_NoLetter => k_is)
    (case ig_NoLetter => k_is)
    (case ik_NoLetter => k_is)
    (case ia_NoLetter => k_is)
    (case im_NoLetter => k_is)
    (case iv_NoLetter => k_is)
    (case ix_NoRow => k_is)
    (case ig_NoRow => k_is)
    (case ik_NoRow => k_is)
    (case ia_NoRow => k_is)
    (case im_NoRow => k_is)
    (case iv_NoRow => k_is)
    (case ix_TooMany => k_is)
    (case ig_TooMany => k_is)
    (case ik_TooMany => k_is)
    (case ia_TooMany => k_is)
    (case im_TooMany => k_is)
    (case iv_TooMany => k_is)
