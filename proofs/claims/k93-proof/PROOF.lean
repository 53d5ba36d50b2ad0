import PyProof.Rows.All
import Wide.All
import OpenK.AllK
import Wide.FinOn
import PyProof.EqAt
import PyProof.EqKinds
import PyProof.TupleCall
import HandS.ForMost
import HandS.ForExc
import HandS.CallSlots
import HandS.IsInst
import HandS.HotCalls
import HandS.ExcIs
import HandS.Flow
import KE.SortData
import KE.DataMinMax
import HandS.Style
import HandS.Deep
import HandS.Rev
import KE.SortLaws
import HandS.WordsExc
import HandS.ExcCtx
import HandS.Defaults
import KE.LtData
import HandS.Small
import HandS.More
import HandS.Conv
import HandS.DictComp
import HandS.SetBool
import HandS.SetTxt0
import HandS.Set
import PySem.Challenge.RW_desksagree_k93_days_of_orders
set_option Elab.async false
set_option linter.all false
set_option autoImplicit false
set_option maxRecDepth 100000
set_option maxHeartbeats 4000000
/-! Z: data by values, things that change by numbers; what a reading comes to is a plain function. -/
namespace Z
open PySem PySem.Spec PyProof.Rows L2

/-! ### data -/
mutual
def fits : PyData → Prop
  | .str s => s.length ≤ sizeLine
  | .list xs => xs.length ≤ sizeLine ∧ fitsAll xs
  | .tuple xs => xs.length ≤ sizeLine ∧ fitsAll xs
  | .dict _ => False
  | _ => True
def fitsAll : List PyData → Prop
  | [] => True
  | x :: xs => fits x ∧ fitsAll xs
end
mutual
/-- what stands as data: lists that are tracked, tuples that may be read -/
inductive Dt (K : PySem.W.Frag) (H : Hp) : V → PyData → Prop
  | non : Dt K H .non .none
  | bl (b : Bool) : Dt K H (.bl b) (.bool b)
  | int (i : Int) : Dt K H (.int i) (.int i)
  | str (x : Str) : Dt K H (.str x) (.str x)
  | lst {a : Addr} {xs : List V} {ds : List PyData} : H a = some (.lst xs) → DtAll K H xs ds → Dt K H (.ref a) (.list ds)
  | tup {a : Addr} {xs : List V} {ds : List PyData} : SqT K H a xs → DtAll K H xs ds → Dt K H (.ref a) (.tuple ds)
inductive DtAll (K : PySem.W.Frag) (H : Hp) : List V → List PyData → Prop
  | nil : DtAll K H [] []
  | cons {v : V} {vs : List V} {d : PyData} {ds : List PyData} : Dt K H v d → DtAll K H vs ds → DtAll K H (v :: vs) (d :: ds)
end
theorem same_t {K : PySem.W.Frag} {H H' : Hp} {a : Addr} {xs : List V} (e : Same H H') (h : SqT K H a xs) : SqT K H' a xs := by
  rcases h with (h | ⟨o, h⟩) | h
  · exact .inl (.inl (e _ _ h))
  · exact .inl (.inr ⟨o, e _ _ h⟩)
  · exact .inr h
mutual
theorem Dt.mono {K : PySem.W.Frag} {H H' : Hp} (e : Same H H') : ∀ (d : PyData) (v : V), Dt K H v d → Dt K H' v d
  | .none, _, h => by cases h; exact .non
  | .bool b, _, h => by cases h; exact .bl b
  | .int i, _, h => by cases h; exact .int i
  | .str x, _, h => by cases h; exact .str x
  | .list ds, _, h => by
    cases h with
    | lst hs ha => exact .lst (e _ _ hs) (DtAll.mono e ds _ ha)
  | .tuple ds, _, h => by
    cases h with
    | tup hs ha => exact .tup (same_t e hs) (DtAll.mono e ds _ ha)
  | .dict _, _, h => by cases h
theorem DtAll.mono {K : PySem.W.Frag} {H H' : Hp} (e : Same H H') : ∀ (ds : List PyData) (vs : List V), DtAll K H vs ds → DtAll K H' vs ds
  | [], _, h => by cases h; exact .nil
  | d :: ds, _, h => by
    cases h with
    | cons h1 h2 => exact .cons (Dt.mono e d _ h1) (DtAll.mono e ds _ h2)
end
mutual
theorem Dt.dp {K : PySem.W.Frag} {H : Hp} : ∀ (d : PyData) (v : V), Dt K H v d → Dp K H v d
  | .none, _, h => by cases h; exact .non
  | .bool b, _, h => by cases h; exact .bl b
  | .int i, _, h => by cases h; exact .int i
  | .str x, _, h => by cases h; exact .str x
  | .list ds, _, h => by
    cases h with
    | lst hs ha => exact .lst (SqL.of hs) (DtAll.dp ds _ ha)
  | .tuple ds, _, h => by
    cases h with
    | tup hs ha => exact .tup hs (DtAll.dp ds _ ha)
  | .dict _, _, h => by cases h
theorem DtAll.dp {K : PySem.W.Frag} {H : Hp} : ∀ (ds : List PyData) (vs : List V), DtAll K H vs ds → DpAll K H vs ds
  | [], _, h => by cases h; exact .nil
  | d :: ds, _, h => by
    cases h with
    | cons h1 h2 => exact .cons (Dt.dp d _ h1) (DtAll.dp ds _ h2)
end
/-- data of a size that a line of the model bears -/
def Dz (K : PySem.W.Frag) (H : Hp) (v : V) (d : PyData) : Prop := Dt K H v d ∧ fits d
theorem Dz.mono {K : PySem.W.Frag} {H H' : Hp} {v : V} {d : PyData} (e : Same H H') (h : Dz K H v d) : Dz K H' v d := ⟨Dt.mono e d v h.1, h.2⟩
abbrev DzAll (K : PySem.W.Frag) (H : Hp) : List V → List PyData → Prop := Paired (Dz K H)
theorem dzAll_of {K : PySem.W.Frag} {H : Hp} : ∀ {ds : List PyData} {vs : List V}, DtAll K H vs ds → fitsAll ds → DzAll K H vs ds
  | [], _, h, _ => by cases h; exact .nil
  | d :: ds, _, h, f => by
    cases h with
    | cons h1 h2 => exact .cons ⟨h1, f.1⟩ (dzAll_of h2 f.2)
theorem of_dzAll {K : PySem.W.Frag} {H : Hp} : ∀ {ds : List PyData} {vs : List V}, DzAll K H vs ds → DtAll K H vs ds ∧ fitsAll ds
  | _, _, .nil => ⟨.nil, trivial⟩
  | _, _, .cons h t => ⟨.cons h.1 (of_dzAll t).1, h.2, (of_dzAll t).2⟩
theorem Paired.len {α β : Type} {F : α → β → Prop} : ∀ {l : List α} {m : List β}, Paired F l m → l.length = m.length
  | _, _, .nil => rfl
  | _, _, .cons _ t => congrArg (· + 1) (Paired.len t)
theorem Paired.imp {α β : Type} {F G : α → β → Prop} (f : ∀ a b, F a b → G a b) : ∀ {l : List α} {m : List β}, Paired F l m → Paired G l m
  | _, _, .nil => .nil
  | _, _, .cons h t => .cons (f _ _ h) (Paired.imp f t)
theorem Paired.app {α β : Type} {F : α → β → Prop} : ∀ {l l' : List α} {m m' : List β}, Paired F l m → Paired F l' m' → Paired F (l ++ l') (m ++ m')
  | _, _, _, _, .nil, h => h
  | _, _, _, _, .cons h t, h' => .cons h (Paired.app t h')
theorem Paired.at {α β : Type} {F : α → β → Prop} : ∀ {l : List α} {m : List β} {i : Nat} {b : β}, Paired F l m → m[i]? = some b → ∃ a, l[i]? = some a ∧ F a b
  | _, _, _, _, .nil, h => by simp at h
  | _, _, 0, _, .cons h t, e => by simp at e; subst e; exact ⟨_, rfl, h⟩
  | _, _, i + 1, _, .cons h t, e => by simpa using Paired.at (i := i) t (by simpa using e)
theorem Paired.put {α β : Type} {F : α → β → Prop} {a : α} {b : β} (h : F a b) : ∀ {l : List α} {m : List β} (i : Nat), Paired F l m → Paired F (l.set i a) (m.set i b)
  | _, _, _, .nil => .nil
  | _, _, 0, .cons _ t => .cons h t
  | _, _, i + 1, .cons g t => .cons g (Paired.put h i t)
theorem Paired.tk {α β : Type} {F : α → β → Prop} : ∀ {l : List α} {m : List β} (n : Nat), Paired F l m → Paired F (l.take n) (m.take n)
  | _, _, 0, _ => .nil
  | _, _, _ + 1, .nil => .nil
  | _, _, n + 1, .cons h t => .cons h (Paired.tk n t)
theorem Paired.dr {α β : Type} {F : α → β → Prop} : ∀ {l : List α} {m : List β} (n : Nat), Paired F l m → Paired F (l.drop n) (m.drop n)
  | _, _, 0, t => t
  | _, _, _ + 1, .nil => .nil
  | _, _, n + 1, .cons _ t => Paired.dr n t

/-! ### what a name holds, what changes -/
/-- data; the thing of a number; a plain value (a class, an error) -/
inductive W where
  | d (x : PyData) | r (i : Nat) | k (v : V)
/-- what changes: a list, an instance, a dict; or nothing more is known of it -/
inductive MO where
  | lst (xs : List W) | ins (C : Addr) (fs : List (Str × W)) | dic (t : Bool) (kvs : List (PyData × W)) | dlk (t : Bool) (kvs : List (PyData × W)) | gone
/-- it is known, and may change -/
def MO.live : MO → Bool
  | .gone => false | .dlk _ _ => false | _ => true
/-- a key as data -/
def keyD : Key → PyData
  | .inl i => .int i
  | .inr s => .str s
abbrev Ms := List MO
abbrev Sl := List (Option W)
def WR (K : PySem.W.Frag) (as : List Addr) (Hb : Hp) (v : V) : W → Prop
  | .d x => Dz K Hb v x
  | .r i => ∃ a, as[i]? = some a ∧ v = .ref a
  | .k u => v = u
/-- a dict's keys and values (t: its keys are tuples) -/
def DicR (K : PySem.W.Frag) (as : List Addr) (Hb : Hp) (t : Bool) (u : HO) (kvs : List (PyData × W)) : Prop := match t with
  | false => ∃ kv, u = .dK kv ∧ Paired (fun (p : Key × V) (q : PyData × W) => q.1 = keyD p.1 ∧ fits q.1 ∧ WR K as Hb p.2 q.2) kv kvs
  | true => ∃ kv, u = .dT kv ∧ Paired (fun (p : List Key × V) (q : PyData × W) => q.1 = .tuple (p.1.map keyD) ∧ fits q.1 ∧ WR K as Hb p.2 q.2) kv kvs
def MOk (K : PySem.W.Frag) (as : List Addr) (Hb H : Hp) (a : Addr) : MO → Prop
  | .lst xs => xs.length ≤ sizeLine ∧ ∃ vs, H a = some (.lst vs) ∧ Paired (WR K as Hb) vs xs
  | .ins C fs => ∃ dx fv, H a = some (.ins C dx fv) ∧ Paired (fun (p : Str × V) (q : Str × W) => p.1 = q.1 ∧ WR K as Hb p.2 q.2) fv fs
  | .dic t kvs => kvs.length ≤ sizeLine ∧ ∃ u, H a = some u ∧ DicR K as Hb t u kvs
  | .dlk t kvs => kvs.length ≤ sizeLine ∧ ∃ od u, Hb a = some (.frz od u) ∧ H a = some (.frz od u) ∧ DicR K as Hb t u kvs
  | .gone => True
/-- the state: H0 stands, Hb is the data (begun with Hb0), the i-th thing is at the i-th address -/
structure Rel (K : PySem.W.Frag) (H0 Hb0 : Hp) (as : List Addr) (Hb H : Hp) (M : Ms) : Prop where
  sub : Same Hb H
  top : Same H0 H
  len : as.length = M.length
  nd : as.Nodup
  al : ∀ a ∈ as, H a ≠ none
  off : ∀ (i : Nat) (a : Addr) (o : MO), as[i]? = some a → M[i]? = some o → o.live = true → Hb a = none
  off0 : ∀ a ∈ as, H0 a = none
  b0 : Same Hb0 Hb
  at' : ∀ (i : Nat) (a : Addr) (o : MO), as[i]? = some a → M[i]? = some o → MOk K as Hb H a o
  hb0 : ∀ a, Hb a ≠ none → Hb0 a = none → H0 a = none
structure Fut (as : List Addr) (Hb : Hp) (as' : List Addr) (Hb' : Hp) : Prop where
  ex : Same Hb Hb'
  pre : ∃ l, as' = as ++ l
theorem Fut.refl {as : List Addr} {Hb : Hp} : Fut as Hb as Hb := ⟨Same.refl _, [], by simp⟩
theorem Fut.trans {as as' as'' : List Addr} {Hb Hb' Hb'' : Hp} (a : Fut as Hb as' Hb') (b : Fut as' Hb' as'' Hb'') : Fut as Hb as'' Hb'' := by
  obtain ⟨e1, l1, h1⟩ := a
  obtain ⟨e2, l2, h2⟩ := b
  exact ⟨e1.trans e2, l1 ++ l2, by rw [h2, h1, List.append_assoc]⟩
theorem Fut.idx {as as' : List Addr} {Hb Hb' : Hp} (f : Fut as Hb as' Hb') {i : Nat} {a : Addr} (h : as[i]? = some a) : as'[i]? = some a := by
  obtain ⟨_, l, rfl⟩ := f
  have hl := (List.getElem?_eq_some_iff.mp h).1
  rw [List.getElem?_append_left hl]
  exact h
theorem WR.mono {K : PySem.W.Frag} {as as' : List Addr} {Hb Hb' : Hp} {v : V} {w : W} (f : Fut as Hb as' Hb') (h : WR K as Hb v w) : WR K as' Hb' v w := by
  cases w with
  | d x => exact Dz.mono f.ex h
  | r i => obtain ⟨a, h1, h2⟩ := h; exact ⟨a, f.idx h1, h2⟩
  | k u => exact h
abbrev WRs (K : PySem.W.Frag) (as : List Addr) (Hb : Hp) : List V → List W → Prop := Paired (WR K as Hb)
theorem WRs.mono {K : PySem.W.Frag} {as as' : List Addr} {Hb Hb' : Hp} {vs : List V} {ws : List W} (f : Fut as Hb as' Hb') (h : WRs K as Hb vs ws) : WRs K as' Hb' vs ws := Paired.imp (fun _ _ z => z.mono f) h
theorem DicR.mono {K : PySem.W.Frag} {as as' : List Addr} {Hb Hb' : Hp} {t : Bool} {u : HO} {kvs : List (PyData × W)} (f : Fut as Hb as' Hb') (h : DicR K as Hb t u kvs) : DicR K as' Hb' t u kvs := by
  cases t with
  | false => obtain ⟨kv, e, p⟩ := h; exact ⟨kv, e, Paired.imp (fun _ _ z => ⟨z.1, z.2.1, z.2.2.mono f⟩) p⟩
  | true => obtain ⟨kv, e, p⟩ := h; exact ⟨kv, e, Paired.imp (fun _ _ z => ⟨z.1, z.2.1, z.2.2.mono f⟩) p⟩
theorem MOk.fut {K : PySem.W.Frag} {as as' : List Addr} {Hb Hb' H H' : Hp} {a : Addr} {o : MO} (f : Fut as Hb as' Hb') (hH : H' a = H a) (h : MOk K as Hb H a o) : MOk K as' Hb' H' a o := by
  cases o with
  | lst xs => obtain ⟨z, vs, h1, h2⟩ := h; exact ⟨z, vs, hH.trans h1, WRs.mono f h2⟩
  | ins C fs => obtain ⟨dx, fv, h1, h2⟩ := h; exact ⟨dx, fv, hH.trans h1, Paired.imp (fun _ _ z => ⟨z.1, z.2.mono f⟩) h2⟩
  | dic t kvs => obtain ⟨z, u, h1, h2⟩ := h; exact ⟨z, u, hH.trans h1, h2.mono f⟩
  | dlk t kvs => obtain ⟨z, od, u, h0, h1, h2⟩ := h; exact ⟨z, od, u, f.ex _ _ h0, hH.trans h1, h2.mono f⟩
  | gone => trivial
theorem MOk.there {K : PySem.W.Frag} {as : List Addr} {Hb H : Hp} {a : Addr} {o : MO} (h : MOk K as Hb H a o) (ne : o ≠ .gone) : ∃ u, H a = some u := by
  cases o with
  | lst xs => obtain ⟨z, vs, h1, h2⟩ := h; exact ⟨_, h1⟩
  | ins C fs => obtain ⟨dx, fv, h1, h2⟩ := h; exact ⟨_, h1⟩
  | dic t kvs => obtain ⟨z, u, h1, h2⟩ := h; exact ⟨_, h1⟩
  | dlk t kvs => obtain ⟨z, od, u, h0, h1, h2⟩ := h; exact ⟨_, h1⟩
  | gone => exact absurd rfl ne
section
variable {K : PySem.W.Frag} {H0 Hb0 Hb H : Hp} {as : List Addr} {M : Ms}
theorem Rel.idx (r : Rel K H0 Hb0 as Hb H M) {i : Nat} {o : MO} (h : M[i]? = some o) : ∃ a, as[i]? = some a := by
  have hl := (List.getElem?_eq_some_iff.mp h).1
  exact ⟨as[i]'(by rw [r.len]; exact hl), List.getElem?_eq_getElem _⟩
theorem Rel.ne (r : Rel K H0 Hb0 as Hb H M) {p : Addr} (hp : H p = none) {i : Nat} {a : Addr} (h : as[i]? = some a) : a ≠ p := fun e => by
  subst e
  exact r.al a (List.mem_of_getElem? h) hp
theorem Rel.hbn (r : Rel K H0 Hb0 as Hb H M) {p : Addr} (hp : H p = none) : Hb p = none := r.sub.free hp
theorem Rel.h0n (r : Rel K H0 Hb0 as Hb H M) {p : Addr} (hp : H p = none) : H0 p = none := r.top.free hp
theorem same_new {H : Hp} {p : Addr} {o : HO} (hp : H p = none) : Same H (upd H p o) := fun b u e => by
  rw [upd_ne (ne_of_none e hp)]
  exact e
theorem fut_new {p : Addr} {o : HO} (hp : Hb p = none) : Fut as Hb as (upd Hb p o) := ⟨same_new hp, [], by simp⟩
/-- a new object that is data from now on -/
theorem Rel.newData (r : Rel K H0 Hb0 as Hb H M) {p : Addr} {o : HO} (hp : H p = none) : Rel K H0 Hb0 as (upd Hb p o) (upd H p o) M where
  sub := fun b u e => by
    by_cases h : b = p
    · subst h; rw [upd_same] at e ⊢; exact e
    · rw [upd_ne h] at e ⊢; exact r.sub b u e
  top := r.top.trans (same_new hp)
  len := r.len
  nd := r.nd
  al := fun a ha => by
    by_cases h : a = p
    · subst h; rw [upd_same]; simp
    · rw [upd_ne h]; exact r.al a ha
  off := fun i a u h1 h2 h3 => by
    have ne := r.ne hp h1
    rw [upd_ne ne]
    exact r.off i a u h1 h2 h3
  off0 := r.off0
  b0 := r.b0.trans (same_new (r.hbn hp))
  at' := fun i a u h1 h2 => (r.at' i a u h1 h2).fut (fut_new (r.hbn hp)) (upd_ne (r.ne hp h1))
  hb0 := fun a h1 h2 => by
    by_cases h : a = p
    · subst h; exact r.h0n hp
    · rw [upd_ne h] at h1; exact r.hb0 a h1 h2
/-- a new object of which nothing is known -/
theorem Rel.newAny (r : Rel K H0 Hb0 as Hb H M) {p : Addr} {o : HO} (hp : H p = none) : Rel K H0 Hb0 as Hb (upd H p o) M where
  sub := r.sub.trans (same_new hp)
  top := r.top.trans (same_new hp)
  len := r.len
  nd := r.nd
  al := fun a ha => by
    by_cases h : a = p
    · subst h; rw [upd_same]; simp
    · rw [upd_ne h]; exact r.al a ha
  off := r.off
  off0 := r.off0
  b0 := r.b0
  at' := fun i a u h1 h2 => (r.at' i a u h1 h2).fut Fut.refl (upd_ne (r.ne hp h1))
  hb0 := r.hb0
/-- a new thing -/
theorem Rel.newMut (r : Rel K H0 Hb0 as Hb H M) {p : Addr} {m : MO} (hH : H p ≠ none) (hbn : Hb p = none) (h0n : H0 p = none) (hp : p ∉ as) (h : MOk K (as ++ [p]) Hb H p m) : Rel K H0 Hb0 (as ++ [p]) Hb H (M ++ [m]) where
  sub := r.sub
  top := r.top
  len := by simp [r.len]
  nd := by
    refine List.nodup_append.mpr ⟨r.nd, by simp, fun a ha b hb => ?_⟩
    have e : b = p := by simpa using hb
    subst e
    exact fun z => hp (z ▸ ha)
  al := fun a ha => by
    rcases List.mem_append.mp ha with h | h
    · exact r.al a h
    · have e : a = p := by simpa using h
      subst e; exact hH
  off := fun i a u h1 h2 h3 => by
    by_cases hi : i < as.length
    · rw [List.getElem?_append_left hi] at h1
      rw [List.getElem?_append_left (by rw [← r.len]; exact hi)] at h2
      exact r.off i a u h1 h2 h3
    · have hi' : as.length ≤ i := Nat.le_of_not_lt hi
      rw [List.getElem?_append_right hi'] at h1
      cases hj : i - as.length with
      | zero => rw [hj] at h1; simp at h1; subst h1; exact hbn
      | succ j => rw [hj] at h1; simp at h1
  off0 := fun a ha => by
    rcases List.mem_append.mp ha with h | h
    · exact r.off0 a h
    · have e : a = p := by simpa using h
      subst e; exact h0n
  b0 := r.b0
  at' := fun i a u h1 h2 => by
    by_cases hi : i < as.length
    · rw [List.getElem?_append_left hi] at h1
      rw [List.getElem?_append_left (by rw [← r.len]; exact hi)] at h2
      exact (r.at' i a u h1 h2).fut ⟨Same.refl _, [p], rfl⟩ rfl
    · have hi' : as.length ≤ i := Nat.le_of_not_lt hi
      rw [List.getElem?_append_right hi'] at h1
      rw [List.getElem?_append_right (by rw [← r.len]; exact hi')] at h2
      cases hj : i - as.length with
      | zero =>
        rw [hj] at h1; simp at h1; subst h1
        rw [← r.len, hj] at h2; simp at h2; subst h2
        exact h
      | succ j => rw [hj] at h1; simp at h1
  hb0 := r.hb0
theorem nodup_idx {α : Type} {l : List α} (hN : l.Nodup) {i j : Nat} {x : α} (a : l[i]? = some x) (b : l[j]? = some x) : i = j := by
  obtain ⟨h1, e1⟩ := List.getElem?_eq_some_iff.mp a
  obtain ⟨h2, e2⟩ := List.getElem?_eq_some_iff.mp b
  exact (List.getElem_inj hN).mp (e1.trans e2.symm)
/-- a thing changes -/
theorem Rel.setMut (r : Rel K H0 Hb0 as Hb H M) {i : Nat} {a : Addr} {o o' : MO} {u : HO} (hi : as[i]? = some a) (ho : M[i]? = some o) (hne : o.live = true) (h : MOk K as Hb (upd H a u) a o') : Rel K H0 Hb0 as Hb (upd H a u) (M.set i o') := by
  have hb := r.off i a o hi ho hne
  have h0 := r.off0 a (List.mem_of_getElem? hi)
  have nb : ∀ b v, Hb b = some v → b ≠ a := fun b v e z => by rw [z, hb] at e; cases e
  have n0 : ∀ b v, H0 b = some v → b ≠ a := fun b v e z => by rw [z, h0] at e; cases e
  have hil : i < M.length := (List.getElem?_eq_some_iff.mp ho).1
  refine ⟨fun b v e => ?_, fun b v e => ?_, by simp [r.len], r.nd, fun b hb' => ?_, fun j b v h1 h2 h3 => ?_, r.off0, r.b0, fun j b v h1 h2 => ?_, r.hb0⟩
  · rw [upd_ne (nb b v e)]; exact r.sub b v e
  · rw [upd_ne (n0 b v e)]; exact r.top b v e
  · by_cases z : b = a
    · subst z; rw [upd_same]; simp
    · rw [upd_ne z]; exact r.al b hb'
  · by_cases z : j = i
    · subst z
      rw [hi] at h1; cases h1
      exact hb
    · rw [List.getElem?_set_ne (Ne.symm z)] at h2
      exact r.off j b v h1 h2 h3
  · by_cases z : j = i
    · subst z
      rw [hi] at h1; cases h1
      rw [List.getElem?_set_self hil] at h2
      cases h2
      exact h
    · rw [List.getElem?_set_ne (Ne.symm z)] at h2
      have zb : b ≠ a := fun e => z (nodup_idx r.nd (e ▸ h1) hi)
      exact (r.at' j b v h1 h2).fut Fut.refl (upd_ne zb)
/-- more stands, nothing changed; some of it is data -/
theorem Rel.grow (r : Rel K H0 Hb0 as Hb H M) {H' Hb' : Hp} (e : Same H H') (eb : Same Hb Hb') (sb : Same Hb' H') (fr : ∀ a, Hb' a ≠ none → Hb a = none → H a = none) : Rel K H0 Hb0 as Hb' H' M where
  sub := sb
  top := r.top.trans e
  len := r.len
  nd := r.nd
  al := fun a ha z => r.al a ha (e.free z)
  off0 := r.off0
  b0 := r.b0.trans eb
  off := fun i a o h1 h2 h3 => by
    have hb := r.off i a o h1 h2 h3
    cases q : Hb' a with
    | none => rfl
    | some u => exact absurd (fr a (by rw [q]; simp) hb) (r.al a (List.mem_of_getElem? h1))
  at' := fun i a o h1 h2 => by
    by_cases hg : o = .gone
    · subst hg; trivial
    · obtain ⟨u, hu⟩ := (r.at' i a o h1 h2).there hg
      exact (r.at' i a o h1 h2).fut ⟨eb, [], by simp⟩ ((e a u hu).trans hu.symm)
  hb0 := fun a h1 h2 => by
    by_cases q : Hb a = none
    · exact r.top.free (fr a h1 q)
    · exact r.hb0 a q h2
/-- a thing of which nothing is known stands apart, and may be kept by what stands -/
theorem Rel.guard (r : Rel K H0 Hb0 as Hb H M) {p : Addr} {o : HO} (hH : H p = some o) (hbn : Hb p = none) (hp : p ∉ as) : Rel K (upd H0 p o) Hb0 as Hb H M where
  sub := r.sub
  top := fun b u e => by
    by_cases h : b = p
    · subst h; rw [upd_same] at e; cases e; exact hH
    · rw [upd_ne h] at e; exact r.top b u e
  len := r.len
  nd := r.nd
  al := r.al
  off := r.off
  off0 := fun a ha => by
    rw [upd_ne (fun (z : a = p) => hp (z ▸ ha))]
    exact r.off0 a ha
  b0 := r.b0
  at' := r.at'
  hb0 := fun a h1 h2 => by
    rw [upd_ne (fun (z : a = p) => h1 (z ▸ hbn))]
    exact r.hb0 a h1 h2
theorem Rel.unguard {p : Addr} {o : HO} (r : Rel K (upd H0 p o) Hb0 as Hb H M) (h0n : H0 p = none) (hb0n : Hb0 p = none) : Rel K H0 Hb0 as Hb H M ∧ H p = some o ∧ Hb p = none ∧ p ∉ as := by
  have hbn : Hb p = none := by
    cases q : Hb p with
    | none => rfl
    | some u =>
      have z := r.hb0 p (by rw [q]; simp) hb0n
      rw [upd_same] at z; cases z
  have hp : p ∉ as := fun hm => by
    have z := r.off0 p hm
    rw [upd_same] at z; cases z
  refine ⟨⟨r.sub, fun b u e => r.top b u ?_, r.len, r.nd, r.al, r.off, fun a ha => ?_, r.b0, r.at', fun a h1 h2 => ?_⟩, r.top p o upd_same, hbn, hp⟩
  · rw [upd_ne (ne_of_none e h0n)]; exact e
  · have z := r.off0 a ha
    rw [upd_ne (fun (z : a = p) => hp (z ▸ ha))] at z
    exact z
  · have z := r.hb0 a h1 h2
    rw [upd_ne (fun (z : a = p) => h1 (z ▸ hbn))] at z
    exact z
/-- a change where nothing is known -/
theorem Rel.other (r : Rel K H0 Hb0 as Hb H M) {p : Addr} {o : HO} (hbn : Hb p = none) (h0n : H0 p = none) (hp : p ∉ as) : Rel K H0 Hb0 as Hb (upd H p o) M where
  sub := fun b u e => by rw [upd_ne (ne_of_none e hbn)]; exact r.sub b u e
  top := fun b u e => by rw [upd_ne (ne_of_none e h0n)]; exact r.top b u e
  len := r.len
  nd := r.nd
  al := fun a ha => by rw [upd_ne (fun (z : a = p) => hp (z ▸ ha))]; exact r.al a ha
  off := r.off
  off0 := r.off0
  b0 := r.b0
  at' := fun i a u h1 h2 => (r.at' i a u h1 h2).fut Fut.refl (upd_ne (fun (z : a = p) => hp (z ▸ List.mem_of_getElem? h1)))
  hb0 := r.hb0
theorem set_same {α : Type} : ∀ {l : List α} {i : Nat} {a : α}, l[i]? = some a → l.set i a = l
  | [], _, _, h => by simp at h
  | _ :: _, 0, _, h => by simp at h; subst h; rfl
  | _ :: l, i + 1, _, h => by simp at h; simp [set_same (l := l) h]
end
end Z

set_option linter.all false
set_option autoImplicit false
set_option maxRecDepth 100000
set_option maxHeartbeats 4000000
namespace Z
open PySem PySem.Spec PyProof.Rows L2

/-! ### results, errors -/
structure Exn where
  c : Str
  arg : Option (Str × PyData) := none
inductive R (α : Type) where
  | ok (a : α) (m : Ms) | exc (e : Exn) (m : Ms) | stuck
def R.bind {α β : Type} (r : R α) (f : α → Ms → R β) : R β := match r with
  | .ok a m => f a m
  | .exc e m => .exc e m
  | .stuck => .stuck
theorem R.bind_ok {α β : Type} (a : α) (m : Ms) (f : α → Ms → R β) : (R.ok a m).bind f = f a m := rfl
theorem R.bind_exc {α β : Type} (e : Exn) (m : Ms) (f : α → Ms → R β) : (R.exc e m : R α).bind f = .exc e m := rfl
theorem R.bind_stuck {α β : Type} (f : α → Ms → R β) : (R.stuck : R α).bind f = .stuck := rfl
/-- an error as it lies -/
def ExnR (K : PySem.W.Frag) (mg : Str → Option Value) (e : Exn) (cls : Value) (d : Option Addr) (H : Hp) : Prop :=
  mg e.c = some cls ∧ match e.arg with
    | none => d = none
    | some (f, x) => ∃ a v, d = some a ∧ H a = some (.xd [(f, v)]) ∧ Dt K (fun _ => none) v x
def Slots (K : PySem.W.Frag) (as : List Addr) (Hb : Hp) : L2.St → Sl → Prop := Paired fun (o : Option V) (q : Option W) => ∀ w, q = some w → ∃ v, o = some v ∧ WR K as Hb v w
theorem Slots.mono {K : PySem.W.Frag} {as as' : List Addr} {Hb Hb' : Hp} {σ : L2.St} {s : Sl} (f : Fut as Hb as' Hb') (h : Slots K as Hb σ s) : Slots K as' Hb' σ s := Paired.imp (fun _ _ z w e => let ⟨v, h1, h2⟩ := z w e; ⟨v, h1, h2.mono f⟩) h
theorem Slots.get {K : PySem.W.Frag} {as : List Addr} {Hb : Hp} {σ : L2.St} {s : Sl} {i : Nat} {w : W} (h : Slots K as Hb σ s) (e : s[i]? = some (some w)) : ∃ v, σ[i]? = some (some v) ∧ WR K as Hb v w := by
  obtain ⟨o, h1, h2⟩ := Paired.at h e
  obtain ⟨v, rfl, h3⟩ := h2 w rfl
  exact ⟨v, h1, h3⟩
theorem Slots.set {K : PySem.W.Frag} {as : List Addr} {Hb : Hp} {σ : L2.St} {s : Sl} {v : V} {w : W} (h : Slots K as Hb σ s) (r : WR K as Hb v w) (i : Nat) : Slots K as Hb (σ.set i (some v)) (s.set i (some w)) := Paired.put (fun u e => ⟨v, rfl, by cases e; exact r⟩) i h
theorem Slots.unset {K : PySem.W.Frag} {as : List Addr} {Hb : Hp} {σ : L2.St} {s : Sl} (h : Slots K as Hb σ s) (o : Option V) (i : Nat) : Slots K as Hb (σ.set i o) (s.set i none) := Paired.put (fun u e => by cases e) i h

abbrev Rep (β α : Type) := Hp → List Addr → Hp → Hp → β → α → Prop
section
variable {β α β' α' : Type} (rep : Rep β α) (K : PySem.W.Frag) (mg : Str → Option Value) (w : WX) (H0 Hb0 : Hp) (as : List Addr) (Hb : Hp) (σ : L2.St) (Q : β → Hp → Prop)
def Good : R α → Prop
  | .ok a M' => ∀ b as' Hb' H', Rel K H0 Hb0 as' Hb' H' M' → Fut as Hb as' Hb' → rep H0 as' Hb' H' b a → Q b H'
  | .exc e M' => ∀ as' Hb' H' cls d, Rel K H0 Hb0 as' Hb' H' M' → Fut as Hb as' Hb' → ExnR K mg e cls d H' → w cls d σ H'
  | .stuck => False
end
section
variable {β α β' α' : Type} {rep : Rep β α} {rep' : Rep β' α'} {K : PySem.W.Frag} {mg : Str → Option Value} {w : WX} {H0 Hb0 : Hp} {as : List Addr} {Hb H : Hp} {M : Ms} {σ : L2.St} {s : Sl} {Q : β → Hp → Prop}
theorem Good.mono {as' : List Addr} {Hb' : Hp} (f : Fut as Hb as' Hb') {r : R α} (g : Good rep K mg w H0 Hb0 as Hb σ Q r) : Good rep K mg w H0 Hb0 as' Hb' σ Q r := by
  cases r with
  | ok a M' => exact fun b as2 Hb2 H2 r2 f2 rp => g b as2 Hb2 H2 r2 (f.trans f2) rp
  | exc e M' => exact fun as2 Hb2 H2 cls d r2 f2 er => g as2 Hb2 H2 cls d r2 (f.trans f2) er
  | stuck => exact g
theorem Good.ok {a : α} {b : β} (g : Good rep K mg w H0 Hb0 as Hb σ Q (.ok a M)) (r : Rel K H0 Hb0 as Hb H M) (rp : rep H0 as Hb H b a) : Q b H := g b as Hb H r Fut.refl rp
def Sim (rep : Rep β α) (K : PySem.W.Frag) (mg : Str → Option Value) (w : WX) (t : L2.St → Hp → (β → Hp → Prop) → Prop) (p : Sl → Ms → R α) : Prop :=
  ∀ (H0 Hb0 : Hp) (as : List Addr) (Hb H : Hp) (M : Ms) (σ : L2.St) (s : Sl), Rel K H0 Hb0 as Hb H M → Slots K as Hb σ s → ∀ Q : β → Hp → Prop, Good rep K mg w H0 Hb0 as Hb σ Q (p s M) → t σ H Q
theorem Good.bind {t1 : L2.St → Hp → (β → Hp → Prop) → Prop} {p1 : Sl → Ms → R α} (h1 : Sim rep K mg w t1 p1) (r : Rel K H0 Hb0 as Hb H M) (S : Slots K as Hb σ s) {f : α → Ms → R α'} {Q' : β' → Hp → Prop} {Q1 : β → Hp → Prop}
    (g : Good rep' K mg w H0 Hb0 as Hb σ Q' ((p1 s M).bind f))
    (k : ∀ b a as' Hb' H' M', Rel K H0 Hb0 as' Hb' H' M' → Fut as Hb as' Hb' → Slots K as' Hb' σ s → rep H0 as' Hb' H' b a → Good rep' K mg w H0 Hb0 as' Hb' σ Q' (f a M') → Q1 b H') : t1 σ H Q1 := by
  refine h1 H0 Hb0 as Hb H M σ s r S Q1 ?_
  cases hp : p1 s M with
  | ok a M' =>
    rw [hp] at g
    exact fun b as' Hb' H' r' f' rp => k b a as' Hb' H' M' r' f' (S.mono f') rp (Good.mono f' g)
  | exc e M' => rw [hp] at g; exact g
  | stuck => rw [hp] at g; exact g.elim
end
def repW (K : PySem.W.Frag) : Rep V W := fun _ as Hb _ v x => WR K as Hb v x
def repB : Rep Bool Bool := fun _ _ _ _ b a => b = a
def repA (K : PySem.W.Frag) : Rep (List V) (List W) := fun _ as Hb _ vs ws => WRs K as Hb vs ws
def repO : Rep (Option Int) (Option Int) := fun _ _ _ _ b a => b = a
/-- a list that was made just now -/
def repL (K : PySem.W.Frag) : Rep V (List W) := fun H0 as Hb H v ws => ∃ p vs, v = .ref p ∧ H p = some (.lst vs) ∧ ws.length ≤ sizeLine ∧ WRs K as Hb vs ws ∧ p ∉ as ∧ Hb p = none ∧ H0 p = none
abbrev PEx := Sl → Ms → R W
abbrev PTx := Sl → Ms → R Bool
abbrev PAx := Sl → Ms → R (List W)

/-! ### statements -/
inductive O where
  | nx (s : Sl) (m : Ms) | rt (w : W) (m : Ms) | bk (s : Sl) (m : Ms) | ct (s : Sl) (m : Ms) | exc (e : Exn) (s : Sl) (m : Ms) | stuck
abbrev PSx := Sl → Ms → O
def R.to {α : Type} (r : R α) (s : Sl) (f : α → Ms → O) : O := match r with
  | .ok a m => f a m
  | .exc e m => .exc e s m
  | .stuck => .stuck
section
variable (K : PySem.W.Frag) (mg : Str → Option Value) (w : WX) (H0 Hb0 : Hp) (as : List Addr) (Hb : Hp) (D : Ends)
def GoodS : O → Prop
  | .nx s' M' => ∀ σ' as' Hb' H', Rel K H0 Hb0 as' Hb' H' M' → Fut as Hb as' Hb' → Slots K as' Hb' σ' s' → D.nx σ' H'
  | .rt x M' => ∀ v as' Hb' H', Rel K H0 Hb0 as' Hb' H' M' → Fut as Hb as' Hb' → WR K as' Hb' v x → D.rt v H'
  | .bk s' M' => ∀ σ' as' Hb' H', Rel K H0 Hb0 as' Hb' H' M' → Fut as Hb as' Hb' → Slots K as' Hb' σ' s' → D.bk σ' H'
  | .ct s' M' => ∀ σ' as' Hb' H', Rel K H0 Hb0 as' Hb' H' M' → Fut as Hb as' Hb' → Slots K as' Hb' σ' s' → D.ct σ' H'
  | .exc e s' M' => ∀ σ' as' Hb' H' cls d, Rel K H0 Hb0 as' Hb' H' M' → Fut as Hb as' Hb' → Slots K as' Hb' σ' s' → ExnR K mg e cls d H' → w cls d σ' H'
  | .stuck => False
end
section
variable {K : PySem.W.Frag} {mg : Str → Option Value} {w : WX} {H0 Hb0 : Hp} {as : List Addr} {Hb H : Hp} {M : Ms} {σ : L2.St} {s : Sl} {D D' : Ends}
theorem GoodS.mono {as' : List Addr} {Hb' : Hp} (f : Fut as Hb as' Hb') {o : O} (g : GoodS K mg w H0 Hb0 as Hb D o) : GoodS K mg w H0 Hb0 as' Hb' D o := by
  cases o with
  | nx s' M' => exact fun a b c d r2 f2 rp => g a b c d r2 (f.trans f2) rp
  | rt s' M' => exact fun a b c d r2 f2 rp => g a b c d r2 (f.trans f2) rp
  | bk s' M' => exact fun a b c d r2 f2 rp => g a b c d r2 (f.trans f2) rp
  | ct s' M' => exact fun a b c d r2 f2 rp => g a b c d r2 (f.trans f2) rp
  | exc e s' M' => exact fun a b c d e' d' r2 f2 rp => g a b c d e' d' r2 (f.trans f2) rp
  | stuck => exact g
theorem GoodS.nx (g : GoodS K mg w H0 Hb0 as Hb D (.nx s M)) (r : Rel K H0 Hb0 as Hb H M) (S : Slots K as Hb σ s) : D.nx σ H := g σ as Hb H r Fut.refl S
def SimS (K : PySem.W.Frag) (mg : Str → Option Value) (w : WX) (t : TS) (p : PSx) : Prop :=
  ∀ (H0 Hb0 : Hp) (as : List Addr) (Hb H : Hp) (M : Ms) (σ : L2.St) (s : Sl), Rel K H0 Hb0 as Hb H M → Slots K as Hb σ s → ∀ D : Ends, GoodS K mg w H0 Hb0 as Hb D (p s M) → t D σ H
theorem GoodS.bind {β α : Type} {rep : Rep β α} {t1 : L2.St → Hp → (β → Hp → Prop) → Prop} {p1 : Sl → Ms → R α} (h1 : Sim rep K mg w t1 p1) (r : Rel K H0 Hb0 as Hb H M) (S : Slots K as Hb σ s) {f : α → Ms → O} {Q1 : β → Hp → Prop}
    (g : GoodS K mg w H0 Hb0 as Hb D ((p1 s M).to s f))
    (k : ∀ b a as' Hb' H' M', Rel K H0 Hb0 as' Hb' H' M' → Fut as Hb as' Hb' → Slots K as' Hb' σ s → rep H0 as' Hb' H' b a → GoodS K mg w H0 Hb0 as' Hb' D (f a M') → Q1 b H') : t1 σ H Q1 := by
  refine h1 H0 Hb0 as Hb H M σ s r S Q1 ?_
  cases hp : p1 s M with
  | ok a M' =>
    rw [hp] at g
    exact fun b as' Hb' H' r' f' rp => k b a as' Hb' H' M' r' f' (S.mono f') rp (GoodS.mono f' g)
  | exc e M' =>
    rw [hp] at g
    exact fun as' Hb' H' cls d r' f' er => g σ as' Hb' H' cls d r' f' (S.mono f') er
  | stuck => rw [hp] at g; exact g.elim
end

/-! ### judgements: a piece of text, and the plain function that it comes to -/
section
variable (X : Cx) (w : WX)
def JE (e : Expr) (p : PEx) : Prop := ∃ t, PE X e t ∧ Sim (repW X.K) X.K X.mg w t p
def JL (e : Expr) (p : PAx) : Prop := ∃ t, PE X e t ∧ Sim (repL X.K) X.K X.mg w t p
def JT (e : Expr) (p : PTx) : Prop := ∃ t, PT X e t ∧ Sim repB X.K X.mg w t p
def JW (e : Expr) (p : PTx) : Prop := ∃ t, PW X e t ∧ Sim repB X.K X.mg w t p
def JA (es : List Expr) (p : PAx) : Prop := ∃ t, PA X es t ∧ Sim (repA X.K) X.K X.mg w t p
def JO (e : Option Expr) (p : Sl → Ms → R (Option Int)) : Prop := ∃ t, PO X e t ∧ Sim repO X.K X.mg w t p
def JS (st : Stmt) (p : PSx) : Prop := ∃ t, PS X st t ∧ SimS X.K X.mg w t p
def JSs (sts : List Stmt) (p : PSx) : Prop := ∃ t, PSs X sts t ∧ SimS X.K X.mg w t p
end

/-! ### names, constants -/
def pVar (i : Nat) : PEx := fun s M => match s[i]? with
  | some (some x) => .ok x M
  | _ => .stuck
def pC (d : PyData) : PEx := fun _ M => .ok (.d d) M
def pK (v : V) : PEx := fun _ M => .ok (.k v) M
section
variable {X : Cx} {w : WX}
theorem je_var (i : Nat) {x : Str} {pos : Pos} (hN : X.N[i]? = some x := by rfl) (hv : Vis X.env.scope x := by first | exact Or.inl rfl | exact Or.inr (Or.inl rfl) | exact Or.inr (Or.inr rfl)) (hd : (x == ("__debug__" : Str)) = false := by decide)
    (hcd : (x == ("__classdict__" : Str)) = false := by decide) : JE X w (.Name x pos) (pVar i) := by
  refine ⟨_, pe_var hN hv hd hcd, fun H0 Hb0 as Hb H M σ s r S Q g => ?_⟩
  unfold pVar at g
  cases h : s[i]? with
  | none => rw [h] at g; exact g.elim
  | some o =>
    cases o with
    | none => rw [h] at g; exact g.elim
    | some x =>
      rw [h] at g
      obtain ⟨v, h1, h2⟩ := S.get h
      exact ⟨v, h1, g.ok r h2⟩
theorem dz_int (K : PySem.W.Frag) (H : Hp) (i : Int) : Dz K H (.int i) (.int i) := ⟨.int i, trivial⟩
theorem dz_bl (K : PySem.W.Frag) (H : Hp) (i : Bool) : Dz K H (.bl i) (.bool i) := ⟨.bl i, trivial⟩
theorem dz_non (K : PySem.W.Frag) (H : Hp) : Dz K H .non .none := ⟨.non, trivial⟩
theorem dz_str (K : PySem.W.Frag) (H : Hp) {x : Str} (h : x.length ≤ sizeLine) : Dz K H (.str x) (.str x) := ⟨.str x, h⟩
theorem je_int {i : Int} {j : Nat} {pos : Pos} : JE X w (.Constant (.int i) j pos) (pC (.int i)) := ⟨_, pe_int, fun H0 Hb0 as Hb H M σ s r S Q g => g.ok r (dz_int X.K Hb i)⟩
theorem je_bl {i : Bool} {j : Nat} {pos : Pos} : JE X w (.Constant (.bool i) j pos) (pC (.bool i)) := ⟨_, pe_bl, fun H0 Hb0 as Hb H M σ s r S Q g => g.ok r (dz_bl X.K Hb i)⟩
theorem je_non {j : Nat} {pos : Pos} : JE X w (.Constant .none j pos) (pC .none) := ⟨_, pe_non, fun H0 Hb0 as Hb H M σ s r S Q g => g.ok r (dz_non X.K Hb)⟩
theorem je_str {x : Str} {j : Nat} {pos : Pos} (h : x.length ≤ sizeLine := by decide) : JE X w (.Constant (.str x) j pos) (pC (.str x)) := ⟨_, pe_str, fun H0 Hb0 as Hb H M σ s r S Q g => g.ok r (dz_str X.K Hb h)⟩
/-- a module's name that holds an int, a text -/
theorem je_gint {x : Str} {i : Int} {t : Tok} {pos : Pos} (hm : X.mg x = some (.int i t)) (hg : Gl X x := by rfl) (hd : (x == ("__debug__" : Str)) = false := by decide) : JE X w (.Name x pos) (pC (.int i)) := ⟨_, pe_glob (v := .int i) hg hm ⟨t, rfl⟩ hd, fun H0 Hb0 as Hb H M σ s r S Q g => g.ok r (dz_int X.K Hb i)⟩
theorem je_gstr {x y : Str} {t : Tok} {pos : Pos} (hm : X.mg x = some (.str y t)) (h : y.length ≤ sizeLine := by decide) (hg : Gl X x := by rfl) (hd : (x == ("__debug__" : Str)) = false := by decide) : JE X w (.Name x pos) (pC (.str y)) := ⟨_, pe_glob (v := .str y) hg hm ⟨t, rfl⟩ hd, fun H0 Hb0 as Hb H M σ s r S Q g => g.ok r (dz_str X.K Hb h)⟩
/-- a module's class, a built-in class, as a value -/
theorem je_gref {x : Str} {a : Addr} {pos : Pos} (hm : X.mg x = some (.ref a)) (hg : Gl X x := by rfl) (hd : (x == ("__debug__" : Str)) = false := by decide) : JE X w (.Name x pos) (pK (.ref a)) := ⟨_, pe_glob (v := .ref a) hg hm rfl hd, fun H0 Hb0 as Hb H M σ s r S Q g => g.ok r (show WR X.K as Hb (.ref a) (.k (.ref a)) from rfl)⟩
theorem je_bty {x : Str} {n : String} {pos : Pos} (hm : X.mg x = none) (hv : bootBuiltins x = some (.type n) := by decide +kernel) (hg : Gl X x := by rfl) (hn : x ≠ "__name__" := by decide) (hd : (x == ("__debug__" : Str)) = false := by decide) : JE X w (.Name x pos) (pK (.ty n)) := ⟨_, pe_bltn (v := .ty n) hg hm hv rfl hn hd, fun H0 Hb0 as Hb H M σ s r S Q g => g.ok r (show WR X.K as Hb (.ty n) (.k (.ty n)) from rfl)⟩

/-! ### argument lists, displays -/
def pNil : PAx := fun _ M => .ok [] M
def pCons (a : PEx) (r : PAx) : PAx := fun s M => (a s M).bind fun x M1 => (r s M1).bind fun xs M2 => .ok (x :: xs) M2
theorem ja_nil : JA X w [] pNil := ⟨_, pa_nil, fun H0 Hb0 as Hb H M σ s r S Q g => g.ok r .nil⟩
theorem ja_cons {e : Expr} {es : List Expr} {a : PEx} {p : PAx} (ha : JE X w e a) (hr : JA X w es p) (hs : starEach (e :: es) X.env = (false, eval e X.env) :: starEach es X.env := by rfl) : JA X w (e :: es) (pCons a p) := by
  obtain ⟨ta, pa, sa⟩ := ha
  obtain ⟨tr, pr, sr⟩ := hr
  refine ⟨_, pa_cons pa pr hs, fun H0 Hb0 as Hb H M σ s r S Q g => ?_⟩
  refine Good.bind sa r S g fun x a' as1 Hb1 H1 M1 r1 f1 S1 w1 g1 => ?_
  refine Good.bind sr r1 S1 g1 fun xs a2 as2 Hb2 H2 M2 r2 f2 S2 w2 g2 => ?_
  exact g2.ok r2 (.cons (WR.mono f2 w1) w2)
def allD : List W → Option (List PyData)
  | [] => some []
  | .d x :: ws => (allD ws).map (x :: ·)
  | _ :: _ => none
theorem allD_ok {K : PySem.W.Frag} {as : List Addr} {Hb : Hp} : ∀ {ws : List W} {vs : List V} {ds : List PyData}, WRs K as Hb vs ws → allD ws = some ds → DzAll K Hb vs ds
  | [], _, _, h, e => by cases h; simp [allD] at e; subst e; exact .nil
  | .d x :: ws, _, ds, h, e => by
    cases h with
    | cons h1 h2 =>
      simp only [allD, Option.map_eq_some_iff] at e
      obtain ⟨r, e1, rfl⟩ := e
      exact .cons h1 (allD_ok h2 e1)
  | .r i :: ws, _, _, h, e => by simp [allD] at e
  | .k v :: ws, _, _, h, e => by simp [allD] at e
theorem allD_map : ∀ ds : List PyData, allD (ds.map W.d) = some ds
  | [] => rfl
  | d :: ds => by simp [allD, allD_map ds]
def pTup (a : PAx) : PEx := fun s M => (a s M).bind fun ws M1 => match allD ws with
  | some ds => if ds.length ≤ sizeLine then .ok (.d (.tuple ds)) M1 else .stuck
  | none => .stuck
theorem dz_tup {K : PySem.W.Frag} {H : Hp} {p : Addr} {vs : List V} {ds : List PyData} (h : SqT K H p vs) (d : DzAll K H vs ds) (z : ds.length ≤ sizeLine) : Dz K H (.ref p) (.tuple ds) := ⟨.tup h (of_dzAll d).1, z, (of_dzAll d).2⟩
theorem dz_lst {K : PySem.W.Frag} {H : Hp} {p : Addr} {vs : List V} {ds : List PyData} (h : H p = some (.lst vs)) (d : DzAll K H vs ds) (z : ds.length ≤ sizeLine) : Dz K H (.ref p) (.list ds) := ⟨.lst h (of_dzAll d).1, z, (of_dzAll d).2⟩
theorem dzAll_mono {K : PySem.W.Frag} {H H' : Hp} {vs : List V} {ds : List PyData} (e : Same H H') (h : DzAll K H vs ds) : DzAll K H' vs ds := Paired.imp (fun _ _ z => z.mono e) h
theorem je_tup {es : List Expr} {x1 : Nat} {p : PAx} {pos : Pos} (h : JA X w es p) : JE X w (.Tuple es x1 pos) (pTup p) := by
  obtain ⟨ta, pa, sa⟩ := h
  refine ⟨_, pe_tup pa, fun H0 Hb0 as Hb H M σ s r S Q g => ?_⟩
  refine Good.bind sa r S g fun vs ws as1 Hb1 H1 M1 r1 f1 S1 w1 g1 => ?_
  cases hd : allD ws with
  | none => rw [hd] at g1; exact g1.elim
  | some ds =>
    rw [hd] at g1
    have dz := allD_ok w1 hd
    have hl : vs.length = ds.length := Paired.len dz
    by_cases z : ds.length ≤ sizeLine
    · simp only [z, if_true] at g1
      refine ⟨by rw [hl]; exact z, fun q hq => ?_⟩
      have hbq := r1.hbn hq
      exact Good.ok (Good.mono (fut_new hbq) g1) (r1.newData hq) (dz_tup (SqT.of upd_same) (dzAll_mono (same_new hbq) dz) z)
    · simp only [z, if_false] at g1
      exact g1.elim
/-- [a, b, ..] as a thing made just now -/
def pLst (a : PAx) : PAx := fun s M => (a s M).bind fun ws M1 => if ws.length ≤ sizeLine then .ok ws M1 else .stuck
theorem jl_lst {es : List Expr} {p : PAx} {pos : Pos} (h : JA X w es p) : JL X w (.List es pos) (pLst p) := by
  obtain ⟨ta, pa, sa⟩ := h
  refine ⟨_, pe_lst pa, fun H0 Hb0 as Hb H M σ s r S Q g => ?_⟩
  refine Good.bind sa r S g fun vs ws as1 Hb1 H1 M1 r1 f1 S1 w1 g1 => ?_
  have hl : vs.length = ws.length := Paired.len w1
  by_cases z : ws.length ≤ sizeLine
  · simp only [z, if_true] at g1
    refine ⟨by rw [hl]; exact z, fun q hq => ?_⟩
    exact Good.ok g1 (r1.newAny hq) ⟨q, vs, rfl, upd_same, z, w1, fun hm => r1.al q hm hq, r1.hbn hq, r1.h0n hq⟩
  · simp only [z, if_false] at g1
    exact g1.elim
/-- .. as data, as a thing that will change -/
def pDat (p : PAx) : PEx := fun s M => (p s M).bind fun ws M1 => match allD ws with
  | some ds => .ok (.d (.list ds)) M1
  | none => .stuck
def pMut (p : PAx) : PEx := fun s M => (p s M).bind fun ws M1 => .ok (.r M1.length) (M1 ++ [.lst ws])
theorem Rel.freshData {K : PySem.W.Frag} {H0 Hb0 : Hp} {as : List Addr} {Hb H : Hp} {M : Ms} (r : Rel K H0 Hb0 as Hb H M) {p : Addr} {o : HO} (hH : H p = some o) (hbn : Hb p = none) (h0n : H0 p = none) (hp : p ∉ as) : Rel K H0 Hb0 as (upd Hb p o) H M where
  sub := fun b u e => by
    by_cases h : b = p
    · subst h; rw [upd_same] at e; cases e; exact hH
    · rw [upd_ne h] at e; exact r.sub b u e
  top := r.top
  len := r.len
  nd := r.nd
  al := r.al
  off := fun i a u h1 h2 h3 => by
    have ne : a ≠ p := fun z => hp (z ▸ List.mem_of_getElem? h1)
    rw [upd_ne ne]
    exact r.off i a u h1 h2 h3
  off0 := r.off0
  b0 := r.b0.trans (same_new hbn)
  at' := fun i a u h1 h2 => (r.at' i a u h1 h2).fut (fut_new hbn) rfl
  hb0 := fun a h1 h2 => by
    by_cases h : a = p
    · subst h; exact h0n
    · rw [upd_ne h] at h1; exact r.hb0 a h1 h2
theorem je_dat {e : Expr} {p : PAx} (h : JL X w e p) : JE X w e (pDat p) := by
  obtain ⟨t, pe, se⟩ := h
  refine ⟨t, pe, fun H0 Hb0 as Hb H M σ s r S Q g => ?_⟩
  refine Good.bind se r S g fun v ws as1 Hb1 H1 M1 r1 f1 S1 w1 g1 => ?_
  obtain ⟨q, vs, rfl, hq, z, wr, nq, hbn, h0n⟩ := w1
  cases hd : allD ws with
  | none => rw [hd] at g1; exact g1.elim
  | some ds =>
    rw [hd] at g1
    have dz := allD_ok wr hd
    have hl : ws.length = ds.length := (Paired.len wr).symm.trans (Paired.len dz)
    exact Good.ok (Good.mono (fut_new hbn) g1) (r1.freshData hq hbn h0n nq) (dz_lst upd_same (dzAll_mono (same_new hbn) dz) (hl ▸ z))
theorem je_mut {e : Expr} {p : PAx} (h : JL X w e p) : JE X w e (pMut p) := by
  obtain ⟨t, pe, se⟩ := h
  refine ⟨t, pe, fun H0 Hb0 as Hb H M σ s r S Q g => ?_⟩
  refine Good.bind se r S g fun v ws as1 Hb1 H1 M1 r1 f1 S1 w1 g1 => ?_
  obtain ⟨q, vs, rfl, hq, z, wr, nq, hbn, h0n⟩ := w1
  have fu : Fut as1 Hb1 (as1 ++ [q]) Hb1 := ⟨Same.refl _, [q], rfl⟩
  refine Good.ok (Good.mono fu g1) (r1.newMut (by rw [hq]; simp) hbn h0n nq ⟨z, vs, hq, WRs.mono fu wr⟩) ⟨q, ?_, rfl⟩
  rw [← r1.len]
  simp
end
end Z

set_option linter.all false
set_option autoImplicit false
set_option maxRecDepth 100000
set_option maxHeartbeats 4000000
namespace Z
open PySem PySem.Spec PyProof.Rows L2

/-! ### a value read as data, a list's items -/
def view (M : Ms) : W → Option PyData
  | .d x => some x
  | .r i => match M[i]? with
    | some (.lst ws) => (allD ws).map .list
    | _ => none
  | .k _ => none
/-- the items of a list, of a tuple -/
def itemsL (M : Ms) : W → Option (List W)
  | .d (.list xs) => some (xs.map .d)
  | .r i => match M[i]? with
    | some (.lst ws) => some ws
    | _ => none
  | _ => none
def itemsT : W → Option (List W)
  | .d (.tuple xs) => some (xs.map .d)
  | _ => none
section
variable {K : PySem.W.Frag} {H0 Hb0 Hb H : Hp} {as : List Addr} {M : Ms} {v : V} {x : W}
theorem wrs_of {vs : List V} {ds : List PyData} (h : DzAll K Hb vs ds) : WRs K as Hb vs (ds.map .d) := by
  induction h with
  | nil => exact .nil
  | cons h1 h2 ih => exact .cons h1 ih
theorem view_ok (r : Rel K H0 Hb0 as Hb H M) (h : WR K as Hb v x) {d : PyData} (e : view M x = some d) : Dz K H v d := by
  cases x with
  | d y =>
    simp only [view, Option.some.injEq] at e
    subst e
    exact Dz.mono r.sub h
  | r i =>
    obtain ⟨a, h1, rfl⟩ := h
    simp only [view] at e
    cases hm : M[i]? with
    | none => rw [hm] at e; simp at e
    | some o =>
      rw [hm] at e
      cases o with
      | lst ws =>
        simp only [Option.map_eq_some_iff] at e
        obtain ⟨ds, e1, rfl⟩ := e
        obtain ⟨z, vs, h2, h3⟩ := r.at' i a _ h1 hm
        have dz := allD_ok h3 e1
        have hl : ws.length = ds.length := (Paired.len h3).symm.trans (Paired.len dz)
        exact dz_lst h2 (dzAll_mono r.sub dz) (hl ▸ z)
      | ins _ _ => simp at e
      | dic _ _ => simp at e
      | dlk _ _ => simp at e
      | gone => simp at e
  | k u => simp [view] at e
theorem itemsL_ok (r : Rel K H0 Hb0 as Hb H M) (h : WR K as Hb v x) {ws : List W} (e : itemsL M x = some ws) : ∃ a vs, v = .ref a ∧ H a = some (.lst vs) ∧ WRs K as Hb vs ws ∧ ws.length ≤ sizeLine := by
  cases x with
  | d y =>
    cases y with
    | list xs =>
      simp only [itemsL, Option.some.injEq] at e
      subst e
      obtain ⟨h1, h2⟩ := h
      cases h1 with
      | lst hs ha => exact ⟨_, _, rfl, r.sub _ _ hs, wrs_of (dzAll_of ha h2.2), by rw [List.length_map]; exact h2.1⟩
    | _ => simp [itemsL] at e
  | r i =>
    obtain ⟨a, h1, rfl⟩ := h
    simp only [itemsL] at e
    cases hm : M[i]? with
    | none => rw [hm] at e; simp at e
    | some o =>
      rw [hm] at e
      cases o with
      | lst ws' =>
        simp only [Option.some.injEq] at e
        subst e
        obtain ⟨z, vs, h2, h3⟩ := r.at' i a _ h1 hm
        exact ⟨a, vs, rfl, h2, h3, z⟩
      | ins _ _ => simp at e
      | dic _ _ => simp at e
      | dlk _ _ => simp at e
      | gone => simp at e
  | k u => simp [itemsL] at e
theorem itemsT_ok (r : Rel K H0 Hb0 as Hb H M) (h : WR K as Hb v x) {ws : List W} (e : itemsT x = some ws) : ∃ a vs, v = .ref a ∧ SqT K H a vs ∧ WRs K as Hb vs ws ∧ ws.length ≤ sizeLine := by
  cases x with
  | d y =>
    cases y with
    | tuple xs =>
      simp only [itemsT, Option.some.injEq] at e
      subst e
      obtain ⟨h1, h2⟩ := h
      cases h1 with
      | tup hs ha => exact ⟨_, _, rfl, same_t r.sub hs, wrs_of (dzAll_of ha h2.2), by rw [List.length_map]; exact h2.1⟩
    | _ => simp [itemsT] at e
  | r i => simp [itemsT] at e
  | k u => simp [itemsT] at e
theorem wr_int (i : Int) : WR K as Hb (.int i) (.d (.int i)) := dz_int K Hb i
theorem wr_bl (i : Bool) : WR K as Hb (.bl i) (.d (.bool i)) := dz_bl K Hb i
theorem wr_non : WR K as Hb .non (.d .none) := dz_non K Hb
theorem wr_str {s : Str} (h : s.length ≤ sizeLine) : WR K as Hb (.str s) (.d (.str s)) := dz_str K Hb h
theorem wr_int_of {v : V} {i : Int} (h : WR K as Hb v (.d (.int i))) : v = .int i := by cases h.1; rfl
theorem wr_bl_of {v : V} {i : Bool} (h : WR K as Hb v (.d (.bool i))) : v = .bl i := by cases h.1; rfl
theorem wr_non_of {v : V} (h : WR K as Hb v (.d .none)) : v = .non := by cases h.1; rfl
theorem wr_str_of {v : V} {s : Str} (h : WR K as Hb v (.d (.str s))) : v = .str s ∧ s.length ≤ sizeLine := by
  obtain ⟨h1, h2⟩ := h
  cases h1
  exact ⟨rfl, h2⟩
end

/-! ### two-place operations -/
def Sim2 (K : PySem.W.Frag) (mg : Str → Option Value) (r : R2) (g : W → W → Ms → R W) : Prop :=
  ∀ (w : WX) (H0 Hb0 : Hp) (as : List Addr) (Hb H : Hp) (M : Ms) (σ : L2.St) (x y : W) (xv yv : V), Rel K H0 Hb0 as Hb H M → WR K as Hb xv x → WR K as Hb yv y → ∀ Q : VK, Good (repW K) K mg w H0 Hb0 as Hb σ Q (g x y M) → r xv yv H Q
def pOp (g : W → W → Ms → R W) (a b : PEx) : PEx := fun s M => (a s M).bind fun x M1 => (b s M1).bind fun y M2 => g x y M2
/-- the first that is not stuck -/
def R.or {α : Type} (a b : R α) : R α := match a with
  | .stuck => b
  | r => r
theorem Sim2.or {K : PySem.W.Frag} {mg : Str → Option Value} {r r' : R2} {g g' : W → W → Ms → R W} (h : Sim2 K mg r g) (h' : Sim2 K mg r' g') : Sim2 K mg (fun x y H Q => r x y H Q ∨ r' x y H Q) (fun x y M => (g x y M).or (g' x y M)) := by
  intro w H0 Hb0 as Hb H M σ x y xv yv R1 wx wy Q gd
  cases e : g x y M with
  | ok a m => refine .inl (h w H0 Hb0 as Hb H M σ x y xv yv R1 wx wy Q ?_); rw [e]; simp only [e, R.or] at gd; exact gd
  | exc a m => refine .inl (h w H0 Hb0 as Hb H M σ x y xv yv R1 wx wy Q ?_); rw [e]; simp only [e, R.or] at gd; exact gd
  | stuck => refine .inr (h' w H0 Hb0 as Hb H M σ x y xv yv R1 wx wy Q ?_); simp only [e, R.or] at gd; exact gd
section
variable {X : Cx} {w : WX} {a b c : Expr} {pa pb pc : PEx} {pos : Pos} {g g' : W → W → Ms → R W} {r r' : R2}
theorem sim_op {K : PySem.W.Frag} {mg : Str → Option Value} {ta tb : TE} (sa : Sim (repW K) K mg w ta pa) (sb : Sim (repW K) K mg w tb pb) (hg : Sim2 K mg r g) : Sim (repW K) K mg w (tOp r ta tb) (pOp g pa pb) := by
  intro H0 Hb0 as Hb H M σ s r0 S Q gd
  refine Good.bind sa r0 S gd fun x x' as1 Hb1 H1 M1 r1 f1 S1 w1 g1 => ?_
  refine Good.bind sb r1 S1 g1 fun y y' as2 Hb2 H2 M2 r2 f2 S2 w2 g2 => ?_
  exact hg w H0 Hb0 as2 Hb2 H2 M2 σ x' y' x y r2 (WR.mono f2 w1) w2 Q g2
theorem je_op {op : Operator} (ho : OpR X (binaryOp op) r) (hg : Sim2 X.K X.mg r g) (ha : JE X w a pa) (hb : JE X w b pb) : JE X w (.BinOp a op b pos) (pOp g pa pb) := by
  obtain ⟨ta, ea, sa⟩ := ha
  obtain ⟨tb, eb, sb⟩ := hb
  exact ⟨_, pe_op ho ea eb, sim_op sa sb hg⟩
theorem je_cmp {op : CmpOp} (ho : OpR X (compareOp op) r) (hg : Sim2 X.K X.mg r g) (ha : JE X w a pa) (hb : JE X w b pb) (hm : behindInMarks op b = false := by first | exact nomark _ | rfl) : JE X w (.Compare a [op] [b] pos) (pOp g pa pb) := by
  obtain ⟨ta, ea, sa⟩ := ha
  obtain ⟨tb, eb, sb⟩ := hb
  exact ⟨_, pe_cmpR ho ea eb hm, sim_op sa sb hg⟩
/-- a bool as a test -/
def pB (p : PEx) : PTx := fun s M => (p s M).bind fun x M1 => match x with
  | .d (.bool b) => .ok b M1
  | _ => .stuck
theorem sim_test {K : PySem.W.Frag} {mg : Str → Option Value} {t : TE} {p : PEx} (sa : Sim (repW K) K mg w t p) : Sim repB K mg w (tTest t) (pB p) := by
  intro H0 Hb0 as Hb H M σ s r0 S Q gd
  refine Good.bind sa r0 S gd fun x x' as1 Hb1 H1 M1 r1 f1 S1 w1 g1 => ?_
  cases x' with
  | d y =>
    cases y with
    | bool k =>
      obtain rfl := wr_bl_of w1
      exact ⟨k, rfl, Good.ok g1 r1 rfl⟩
    | _ => exact (show False from g1).elim
  | r i => exact (show False from g1).elim
  | k u => exact (show False from g1).elim
theorem jt_cmp {op : CmpOp} (ho : OpR X (compareOp op) r) (hg : Sim2 X.K X.mg r g) (ha : JE X w a pa) (hb : JE X w b pb) (hm : behindInMarks op b = false := by first | exact nomark _ | rfl) : JT X w (.Compare a [op] [b] pos) (pB (pOp g pa pb)) := by
  obtain ⟨ta, ea, sa⟩ := ha
  obtain ⟨tb, eb, sb⟩ := hb
  exact ⟨_, pt_cmpR ho ea eb hm, sim_test (sim_op sa sb hg)⟩
/-- a op b op' c -/
def pChain (g g' : W → W → Ms → R W) (a b c : PEx) : PEx := fun s M => (a s M).bind fun x M1 => (b s M1).bind fun y M2 => (g x y M2).bind fun k M3 => match k with
  | .d (.bool true) => (c s M3).bind fun z M4 => g' y z M4
  | .d (.bool false) => .ok (.d (.bool false)) M3
  | _ => .stuck
theorem sim_chain {K : PySem.W.Frag} {mg : Str → Option Value} {ta tb tc : TE} (sa : Sim (repW K) K mg w ta pa) (sb : Sim (repW K) K mg w tb pb) (sc : Sim (repW K) K mg w tc pc) (hg : Sim2 K mg r g) (hg' : Sim2 K mg r' g') : Sim (repW K) K mg w (tChain r r' ta tb tc) (pChain g g' pa pb pc) := by
  intro H0 Hb0 as Hb H M σ s r0 S Q gd
  refine Good.bind sa r0 S gd fun x x' as1 Hb1 H1 M1 r1 f1 S1 w1 g1 => ?_
  refine Good.bind sb r1 S1 g1 fun y y' as2 Hb2 H2 M2 r2 f2 S2 w2 g2 => ?_
  refine hg w H0 Hb0 as2 Hb2 H2 M2 σ x' y' x y r2 (WR.mono f2 w1) w2 _ ?_
  cases e : g x' y' M2 with
  | exc e1 m => rw [e] at g2; exact g2
  | stuck => rw [e] at g2; exact g2
  | ok k m =>
    rw [e] at g2
    intro kv as3 Hb3 H3 r3 f3 w3
    have g3 := Good.mono f3 g2
    cases k with
    | d z =>
      cases z with
      | bool bb =>
        obtain rfl := wr_bl_of w3
        refine ⟨bb, rfl, ?_⟩
        cases bb with
        | true =>
          rw [if_pos rfl]
          refine Good.bind sc r3 (S2.mono f3) g3 fun z z' as4 Hb4 H4 M4 r4 f4 S4 w4 g4 => ?_
          exact hg' w H0 Hb0 as4 Hb4 H4 M4 σ y' z' y z r4 (WR.mono (f3.trans f4) w2) w4 Q g4
        | false =>
          rw [if_neg Bool.false_ne_true]
          exact Good.ok g3 r3 (wr_bl false)
      | _ => exact (show False from g3).elim
    | r i => exact (show False from g3).elim
    | k u => exact (show False from g3).elim
theorem je_chain {op op' : CmpOp} (ho : OpR X (compareOp op) r) (hg : Sim2 X.K X.mg r g) (ho' : OpR X (compareOp op') r') (hg' : Sim2 X.K X.mg r' g') (ha : JE X w a pa) (hb : JE X w b pb) (hc : JE X w c pc)
    (hm : lastMarks [op, op'] [b, c] = false := by with_unfolding_all rfl) : JE X w (.Compare a [op, op'] [b, c] pos) (pChain g g' pa pb pc) := by
  obtain ⟨ta, ea, sa⟩ := ha
  obtain ⟨tb, eb, sb⟩ := hb
  obtain ⟨tc, ec, sc⟩ := hc
  exact ⟨_, pe_chain ho ho' ea eb ec hm, sim_chain sa sb sc hg hg'⟩
theorem jt_chain {op op' : CmpOp} (ho : OpR X (compareOp op) r) (hg : Sim2 X.K X.mg r g) (ho' : OpR X (compareOp op') r') (hg' : Sim2 X.K X.mg r' g') (ha : JE X w a pa) (hb : JE X w b pb) (hc : JE X w c pc)
    (hm : lastMarks [op, op'] [b, c] = false := by with_unfolding_all rfl) : JT X w (.Compare a [op, op'] [b, c] pos) (pB (pChain g g' pa pb pc)) := by
  obtain ⟨ta, ea, sa⟩ := ha
  obtain ⟨tb, eb, sb⟩ := hb
  obtain ⟨tc, ec, sc⟩ := hc
  exact ⟨_, pt_chain ho ho' ea eb ec hm, sim_test (sim_chain sa sb sc hg hg')⟩
end

/-! ### the operations -/
def gInt (f : Int → Int → Option PyData) : W → W → Ms → R W := fun x y M => match x, y with
  | .d (.int i), .d (.int j) => (match f i j with
    | some d => .ok (.d d) M
    | none => .stuck)
  | _, _ => .stuck
section
variable {K : PySem.W.Frag} {mg : Str → Option Value}
theorem sim_gInt {r : R2} {f : Int → Int → Option PyData} (h : ∀ i j d, f i j = some d → ∀ (H : Hp) (Q : VK), (∀ v, Dt K (fun _ => none) v d → Q v H) → r (.int i) (.int j) H Q) (hs : ∀ i j d, f i j = some d → fits d) : Sim2 K mg r (gInt f) := by
  intro w H0 Hb0 as Hb H M σ x y xv yv R1 wx wy Q gd
  cases x with
  | d x =>
    cases x with
    | int i =>
      cases y with
      | d y =>
        cases y with
        | int j =>
          obtain rfl := wr_int_of wx
          obtain rfl := wr_int_of wy
          cases e : f i j with
          | none => simp only [gInt, e] at gd; exact gd.elim
          | some d =>
            simp only [gInt, e] at gd
            exact h i j d e H Q fun v hv => Good.ok gd R1 ⟨Dt.mono (fun _ _ z => by cases z) d v hv, hs i j d e⟩
        | _ => exact gd.elim
      | r i => exact gd.elim
      | k u => exact gd.elim
    | _ => exact gd.elim
  | r i => exact gd.elim
  | k u => exact gd.elim
def gAddI := gInt fun i j => some (.int (i + j))
def gSubI := gInt fun i j => some (.int (i - j))
def gMulI := gInt fun i j => if (-(2 ^ 64) < i ∧ i < 2 ^ 64) ∨ (-(2 ^ 64) < j ∧ j < 2 ^ 64) then some (.int (i * j)) else none
def gDivI := gInt fun i j => if j ≠ 0 ∧ j.natAbs < 1073741824 then some (.int (i.fdiv j)) else none
def gModI := gInt fun i j => if j ≠ 0 then some (.int (i.fmod j)) else none
def gPowI := gInt fun i j => if 0 ≤ j ∧ j ≤ 1000000 ∧ i.natAbs < 2 ^ 64 then some (.int (i ^ j.toNat)) else none
def gLtI := gInt fun i j => some (.bool (decide (i < j)))
def gLeI := gInt fun i j => some (.bool (decide (i ≤ j)))
def gGtI := gInt fun i j => some (.bool (decide (j < i)))
def gGeI := gInt fun i j => some (.bool (decide (j ≤ i)))
theorem s_addI : Sim2 K mg (rI0 fun i j => .int (i + j)) gAddI := sim_gInt (fun i j d e H Q q => ⟨i, j, rfl, rfl, by cases e; exact q _ (.int _)⟩) fun _ _ _ e => by cases e; trivial
theorem s_subI : Sim2 K mg (rI0 fun i j => .int (i - j)) gSubI := sim_gInt (fun i j d e H Q q => ⟨i, j, rfl, rfl, by cases e; exact q _ (.int _)⟩) fun _ _ _ e => by cases e; trivial
theorem s_mulI : Sim2 K mg (rI CMul fun i j => .int (i * j)) gMulI := sim_gInt (fun i j d e H Q q => by
    split at e
    · rename_i hc; cases e; exact ⟨i, j, rfl, rfl, hc, q _ (.int _)⟩
    · cases e) fun _ _ _ e => by
    split at e
    · cases e; trivial
    · cases e
theorem s_divI : Sim2 K mg (rI CDivN fun i j => .int (i.fdiv j)) gDivI := sim_gInt (fun i j d e H Q q => by
    split at e
    · rename_i hc; cases e; exact ⟨i, j, rfl, rfl, hc, q _ (.int _)⟩
    · cases e) fun _ _ _ e => by
    split at e
    · cases e; trivial
    · cases e
theorem s_modI : Sim2 K mg (rI (fun _ j => j ≠ 0) fun i j => .int (i.fmod j)) gModI := sim_gInt (fun i j d e H Q q => by
    split at e
    · rename_i hc; cases e; exact ⟨i, j, rfl, rfl, hc, q _ (.int _)⟩
    · cases e) fun _ _ _ e => by
    split at e
    · cases e; trivial
    · cases e
theorem s_powI : Sim2 K mg (rI CPow fun i j => .int (i ^ j.toNat)) gPowI := sim_gInt (fun i j d e H Q q => by
    split at e
    · rename_i hc; cases e; exact ⟨i, j, rfl, rfl, hc, q _ (.int _)⟩
    · cases e) fun _ _ _ e => by
    split at e
    · cases e; trivial
    · cases e
theorem s_ltI : Sim2 K mg (rI0 fun i j => .bl (decide (i < j))) gLtI := sim_gInt (fun i j d e H Q q => ⟨i, j, rfl, rfl, by cases e; exact q _ (.bl _)⟩) fun _ _ _ e => by cases e; trivial
theorem s_leI : Sim2 K mg (rI0 fun i j => .bl (decide (i ≤ j))) gLeI := sim_gInt (fun i j d e H Q q => ⟨i, j, rfl, rfl, by cases e; exact q _ (.bl _)⟩) fun _ _ _ e => by cases e; trivial
theorem s_gtI : Sim2 K mg (rI0 fun i j => .bl (decide (j < i))) gGtI := sim_gInt (fun i j d e H Q q => ⟨i, j, rfl, rfl, by cases e; exact q _ (.bl _)⟩) fun _ _ _ e => by cases e; trivial
theorem s_geI : Sim2 K mg (rI0 fun i j => .bl (decide (j ≤ i))) gGeI := sim_gInt (fun i j d e H Q q => ⟨i, j, rfl, rfl, by cases e; exact q _ (.bl _)⟩) fun _ _ _ e => by cases e; trivial
/-- == and != of data -/
def gEqD : W → W → Ms → R W := fun x y M => match view M x, view M y with
  | some d, some e => if SeqAt.shaped d = true ∧ SeqAt.shaped e = true then .ok (.d (.bool (PyData.eqv d e))) M else .stuck
  | _, _ => .stuck
def gNeD : W → W → Ms → R W := fun x y M => match view M x, view M y with
  | some d, some e => if SeqAt.shaped d = true ∧ SeqAt.shaped e = true then .ok (.d (.bool (!PyData.eqv d e))) M else .stuck
  | _, _ => .stuck
theorem s_eqD : Sim2 K mg (rEqD K) gEqD := by
  intro w H0 Hb0 as Hb H M σ x y xv yv R1 wx wy Q gd
  unfold gEqD at gd
  cases ex : view M x with
  | none => rw [ex] at gd; exact gd.elim
  | some d =>
    cases ey : view M y with
    | none => rw [ex, ey] at gd; exact gd.elim
    | some e =>
      rw [ex, ey] at gd
      by_cases hc : SeqAt.shaped d = true ∧ SeqAt.shaped e = true
      · simp only [hc, and_self, if_true] at gd
        exact ⟨d, e, Dt.dp d _ (view_ok R1 wx ex).1, Dt.dp e _ (view_ok R1 wy ey).1, hc.1, hc.2, Good.ok gd R1 (wr_bl _)⟩
      · simp only [hc, if_false] at gd
        exact gd.elim
theorem s_neD : Sim2 K mg (rNeD K) gNeD := by
  intro w H0 Hb0 as Hb H M σ x y xv yv R1 wx wy Q gd
  unfold gNeD at gd
  cases ex : view M x with
  | none => rw [ex] at gd; exact gd.elim
  | some d =>
    cases ey : view M y with
    | none => rw [ex, ey] at gd; exact gd.elim
    | some e =>
      rw [ex, ey] at gd
      by_cases hc : SeqAt.shaped d = true ∧ SeqAt.shaped e = true
      · simp only [hc, and_self, if_true] at gd
        exact ⟨d, e, Dt.dp d _ (view_ok R1 wx ex).1, Dt.dp e _ (view_ok R1 wy ey).1, hc.1, hc.2, Good.ok gd R1 (wr_bl _)⟩
      · simp only [hc, if_false] at gd
        exact gd.elim
/-- is None, is not None; is True, is not True -/
def isNonD : PyData → Bool
  | .none => true
  | _ => false
def gIsN (neg : Bool) : W → W → Ms → R W := fun x y M => match x, y with
  | .d x, .d .none => .ok (.d (.bool (xor neg (isNonD x)))) M
  | .r _, .d .none => .ok (.d (.bool neg)) M
  | _, _ => .stuck
theorem dt_non {H : Hp} {v : V} {x : PyData} (h : Dt K H v x) : decide (v = .non) = isNonD x := by
  cases h <;> rfl
theorem s_isN : Sim2 K mg (fun x y H Q => y = .non ∧ Q (.bl (decide (x = .non))) H) (gIsN false) := by
  intro w H0 Hb0 as Hb H M σ x y xv yv R1 wx wy Q gd
  cases y with
  | d y =>
    cases y with
    | none =>
      obtain rfl := wr_non_of wy
      cases x with
      | d x =>
        refine ⟨rfl, ?_⟩
        rw [dt_non wx.1]
        have gd' : Good (repW K) K mg w H0 Hb0 as Hb σ Q (.ok (.d (.bool (xor false (isNonD x)))) M) := gd
        rw [Bool.false_xor] at gd'
        exact Good.ok gd' R1 (wr_bl _)
      | r i =>
        obtain ⟨a, _, rfl⟩ := wx
        exact ⟨rfl, Good.ok gd R1 (wr_bl _)⟩
      | k u => exact gd.elim
    | _ => cases x <;> exact gd.elim
  | r i => cases x <;> exact gd.elim
  | k u => cases x <;> exact gd.elim
theorem s_isNn : Sim2 K mg (fun x y H Q => y = .non ∧ Q (.bl (!decide (x = .non))) H) (gIsN true) := by
  intro w H0 Hb0 as Hb H M σ x y xv yv R1 wx wy Q gd
  cases y with
  | d y =>
    cases y with
    | none =>
      obtain rfl := wr_non_of wy
      cases x with
      | d x =>
        refine ⟨rfl, ?_⟩
        rw [dt_non wx.1]
        have gd' : Good (repW K) K mg w H0 Hb0 as Hb σ Q (.ok (.d (.bool (xor true (isNonD x)))) M) := gd
        rw [Bool.true_xor] at gd'
        exact Good.ok gd' R1 (wr_bl _)
      | r i =>
        obtain ⟨a, _, rfl⟩ := wx
        exact ⟨rfl, Good.ok gd R1 (wr_bl _)⟩
      | k u => exact gd.elim
    | _ => cases x <;> exact gd.elim
  | r i => cases x <;> exact gd.elim
  | k u => cases x <;> exact gd.elim
end
end Z

set_option linter.all false
set_option autoImplicit false
set_option maxRecDepth 100000
set_option maxHeartbeats 4000000
namespace Z
open PySem PySem.Spec PyProof.Rows L2

/-! ### texts -/
def gStr (f : Str → Str → Option PyData) : W → W → Ms → R W := fun x y M => match x, y with
  | .d (.str i), .d (.str j) => (match f i j with
    | some d => .ok (.d d) M
    | none => .stuck)
  | _, _ => .stuck
section
variable {K : PySem.W.Frag} {mg : Str → Option Value}
theorem sim_gStr {r : R2} {f : Str → Str → Option PyData} (h : ∀ i j d, f i j = some d → i.length ≤ sizeLine → j.length ≤ sizeLine → ∀ (H : Hp) (Q : VK), (∀ v, Dt K (fun _ => none) v d → Q v H) → r (.str i) (.str j) H Q) (hs : ∀ i j d, f i j = some d → fits d) : Sim2 K mg r (gStr f) := by
  intro w H0 Hb0 as Hb H M σ x y xv yv R1 wx wy Q gd
  cases x with
  | d x =>
    cases x with
    | str i =>
      cases y with
      | d y =>
        cases y with
        | str j =>
          obtain ⟨rfl, l1⟩ := wr_str_of wx
          obtain ⟨rfl, l2⟩ := wr_str_of wy
          cases e : f i j with
          | none => simp only [gStr, e] at gd; exact gd.elim
          | some d =>
            simp only [gStr, e] at gd
            exact h i j d e l1 l2 H Q fun v hv => Good.ok gd R1 ⟨Dt.mono (fun _ _ z => by cases z) d v hv, hs i j d e⟩
        | _ => exact gd.elim
      | r i => exact gd.elim
      | k u => exact gd.elim
    | _ => exact gd.elim
  | r i => exact gd.elim
  | k u => exact gd.elim
def gAddS := gStr fun i j => if i.length + j.length ≤ sizeLine then some (.str (i ++ j)) else none
def gLtS := gStr fun i j => some (.bool (decide (i.cps.toList < j.cps.toList)))
def gLeS := gStr fun i j => some (.bool (!decide (j.cps.toList < i.cps.toList)))
def gGtS := gStr fun i j => some (.bool (decide (j.cps.toList < i.cps.toList)))
def gGeS := gStr fun i j => some (.bool (!decide (i.cps.toList < j.cps.toList)))
def gInS := gStr fun i j => some (.bool (!(Builtin.Str.occurrences j i 0 j.length 1).isEmpty))
def gNinS := gStr fun i j => some (.bool (!(!(Builtin.Str.occurrences j i 0 j.length 1).isEmpty)))
theorem str_len_app (a b : Str) : (a ++ b).length = a.length + b.length := by
  show (a.cps ++ b.cps).size = a.cps.size + b.cps.size
  exact Array.size_append
theorem s_addS : Sim2 K mg (fun x y H Q => ∃ i j, x = .str i ∧ y = .str j ∧ i.length + j.length ≤ sizeLine ∧ Q (.str (i ++ j)) H) gAddS := sim_gStr (fun i j d e l1 l2 H Q q => by
    split at e
    · rename_i hc; cases e; exact ⟨i, j, rfl, rfl, hc, q _ (.str _)⟩
    · cases e) fun i j _ e => by
    split at e
    · rename_i hc; cases e; show (i ++ j).length ≤ sizeLine; rw [str_len_app]; exact hc
    · cases e
theorem s_ltS : Sim2 K mg (fun x y H Q => ∃ i j, x = .str i ∧ y = .str j ∧ Q (.bl (decide (i.cps.toList < j.cps.toList))) H) gLtS := sim_gStr (fun i j d e _ _ H Q q => ⟨i, j, rfl, rfl, by cases e; exact q _ (.bl _)⟩) fun _ _ _ e => by cases e; trivial
theorem s_leS : Sim2 K mg (fun x y H Q => ∃ i j, x = .str i ∧ y = .str j ∧ Q (.bl (!decide (j.cps.toList < i.cps.toList))) H) gLeS := sim_gStr (fun i j d e _ _ H Q q => ⟨i, j, rfl, rfl, by cases e; exact q _ (.bl _)⟩) fun _ _ _ e => by cases e; trivial
theorem s_gtS : Sim2 K mg (fun x y H Q => ∃ i j, x = .str i ∧ y = .str j ∧ Q (.bl (decide (j.cps.toList < i.cps.toList))) H) gGtS := sim_gStr (fun i j d e _ _ H Q q => ⟨i, j, rfl, rfl, by cases e; exact q _ (.bl _)⟩) fun _ _ _ e => by cases e; trivial
theorem s_geS : Sim2 K mg (fun x y H Q => ∃ i j, x = .str i ∧ y = .str j ∧ Q (.bl (!decide (i.cps.toList < j.cps.toList))) H) gGeS := sim_gStr (fun i j d e _ _ H Q q => ⟨i, j, rfl, rfl, by cases e; exact q _ (.bl _)⟩) fun _ _ _ e => by cases e; trivial
theorem s_inS : Sim2 K mg (fun x y H Q => ∃ i j, x = .str i ∧ y = .str j ∧ Q (.bl (!(Builtin.Str.occurrences j i 0 j.length 1).isEmpty)) H) gInS := sim_gStr (fun i j d e _ _ H Q q => ⟨i, j, rfl, rfl, by cases e; exact q _ (.bl _)⟩) fun _ _ _ e => by cases e; trivial
theorem s_ninS : Sim2 K mg (fun x y H Q => ∃ i j, x = .str i ∧ y = .str j ∧ Q (.bl (!(!(Builtin.Str.occurrences j i 0 j.length 1).isEmpty))) H) gNinS := sim_gStr (fun i j d e _ _ H Q q => ⟨i, j, rfl, rfl, by cases e; exact q _ (.bl _)⟩) fun _ _ _ e => by cases e; trivial
/-- is True, is not True -/
def gIsB (neg : Bool) : W → W → Ms → R W := fun x y M => match x, y with
  | .d (.bool a), .d (.bool b) => .ok (.d (.bool (xor neg (decide (a = b))))) M
  | _, _ => .stuck
theorem s_isB : Sim2 K mg rIsB (gIsB false) := by
  intro w H0 Hb0 as Hb H M σ x y xv yv R1 wx wy Q gd
  cases x with
  | d x =>
    cases x with
    | bool a =>
      cases y with
      | d y =>
        cases y with
        | bool b =>
          obtain rfl := wr_bl_of wx
          obtain rfl := wr_bl_of wy
          refine ⟨a, b, rfl, rfl, Good.ok gd R1 ?_⟩
          rw [Bool.false_xor]
          exact wr_bl _
        | _ => exact gd.elim
      | r i => exact gd.elim
      | k u => exact gd.elim
    | _ => exact gd.elim
  | r i => exact gd.elim
  | k u => exact gd.elim
theorem s_isBn : Sim2 K mg rNotB (gIsB true) := by
  intro w H0 Hb0 as Hb H M σ x y xv yv R1 wx wy Q gd
  cases x with
  | d x =>
    cases x with
    | bool a =>
      cases y with
      | d y =>
        cases y with
        | bool b =>
          obtain rfl := wr_bl_of wx
          obtain rfl := wr_bl_of wy
          refine ⟨a, b, rfl, rfl, Good.ok gd R1 ?_⟩
          rw [Bool.true_xor]
          exact wr_bl _
        | _ => exact gd.elim
      | r i => exact gd.elim
      | k u => exact gd.elim
    | _ => exact gd.elim
  | r i => exact gd.elim
  | k u => exact gd.elim

/-! ### lists, tuples put together -/
def catW (M : Ms) (x y : W) : Option (List W) := match itemsL M x, itemsL M y with
  | some a, some b => if a.length + b.length ≤ sizeLine then some (a ++ b) else none
  | _, _ => none
theorem catW_ok {H0 Hb0 Hb H : Hp} {as : List Addr} {M : Ms} {x y : W} {xv yv : V} {ws : List W} (R1 : Rel K H0 Hb0 as Hb H M) (wx : WR K as Hb xv x) (wy : WR K as Hb yv y) (e : catW M x y = some ws) {Q : VK}
    (h : ∀ p vs, H p = none → WRs K as Hb vs ws → ws.length ≤ sizeLine → Q (.ref p) (upd H p (.lst vs))) : rCat xv yv H Q := by
  unfold catW at e
  cases e1 : itemsL M x with
  | none => rw [e1] at e; cases e
  | some a =>
    cases e2 : itemsL M y with
    | none => rw [e1, e2] at e; cases e
    | some b =>
      rw [e1, e2] at e
      obtain ⟨l, vs, rfl, h1, r1, z1⟩ := itemsL_ok R1 wx e1
      obtain ⟨l2, us, rfl, h2, r2, z2⟩ := itemsL_ok R1 wy e2
      by_cases hc : a.length + b.length ≤ sizeLine
      · simp only [hc, if_true, Option.some.injEq] at e
        subst e
        have hl1 : vs.length = a.length := Paired.len r1
        have hl2 : us.length = b.length := Paired.len r2
        exact ⟨l, l2, vs, us, rfl, rfl, h1, h2, by rw [hl1, hl2]; exact hc, fun p hp => h p _ hp (Paired.app r1 r2) (by rw [List.length_append]; exact hc)⟩
      · simp only [hc, if_false] at e
        cases e
def pCat (a b : PEx) : PAx := fun s M => (a s M).bind fun x M1 => (b s M1).bind fun y M2 => match catW M2 x y with
  | some ws => .ok ws M2
  | none => .stuck
def gCatL : W → W → Ms → R W := fun x y M => match catW M x y with
  | some ws => (match allD ws with
    | some ds => .ok (.d (.list ds)) M
    | none => .stuck)
  | none => .stuck
theorem s_catL : Sim2 K mg rCat gCatL := by
  intro w H0 Hb0 as Hb H M σ x y xv yv R1 wx wy Q gd
  unfold gCatL at gd
  cases e : catW M x y with
  | none => rw [e] at gd; exact gd.elim
  | some ws =>
    rw [e] at gd
    refine catW_ok R1 wx wy e fun p vs hp wr z => ?_
    cases hd : allD ws with
    | none => simp only [hd] at gd; exact gd.elim
    | some ds =>
      simp only [hd] at gd
      have hbn := R1.hbn hp
      have dz := allD_ok wr hd
      have hl : ws.length = ds.length := (Paired.len wr).symm.trans (Paired.len dz)
      exact Good.ok (Good.mono (fut_new hbn) gd) (R1.newData hp) (dz_lst upd_same (dzAll_mono (same_new hbn) dz) (hl ▸ z))
def gCatT : W → W → Ms → R W := fun x y M => match x, y with
  | .d (.tuple a), .d (.tuple b) => if a ≠ [] ∧ a.length + b.length ≤ sizeLine then .ok (.d (.tuple (a ++ b))) M else .stuck
  | _, _ => .stuck
theorem s_catT : Sim2 K mg (rCatT K) gCatT := by
  intro w H0 Hb0 as Hb H M σ x y xv yv R1 wx wy Q gd
  cases x with
  | d x =>
    cases x with
    | tuple a =>
      cases y with
      | d y =>
        cases y with
        | tuple b =>
          by_cases hc : a ≠ [] ∧ a.length + b.length ≤ sizeLine
          · have gd' : Good (repW K) K mg w H0 Hb0 as Hb σ Q (.ok (.d (.tuple (a ++ b))) M) := by
              have : gCatT (.d (.tuple a)) (.d (.tuple b)) M = .ok (.d (.tuple (a ++ b))) M := if_pos hc
              rw [← this]; exact gd
            obtain ⟨h1, f1⟩ := wx
            obtain ⟨h2, f2⟩ := wy
            cases h1 with
            | tup s1 d1 =>
              cases h2 with
              | tup s2 d2 =>
                have z1 := dzAll_of d1 f1.2
                have z2 := dzAll_of d2 f2.2
                have l1 := Paired.len z1
                have l2 := Paired.len z2
                refine ⟨_, _, _, _, rfl, rfl, same_t R1.sub s1, same_t R1.sub s2, fun e => hc.1 ?_, by rw [l1, l2]; exact hc.2, fun e => ?_, fun _ p hp => ?_⟩
                · rw [e] at l1; exact List.eq_nil_of_length_eq_zero l1.symm
                · have eb : b = [] := by rw [e] at l2; exact List.eq_nil_of_length_eq_zero l2.symm
                  subst eb
                  rw [List.append_nil] at gd'
                  exact Good.ok gd' R1 ⟨.tup s1 d1, f1⟩
                · have hbn := R1.hbn hp
                  exact Good.ok (Good.mono (fut_new hbn) gd') (R1.newData hp) (dz_tup (SqT.of upd_same) (dzAll_mono (same_new hbn) (Paired.app z1 z2)) (by rw [List.length_append]; exact hc.2))
          · have : gCatT (.d (.tuple a)) (.d (.tuple b)) M = .stuck := if_neg hc
            rw [this] at gd
            exact gd.elim
        | _ => exact gd.elim
      | r i => exact gd.elim
      | k u => exact gd.elim
    | _ => exact gd.elim
  | r i => exact gd.elim
  | k u => exact gd.elim
/-- x in xs, by == of data -/
def gInD (neg : Bool) : W → W → Ms → R W := fun x y M => match view M x, view M y with
  | some d, some (.list ds) => if SeqAt.shaped d = true ∧ SeqAt.shaped (.list ds) = true then .ok (.d (.bool (xor neg (ds.any fun z => PyData.eqv z d)))) M else .stuck
  | _, _ => .stuck
theorem s_inD : Sim2 K mg (rInD K) (gInD false) := by
  intro w H0 Hb0 as Hb H M σ x y xv yv R1 wx wy Q gd
  unfold gInD at gd
  cases ex : view M x with
  | none => rw [ex] at gd; exact gd.elim
  | some d =>
    cases ey : view M y with
    | none => rw [ex, ey] at gd; exact gd.elim
    | some e =>
      rw [ex, ey] at gd
      cases e with
      | list ds =>
        by_cases hc : SeqAt.shaped d = true ∧ SeqAt.shaped (.list ds) = true
        · simp only [hc, and_self, if_true, Bool.false_xor] at gd
          exact ⟨d, ds, Dt.dp d _ (view_ok R1 wx ex).1, Dt.dp _ _ (view_ok R1 wy ey).1, hc.1, hc.2, Good.ok gd R1 (wr_bl _)⟩
        · simp only [hc, if_false] at gd
          exact gd.elim
      | _ => exact gd.elim
theorem s_ninD : Sim2 K mg (rNotInD K) (gInD true) := by
  intro w H0 Hb0 as Hb H M σ x y xv yv R1 wx wy Q gd
  unfold gInD at gd
  cases ex : view M x with
  | none => rw [ex] at gd; exact gd.elim
  | some d =>
    cases ey : view M y with
    | none => rw [ex, ey] at gd; exact gd.elim
    | some e =>
      rw [ex, ey] at gd
      cases e with
      | list ds =>
        by_cases hc : SeqAt.shaped d = true ∧ SeqAt.shaped (.list ds) = true
        · simp only [hc, and_self, if_true, Bool.true_xor] at gd
          exact ⟨d, ds, Dt.dp d _ (view_ok R1 wx ex).1, Dt.dp _ _ (view_ok R1 wy ey).1, hc.1, hc.2, Good.ok gd R1 (wr_bl _)⟩
        · simp only [hc, if_false] at gd
          exact gd.elim
      | _ => exact gd.elim

/-! ### xs[i], t[i], s[i]; xs[a:b] -/
def gIx : W → W → Ms → R W := fun x y M => match y with
  | .d (.int i) => (match itemsL M x with
    | some ws => (match atI ws i with
      | some u => .ok u M
      | none => .stuck)
    | none => (match itemsT x with
      | some ws => (match atI ws i with
        | some u => .ok u M
        | none => .stuck)
      | none => (match x with
        | .d (.str z) => (match atI z.cps.toList i with
          | some c => .ok (.d (.str ⟨#[c]⟩)) M
          | none => .stuck)
        | _ => .stuck)))
  | _ => .stuck
theorem atI_at {as : List Addr} {Hb : Hp} {vs : List V} {ws : List W} {i : Int} {u : W} (h : WRs K as Hb vs ws) (e : atI ws i = some u) : ∃ v, atI vs i = some v ∧ WR K as Hb v u := by
  unfold atI at e ⊢
  rw [Paired.len h]
  cases hx : ixN ws.length i with
  | none => rw [hx] at e; cases e
  | some j =>
    rw [hx] at e
    have e' : ws[j]? = some u := e
    exact Paired.at h e'
theorem one_fits (c : Nat) : (⟨#[c]⟩ : Str).length ≤ sizeLine := by
  show 1 ≤ sizeLine
  decide
theorem s_ix : Sim2 K mg (rIx K) gIx := by
  intro w H0 Hb0 as Hb H M σ x y xv yv R1 wx wy Q gd
  cases y with
  | d y =>
    cases y with
    | int i =>
      obtain rfl := wr_int_of wy
      cases e1 : itemsL M x with
      | some ws =>
        simp only [gIx, e1] at gd
        obtain ⟨a, vs, rfl, h1, r1, z1⟩ := itemsL_ok R1 wx e1
        cases e2 : atI ws i with
        | none => simp only [e2] at gd; exact gd.elim
        | some u =>
          simp only [e2] at gd
          obtain ⟨v, hv, wv⟩ := atI_at r1 e2
          exact .inl ⟨a, vs, i, v, rfl, rfl, SqL.of h1, hv, Good.ok gd R1 wv⟩
      | none =>
        cases e3 : itemsT x with
        | some ws =>
          simp only [gIx, e1, e3] at gd
          obtain ⟨a, vs, rfl, h1, r1, z1⟩ := itemsT_ok R1 wx e3
          cases e2 : atI ws i with
          | none => simp only [e2] at gd; exact gd.elim
          | some u =>
            simp only [e2] at gd
            obtain ⟨v, hv, wv⟩ := atI_at r1 e2
            exact .inr (.inl ⟨a, vs, i, v, rfl, rfl, h1, hv, Good.ok gd R1 wv⟩)
        | none =>
          simp only [gIx, e1, e3] at gd
          cases x with
          | d x =>
            cases x with
            | str z =>
              obtain ⟨rfl, l⟩ := wr_str_of wx
              cases e2 : atI z.cps.toList i with
              | none => simp only [e2] at gd; exact gd.elim
              | some c =>
                simp only [e2] at gd
                exact .inr (.inr ⟨z, i, c, rfl, rfl, l, e2, Good.ok gd R1 (wr_str (one_fits c))⟩)
            | _ => exact gd.elim
          | r i => exact gd.elim
          | k u => exact gd.elim
    | _ => exact gd.elim
  | r i => exact gd.elim
  | k u => exact gd.elim
end
section
variable {X : Cx} {w : WX} {a b : Expr} {pa pb : PEx} {pos : Pos}
theorem je_ix (ha : JE X w a pa) (hb : JE X w b pb) (hs : PlainIx b := by intro _ _; rfl) : JE X w (.Subscript a b pos) (pOp gIx pa pb) := by
  obtain ⟨ta, ea, sa⟩ := ha
  obtain ⟨tb, eb, sb⟩ := hb
  exact ⟨_, pe_ix ix_seq ea eb hs, sim_op sa sb s_ix⟩
/-- a new list xs + ys -/
theorem jl_cat (ha : JE X w a pa) (hb : JE X w b pb) : JL X w (.BinOp a .Add b pos) (pCat pa pb) := by
  obtain ⟨ta, ea, sa⟩ := ha
  obtain ⟨tb, eb, sb⟩ := hb
  refine ⟨_, pe_op op_cat ea eb, fun H0 Hb0 as Hb H M σ s r0 S Q gd => ?_⟩
  refine Good.bind sa r0 S gd fun x x' as1 Hb1 H1 M1 r1 f1 S1 w1 g1 => ?_
  refine Good.bind sb r1 S1 g1 fun y y' as2 Hb2 H2 M2 r2 f2 S2 w2 g2 => ?_
  cases e : catW M2 x' y' with
  | none => rw [e] at g2; exact g2.elim
  | some ws =>
    rw [e] at g2
    exact catW_ok r2 (WR.mono f2 w1) w2 e fun p vs hp wr z => Good.ok g2 (r2.newAny hp) ⟨p, vs, rfl, upd_same, z, wr, fun hm => r2.al p hm hp, r2.hbn hp, r2.h0n hp⟩
/-! slices -/
def pNo : Sl → Ms → R (Option Int) := fun _ M => .ok none M
def pSo (p : PEx) : Sl → Ms → R (Option Int) := fun s M => (p s M).bind fun x M1 => match x with
  | .d (.int i) => .ok (some i) M1
  | _ => .stuck
theorem jo_none : JO X w none pNo := ⟨_, po_none, fun H0 Hb0 as Hb H M σ s r S Q g => g.ok r rfl⟩
theorem jo_some (h : JE X w a pa) : JO X w (some a) (pSo pa) := by
  obtain ⟨ta, ea, sa⟩ := h
  refine ⟨_, po_some ea, fun H0 Hb0 as Hb H M σ s r0 S Q gd => ?_⟩
  refine Good.bind sa r0 S gd fun x x' as1 Hb1 H1 M1 r1 f1 S1 w1 g1 => ?_
  cases x' with
  | d z =>
    cases z with
    | int i =>
      obtain rfl := wr_int_of w1
      exact ⟨i, rfl, Good.ok g1 r1 rfl⟩
    | _ => exact (show False from g1).elim
  | r i => exact (show False from g1).elim
  | k u => exact (show False from g1).elim
def cutW {α : Type} (xs : List α) (lo hi : Option Int) : List α := (xs.drop (HT.sIx xs.length 0 lo)).take (HT.sIx xs.length xs.length hi - HT.sIx xs.length 0 lo)
theorem cut_ok {K : PySem.W.Frag} {as : List Addr} {Hb : Hp} {vs : List V} {ws : List W} (h : WRs K as Hb vs ws) (lo hi : Option Int) : WRs K as Hb (cutV vs lo hi) (cutW ws lo hi) := by
  unfold cutV cutW
  rw [Paired.len h]
  exact Paired.tk _ (Paired.dr _ h)
theorem cutW_len {α : Type} (xs : List α) (lo hi : Option Int) : (cutW xs lo hi).length ≤ xs.length := by
  unfold cutW
  rw [List.length_take, List.length_drop]
  omega
/-- xs[a:b], a new list -/
def pSlL (p : PEx) (l h : Sl → Ms → R (Option Int)) : PAx := fun s M => (p s M).bind fun x M1 => (l s M1).bind fun lo M2 => (h s M2).bind fun hi M3 => match itemsL M3 x with
  | some ws => .ok (cutW ws lo hi) M3
  | none => .stuck
theorem jl_slice {lo hi : Option Expr} {pl ph : Sl → Ms → R (Option Int)} {p2 : Pos} (ha : JE X w a pa) (hl : JO X w lo pl) (hh : JO X w hi ph) : JL X w (.Subscript a (.Slice lo hi none p2) pos) (pSlL pa pl ph) := by
  obtain ⟨ta, ea, sa⟩ := ha
  obtain ⟨tl, el, sl⟩ := hl
  obtain ⟨th, eh, sh⟩ := hh
  refine ⟨_, pe_slice sl_list ea el eh, fun H0 Hb0 as Hb H M σ s r0 S Q gd => ?_⟩
  refine Good.bind sa r0 S gd fun x x' as1 Hb1 H1 M1 r1 f1 S1 w1 g1 => ?_
  refine Good.bind sl r1 S1 g1 fun lo' lo'' as2 Hb2 H2 M2 r2 f2 S2 w2 g2 => ?_
  refine Good.bind sh r2 S2 g2 fun hi' hi'' as3 Hb3 H3 M3 r3 f3 S3 w3 g3 => ?_
  obtain rfl : lo' = lo'' := w2
  obtain rfl : hi' = hi'' := w3
  cases e : itemsL M3 x' with
  | none => rw [e] at g3; exact g3.elim
  | some ws =>
    rw [e] at g3
    obtain ⟨q, vs, rfl, h1, wr, z⟩ := itemsL_ok r3 (WR.mono (f2.trans f3) w1) e
    refine ⟨q, vs, rfl, SqL.of h1, fun p hp => ?_⟩
    exact Good.ok g3 (r3.newAny hp) ⟨p, _, rfl, upd_same, Nat.le_trans (cutW_len ws lo' hi') z, cut_ok wr lo' hi', fun hm => r3.al p hm hp, r3.hbn hp, r3.h0n hp⟩
/-- t[a:b], not the whole -/
def pSlT (p : PEx) (l h : Sl → Ms → R (Option Int)) : PEx := fun s M => (p s M).bind fun x M1 => (l s M1).bind fun lo M2 => (h s M2).bind fun hi M3 => match x with
  | .d (.tuple ds) => if HT.sIx ds.length 0 lo = 0 ∧ HT.sIx ds.length ds.length hi = ds.length then .stuck else .ok (.d (.tuple (cutW ds lo hi))) M3
  | _ => .stuck
theorem cutD_ok {K : PySem.W.Frag} {Hb : Hp} {vs : List V} {ws : List PyData} (h : DzAll K Hb vs ws) (lo hi : Option Int) : DzAll K Hb (cutV vs lo hi) (cutW ws lo hi) := by
  unfold cutV cutW
  rw [Paired.len h]
  exact Paired.tk _ (Paired.dr _ h)
theorem je_sliceT {lo hi : Option Expr} {pl ph : Sl → Ms → R (Option Int)} {p2 : Pos} (ha : JE X w a pa) (hl : JO X w lo pl) (hh : JO X w hi ph) : JE X w (.Subscript a (.Slice lo hi none p2) pos) (pSlT pa pl ph) := by
  obtain ⟨ta, ea, sa⟩ := ha
  obtain ⟨tl, el, sl⟩ := hl
  obtain ⟨th, eh, sh⟩ := hh
  refine ⟨_, pe_slice sl_tup ea el eh, fun H0 Hb0 as Hb H M σ s r0 S Q gd => ?_⟩
  refine Good.bind sa r0 S gd fun x x' as1 Hb1 H1 M1 r1 f1 S1 w1 g1 => ?_
  refine Good.bind sl r1 S1 g1 fun lo' lo'' as2 Hb2 H2 M2 r2 f2 S2 w2 g2 => ?_
  refine Good.bind sh r2 S2 g2 fun hi' hi'' as3 Hb3 H3 M3 r3 f3 S3 w3 g3 => ?_
  obtain rfl : lo' = lo'' := w2
  obtain rfl : hi' = hi'' := w3
  cases x' with
  | d z =>
    cases z with
    | tuple ds =>
      have w1' : WR X.K as3 Hb3 x (.d (.tuple ds)) := WR.mono (f2.trans f3) w1
      obtain ⟨h1, ff⟩ := w1'
      cases h1 with
      | tup hs ha =>
        rename_i q vs
        have dz := dzAll_of ha ff.2
        have hl := Paired.len dz
        by_cases hc : HT.sIx ds.length 0 lo' = 0 ∧ HT.sIx ds.length ds.length hi' = ds.length
        · simp only [hc, and_self, if_true] at g3
          exact g3.elim
        · simp only [hc, if_false] at g3
          refine ⟨q, vs, rfl, same_t r3.sub hs, by rw [hl]; exact hc, fun p hp => ?_⟩
          have hbn := r3.hbn hp
          exact Good.ok (Good.mono (fut_new hbn) g3) (r3.newData hp) (dz_tup (SqT.of upd_same) (dzAll_mono (same_new hbn) (cutD_ok dz lo' hi')) (Nat.le_trans (cutW_len ds lo' hi') ff.1))
    | _ => exact (show False from g3).elim
  | r i => exact (show False from g3).elim
  | k u => exact (show False from g3).elim
/-- s[a:b] -/
def pSlS (p : PEx) (l h : Sl → Ms → R (Option Int)) : PEx := fun s M => (p s M).bind fun x M1 => (l s M1).bind fun lo M2 => (h s M2).bind fun hi M3 => match x with
  | .d (.str z) => if (cutS z lo hi).length ≤ sizeLine then .ok (.d (.str (cutS z lo hi))) M3 else .stuck
  | _ => .stuck
theorem je_sliceS {lo hi : Option Expr} {pl ph : Sl → Ms → R (Option Int)} {p2 : Pos} (ha : JE X w a pa) (hl : JO X w lo pl) (hh : JO X w hi ph) : JE X w (.Subscript a (.Slice lo hi none p2) pos) (pSlS pa pl ph) := by
  obtain ⟨ta, ea, sa⟩ := ha
  obtain ⟨tl, el, sl⟩ := hl
  obtain ⟨th, eh, sh⟩ := hh
  refine ⟨_, pe_slice sl_str ea el eh, fun H0 Hb0 as Hb H M σ s r0 S Q gd => ?_⟩
  refine Good.bind sa r0 S gd fun x x' as1 Hb1 H1 M1 r1 f1 S1 w1 g1 => ?_
  refine Good.bind sl r1 S1 g1 fun lo' lo'' as2 Hb2 H2 M2 r2 f2 S2 w2 g2 => ?_
  refine Good.bind sh r2 S2 g2 fun hi' hi'' as3 Hb3 H3 M3 r3 f3 S3 w3 g3 => ?_
  obtain rfl : lo' = lo'' := w2
  obtain rfl : hi' = hi'' := w3
  cases x' with
  | d z =>
    cases z with
    | str z =>
      obtain ⟨rfl, l⟩ := wr_str_of w1
      by_cases hc : (cutS z lo' hi').length ≤ sizeLine
      · simp only [hc, if_true] at g3
        exact ⟨z, rfl, l, Good.ok g3 r3 (wr_str hc)⟩
      · simp only [hc, if_false] at g3
        exact g3.elim
    | _ => exact (show False from g3).elim
  | r i => exact (show False from g3).elim
  | k u => exact (show False from g3).elim
/-- either derivation -/
theorem PE.or {e : Expr} {t u : TE} (h : PE X e t) (h' : PE X e u) : PE X e (fun σ H Q => t σ H Q ∨ u σ H Q) := ⟨fun pins s σ H Q I q => q.elim (h.run pins s σ H Q I) (h'.run pins s σ H Q I)⟩
def pOr (p q : PEx) : PEx := fun s M => (p s M).or (q s M)
theorem je_or (ha : JE X w a pa) (hb : JE X w a pb) : JE X w a (pOr pa pb) := by
  obtain ⟨ta, ea, sa⟩ := ha
  obtain ⟨tb, eb, sb⟩ := hb
  refine ⟨_, PE.or ea eb, fun H0 Hb0 as Hb H M σ s r0 S Q gd => ?_⟩
  unfold pOr at gd
  cases e : pa s M with
  | stuck => rw [e] at gd; exact .inr (sb H0 Hb0 as Hb H M σ s r0 S Q gd)
  | ok u m => refine .inl (sa H0 Hb0 as Hb H M σ s r0 S Q ?_); rw [e] at gd ⊢; exact gd
  | exc u m => refine .inl (sa H0 Hb0 as Hb H M σ s r0 S Q ?_); rw [e] at gd ⊢; exact gd
end
end Z

set_option linter.all false
set_option autoImplicit false
set_option maxRecDepth 100000
set_option maxHeartbeats 4000000
namespace Z
open PySem PySem.Spec PyProof.Rows L2

/-! ### truth -/
def truth (M : Ms) : W → Option Bool
  | .d .none => some false
  | .d (.bool b) => some b
  | .d (.int i) => some (i != 0)
  | .d (.str s) => some ((s.length : Int) != 0)
  | .d (.list xs) => some (!xs.isEmpty)
  | .d (.tuple xs) => some (!xs.isEmpty)
  | .d (.dict _) => none
  | .r i => match M[i]? with
    | some (.lst ws) => some (!ws.isEmpty)
    | some (.dic false kvs) => some (!kvs.isEmpty)
    | _ => none
  | .k _ => none
theorem emp_of {α β : Type} {F : α → β → Prop} {l : List α} {m : List β} (h : Paired F l m) : l.isEmpty = m.isEmpty := by
  cases h <;> rfl
section
variable {K : PySem.W.Frag} {mg : Str → Option Value}
theorem truth_ok {H0 Hb0 Hb H : Hp} {as : List Addr} {M : Ms} {x : W} {v : V} {b : Bool} (r : Rel K H0 Hb0 as Hb H M) (h : WR K as Hb v x) (e : truth M x = some b) : TruV K v H b := by
  cases x with
  | d y =>
    cases y with
    | none => obtain rfl := wr_non_of h; simp only [truth, Option.some.injEq] at e; exact e.symm
    | bool b' => obtain rfl := wr_bl_of h; simp only [truth, Option.some.injEq] at e; exact e.symm
    | int i => obtain rfl := wr_int_of h; simp only [truth, Option.some.injEq] at e; exact e.symm
    | str s => obtain ⟨rfl, l⟩ := wr_str_of h; simp only [truth, Option.some.injEq] at e; exact ⟨l, e.symm⟩
    | list xs =>
      simp only [truth, Option.some.injEq] at e
      obtain ⟨h1, f1⟩ := h
      cases h1 with
      | lst hs ha => exact .inl ⟨_, SqL.of (r.sub _ _ hs), by rw [emp_of (dzAll_of ha f1.2)]; exact e.symm⟩
    | tuple xs =>
      simp only [truth, Option.some.injEq] at e
      obtain ⟨h1, f1⟩ := h
      cases h1 with
      | tup hs ha => exact .inr (.inl ⟨_, same_t r.sub hs, by rw [emp_of (dzAll_of ha f1.2)]; exact e.symm⟩)
    | dict _ => simp [truth] at e
  | r i =>
    obtain ⟨a, h1, rfl⟩ := h
    simp only [truth] at e
    cases hm : M[i]? with
    | none => rw [hm] at e; simp at e
    | some o =>
      rw [hm] at e
      cases o with
      | lst ws =>
        simp only [Option.some.injEq] at e
        obtain ⟨z, vs, h2, h3⟩ := r.at' i a _ h1 hm
        exact .inl ⟨vs, SqL.of h2, by rw [emp_of h3]; exact e.symm⟩
      | dic t kvs =>
        cases t with
        | true => simp at e
        | false =>
          simp only [Option.some.injEq] at e
          obtain ⟨z, u, h2, vs, rfl, h3⟩ := r.at' i a _ h1 hm
          exact .inr (.inr ⟨vs, h2, by rw [emp_of h3]; exact e.symm⟩)
      | dlk _ _ => simp at e
      | ins _ _ => simp at e
      | gone => simp at e
  | k u => simp [truth] at e
end
def pTru (p : PEx) : PTx := fun s M => (p s M).bind fun x M1 => match truth M1 x with
  | some b => .ok b M1
  | none => .stuck
def pAndT (p q : PTx) : PTx := fun s M => (p s M).bind fun b M1 => if b = true then q s M1 else .ok false M1
def pOrT (p q : PTx) : PTx := fun s M => (p s M).bind fun b M1 => if b = true then .ok true M1 else q s M1
def pNotT (p : PTx) : PTx := fun s M => (p s M).bind fun b M1 => .ok (!b) M1
/-- x and y, x or y as values, not x -/
def pAndV (p q : PEx) : PEx := fun s M => (p s M).bind fun x M1 => match truth M1 x with
  | some true => q s M1
  | some false => .ok x M1
  | none => .stuck
def pOrV (p q : PEx) : PEx := fun s M => (p s M).bind fun x M1 => match truth M1 x with
  | some true => .ok x M1
  | some false => q s M1
  | none => .stuck
def pNotV (p : PEx) : PEx := fun s M => (p s M).bind fun x M1 => match truth M1 x with
  | some b => .ok (.d (.bool (!b))) M1
  | none => .stuck
def pIfE (c : PTx) (p q : PEx) : PEx := fun s M => (c s M).bind fun b M1 => if b = true then p s M1 else q s M1
def pNeg (p : PEx) : PEx := fun s M => (p s M).bind fun x M1 => match x with
  | .d (.int i) => .ok (.d (.int (-i))) M1
  | _ => .stuck
section
variable {X : Cx} {w : WX} {a b c : Expr} {rest : List Expr} {pa pb : PEx} {ta tb : PTx} {pos : Pos}
theorem jt_tru (h : JE X w a pa) (he : ∀ whole, isTrue a X.env whole = (do let v ← whole; standAt a.pos; holding [v] (truthy v)) := by intro _; rfl) : JT X w a (pTru pa) := by
  obtain ⟨t, ea, sa⟩ := h
  refine ⟨_, pt_truth ea he, fun H0 Hb0 as Hb H M σ s r0 S Q gd => ?_⟩
  refine Good.bind sa r0 S gd fun x x' as1 Hb1 H1 M1 r1 f1 S1 w1 g1 => ?_
  cases e : truth M1 x' with
  | none => rw [e] at g1; exact g1.elim
  | some b => rw [e] at g1; exact ⟨b, truth_ok r1 w1 e, Good.ok g1 r1 rfl⟩
theorem jt_w (h : JW X w a ta) : JT X w a ta := let ⟨t, ea, sa⟩ := h; ⟨t, ea.pt, sa⟩
theorem jw_and1 (h : JT X w a ta) : JW X w (.BoolOp .And [a] pos) ta := let ⟨t, ea, sa⟩ := h; ⟨t, pw_and1 ea, sa⟩
theorem jw_or1 (h : JT X w a ta) : JW X w (.BoolOp .Or [a] pos) ta := let ⟨t, ea, sa⟩ := h; ⟨t, pw_or1 ea, sa⟩
theorem jw_and (ha : JT X w a ta) (hb : JW X w (.BoolOp .And (b :: rest) pos) tb) : JW X w (.BoolOp .And (a :: b :: rest) pos) (pAndT ta tb) := by
  obtain ⟨t, ea, sa⟩ := ha
  obtain ⟨u, eb, sb⟩ := hb
  refine ⟨_, pw_and ea eb, fun H0 Hb0 as Hb H M σ s r0 S Q gd => ?_⟩
  refine Good.bind sa r0 S gd fun x x' as1 Hb1 H1 M1 r1 f1 S1 w1 g1 => ?_
  obtain rfl : x = x' := w1
  cases x with
  | true => rw [if_pos rfl] at g1 ⊢; exact sb _ _ _ _ _ _ _ _ r1 S1 Q g1
  | false => rw [if_neg Bool.false_ne_true] at g1 ⊢; exact Good.ok g1 r1 rfl
theorem jw_or (ha : JT X w a ta) (hb : JW X w (.BoolOp .Or (b :: rest) pos) tb) : JW X w (.BoolOp .Or (a :: b :: rest) pos) (pOrT ta tb) := by
  obtain ⟨t, ea, sa⟩ := ha
  obtain ⟨u, eb, sb⟩ := hb
  refine ⟨_, pw_or ea eb, fun H0 Hb0 as Hb H M σ s r0 S Q gd => ?_⟩
  refine Good.bind sa r0 S gd fun x x' as1 Hb1 H1 M1 r1 f1 S1 w1 g1 => ?_
  obtain rfl : x = x' := w1
  cases x with
  | true => rw [if_pos rfl] at g1 ⊢; exact Good.ok g1 r1 rfl
  | false => rw [if_neg Bool.false_ne_true] at g1 ⊢; exact sb _ _ _ _ _ _ _ _ r1 S1 Q g1
theorem jt_not (ha : JT X w a ta) : JT X w (.UnaryOp .Not a pos) (pNotT ta) := by
  obtain ⟨t, ea, sa⟩ := ha
  refine ⟨_, pt_not ea, fun H0 Hb0 as Hb H M σ s r0 S Q gd => ?_⟩
  refine Good.bind sa r0 S gd fun x x' as1 Hb1 H1 M1 r1 f1 S1 w1 g1 => ?_
  obtain rfl : x = x' := w1
  exact Good.ok g1 r1 rfl
theorem je_and1 (h : JE X w a pa) : JE X w (.BoolOp .And [a] pos) pa := let ⟨t, ea, sa⟩ := h; ⟨t, pe_one ea, sa⟩
theorem je_or1 (h : JE X w a pa) : JE X w (.BoolOp .Or [a] pos) pa := let ⟨t, ea, sa⟩ := h; ⟨t, pe_one ea, sa⟩
theorem je_and (ha : JE X w a pa) (hb : JE X w (.BoolOp .And (b :: rest) pos) pb) : JE X w (.BoolOp .And (a :: b :: rest) pos) (pAndV pa pb) := by
  obtain ⟨t, ea, sa⟩ := ha
  obtain ⟨u, eb, sb⟩ := hb
  refine ⟨_, pe_andT ea eb, fun H0 Hb0 as Hb H M σ s r0 S Q gd => ?_⟩
  refine Good.bind sa r0 S gd fun x x' as1 Hb1 H1 M1 r1 f1 S1 w1 g1 => ?_
  cases e : truth M1 x' with
  | none => rw [e] at g1; exact g1.elim
  | some k =>
    refine ⟨k, truth_ok r1 w1 e, ?_⟩
    rw [e] at g1
    cases k with
    | true => rw [if_pos rfl]; exact sb _ _ _ _ _ _ _ _ r1 S1 Q g1
    | false => rw [if_neg Bool.false_ne_true]; exact Good.ok g1 r1 w1
theorem je_orv (ha : JE X w a pa) (hb : JE X w (.BoolOp .Or (b :: rest) pos) pb) : JE X w (.BoolOp .Or (a :: b :: rest) pos) (pOrV pa pb) := by
  obtain ⟨t, ea, sa⟩ := ha
  obtain ⟨u, eb, sb⟩ := hb
  refine ⟨_, pe_orT ea eb, fun H0 Hb0 as Hb H M σ s r0 S Q gd => ?_⟩
  refine Good.bind sa r0 S gd fun x x' as1 Hb1 H1 M1 r1 f1 S1 w1 g1 => ?_
  cases e : truth M1 x' with
  | none => rw [e] at g1; exact g1.elim
  | some k =>
    refine ⟨k, truth_ok r1 w1 e, ?_⟩
    rw [e] at g1
    cases k with
    | true => rw [if_pos rfl]; exact Good.ok g1 r1 w1
    | false => rw [if_neg Bool.false_ne_true]; exact sb _ _ _ _ _ _ _ _ r1 S1 Q g1
theorem je_not (ha : JE X w a pa) : JE X w (.UnaryOp .Not a pos) (pNotV pa) := by
  obtain ⟨t, ea, sa⟩ := ha
  refine ⟨_, pe_notT ea, fun H0 Hb0 as Hb H M σ s r0 S Q gd => ?_⟩
  refine Good.bind sa r0 S gd fun x x' as1 Hb1 H1 M1 r1 f1 S1 w1 g1 => ?_
  cases e : truth M1 x' with
  | none => rw [e] at g1; exact g1.elim
  | some k => rw [e] at g1; exact ⟨k, truth_ok r1 w1 e, Good.ok g1 r1 (wr_bl _)⟩
/-- not t as a value, by t's test -/
theorem je_neg (ha : JE X w a pa) : JE X w (.UnaryOp .USub a pos) (pNeg pa) := by
  obtain ⟨t, ea, sa⟩ := ha
  refine ⟨_, pe_un un_neg ea, fun H0 Hb0 as Hb H M σ s r0 S Q gd => ?_⟩
  refine Good.bind sa r0 S gd fun x x' as1 Hb1 H1 M1 r1 f1 S1 w1 g1 => ?_
  cases x' with
  | d z =>
    cases z with
    | int i =>
      obtain rfl := wr_int_of w1
      exact ⟨i, rfl, Good.ok g1 r1 (wr_int _)⟩
    | _ => exact (show False from g1).elim
  | r i => exact (show False from g1).elim
  | k u => exact (show False from g1).elim
theorem je_if (hc : JT X w c ta) (ha : JE X w a pa) (hb : JE X w b pb) : JE X w (.IfExp c a b pos) (pIfE ta pa pb) := by
  obtain ⟨t, ec, sc⟩ := hc
  obtain ⟨u, ea, sa⟩ := ha
  obtain ⟨u', eb, sb⟩ := hb
  refine ⟨_, pe_ifExp ec ea eb, fun H0 Hb0 as Hb H M σ s r0 S Q gd => ?_⟩
  refine Good.bind sc r0 S gd fun x x' as1 Hb1 H1 M1 r1 f1 S1 w1 g1 => ?_
  obtain rfl : x = x' := w1
  cases x with
  | true => rw [if_pos rfl] at g1 ⊢; exact sa _ _ _ _ _ _ _ _ r1 S1 Q g1
  | false => rw [if_neg Bool.false_ne_true] at g1 ⊢; exact sb _ _ _ _ _ _ _ _ r1 S1 Q g1
end

/-! ### statements -/
def pSeq (p q : PSx) : PSx := fun s M => match p s M with
  | .nx s1 M1 => q s1 M1
  | o => o
def pNext : PSx := fun s M => .nx s M
def pIf (c : PTx) (p q : PSx) : PSx := fun s M => (c s M).to s fun b M1 => if b = true then p s M1 else q s M1
def pSet (i : Nat) (p : PEx) : PSx := fun s M => (p s M).to s fun x M1 => .nx (s.set i (some x)) M1
def pDrop (p : PEx) : PSx := fun s M => (p s M).to s fun _ M1 => .nx s M1
def pRet (p : PEx) : PSx := fun s M => (p s M).to s fun x M1 => .rt x M1
def pRetN : PSx := fun _ M => .rt (.d .none) M
def pBrk : PSx := fun s M => .bk s M
def pCnt : PSx := fun s M => .ct s M
section
variable {X : Cx} {w : WX} {st : Stmt} {sts : List Stmt} {p q : PSx} {e : Expr} {pe : PEx} {pos : Pos}
theorem jss_nil : JSs X w [] pNext := ⟨_, pss_nil, fun H0 Hb0 as Hb H M σ s r S D g => g.nx r S⟩
theorem js_pass : JS X w (.Pass pos) pNext := ⟨_, ps_pass, fun H0 Hb0 as Hb H M σ s r S D g => g.nx r S⟩
theorem js_brk : JS X w (.Break pos) pBrk := ⟨_, ps_break, fun H0 Hb0 as Hb H M σ s r S D g => g σ as Hb H r Fut.refl S⟩
theorem js_cnt : JS X w (.Continue pos) pCnt := ⟨_, ps_continue, fun H0 Hb0 as Hb H M σ s r S D g => g σ as Hb H r Fut.refl S⟩
theorem sim_seq {K : PySem.W.Frag} {mg : Str → Option Value} {t u : TS} (s1 : SimS K mg w t p) (s2 : SimS K mg w u q) : SimS K mg w (tSeq t u) (pSeq p q) := by
  intro H0 Hb0 as Hb H M σ s r S D g
  refine s1 H0 Hb0 as Hb H M σ s r S { D with nx := u D } ?_
  unfold pSeq at g
  cases h : p s M with
  | nx s' M' =>
    rw [h] at g
    exact fun σ' as' Hb' H' r' f' S' => s2 H0 Hb0 as' Hb' H' M' σ' s' r' S' D (GoodS.mono f' g)
  | rt x M' => rw [h] at g; exact g
  | bk s' M' => rw [h] at g; exact g
  | ct s' M' => rw [h] at g; exact g
  | exc e s' M' => rw [h] at g; exact g
  | stuck => rw [h] at g; exact g
theorem jss_cons (h1 : JS X w st p) (h2 : JSs X w sts q) : JSs X w (st :: sts) (pSeq p q) := by
  obtain ⟨t, e1, s1⟩ := h1
  obtain ⟨u, e2, s2⟩ := h2
  exact ⟨_, pss_cons e1 e2, sim_seq s1 s2⟩
theorem jss_one (h1 : JS X w st p) : JSs X w [st] p := let ⟨t, e1, s1⟩ := h1; ⟨t, pss_one e1, s1⟩
theorem js_expr (h : JE X w e pe) (hs : swapsWith e none pos.line X.env = pure false := by rfl) : JS X w (.Expr e pos) (pDrop pe) := by
  obtain ⟨t, e1, s1⟩ := h
  refine ⟨_, ps_expr e1 hs, fun H0 Hb0 as Hb H M σ s r S D g => ?_⟩
  exact GoodS.bind s1 r S g fun x x' as1 Hb1 H1 M1 r1 f1 S1 w1 g1 => g1.nx r1 S1
theorem js_ret (h : JE X w e pe) : JS X w (.Return (some e) pos) (pRet pe) := by
  obtain ⟨t, e1, s1⟩ := h
  refine ⟨_, ps_ret e1, fun H0 Hb0 as Hb H M σ s r S D g => ?_⟩
  exact GoodS.bind s1 r S g fun x x' as1 Hb1 H1 M1 r1 f1 S1 w1 g1 => g1 x as1 Hb1 H1 r1 Fut.refl w1
theorem js_retN : JS X w (.Return none pos) pRetN := ⟨_, ps_retN, fun H0 Hb0 as Hb H M σ s r S D g => g .non as Hb H r Fut.refl wr_non⟩
theorem js_if {c : Expr} {a b : List Stmt} {pc : PTx} (hc : JT X w c pc) (ha : JSs X w a p) (hb : JSs X w b q) : JS X w (.If c a b pos) (pIf pc p q) := by
  obtain ⟨t, ec, sc⟩ := hc
  obtain ⟨u, ea, sa⟩ := ha
  obtain ⟨u', eb, sb⟩ := hb
  refine ⟨_, ps_if ec ea eb, fun H0 Hb0 as Hb H M σ s r S D g => ?_⟩
  refine GoodS.bind sc r S g fun x x' as1 Hb1 H1 M1 r1 f1 S1 w1 g1 => ?_
  obtain rfl : x = x' := w1
  cases x with
  | true => rw [if_pos rfl] at g1 ⊢; exact sa _ _ _ _ _ _ _ _ r1 S1 D g1
  | false => rw [if_neg Bool.false_ne_true] at g1 ⊢; exact sb _ _ _ _ _ _ _ _ r1 S1 D g1
/-- name = e -/
theorem js_set {i : Nat} {x : Str} {pos' : Pos} (hN : X.N.Nodup) (h : JE X w e pe) (hi : X.N[i]? = some x := by rfl) (hx : Loc X.env.scope x := by first | exact Or.inl rfl | exact Or.inr rfl) (hs : swapsWith e (some (.Name x pos')) pos.line X.env = pure false := by rfl)
    (hf : X.fn x = true ∨ X.env.scope.names.lookup x = some .local := by first | exact .inl rfl | exact .inr rfl) : JS X w (.Assign [.Name x pos'] e pos) (pSet i pe) := by
  obtain ⟨t, e1, s1⟩ := h
  refine ⟨_, ps_set hN hi hx e1 hs hf, fun H0 Hb0 as Hb H M σ s r S D g => ?_⟩
  exact GoodS.bind s1 r S g fun x x' as1 Hb1 H1 M1 r1 f1 S1 w1 g1 => g1.nx r1 (S1.set w1 i)
end

/-! ### targets -/
abbrev PGx := W → Sl → Ms → Option Sl
theorem wipe_set {σ : L2.St} {i : Nat} {o : Option V} : ∀ {vs : List Nat}, i ∈ vs → wipe (σ.set i o) vs = wipe σ vs
  | [], h => by cases h
  | v :: vs, h => by
    unfold wipe
    by_cases e : i ∈ vs
    · rw [wipe_set e]
    · have ev : v = i := by
        rcases List.mem_cons.mp h with z | z
        · exact z.symm
        · exact absurd z e
      subst ev
      have q : ∀ {us : List Nat}, v ∉ us → wipe (σ.set v o) us = (wipe σ us).set v o := by
        intro us
        induction us with
        | nil => intro _; rfl
        | cons u us ih =>
          intro hn
          have h1 : ¬ v = u := fun z => hn (by rw [z]; exact List.mem_cons_self)
          have h2 : v ∉ us := fun z => hn (List.mem_cons_of_mem _ z)
          unfold wipe
          rw [ih h2, List.set_comm _ _ h1]
      rw [q e, List.set_set]
def SimG (K : PySem.W.Frag) (t : TG) (p : PGx) (is : List Nat) : Prop :=
  ∀ (H0 Hb0 : Hp) (as : List Addr) (Hb H : Hp) (M : Ms) (σ : L2.St) (s s' : Sl) (x : W) (v : V), Rel K H0 Hb0 as Hb H M → Slots K as Hb σ s → WR K as Hb v x → p x s M = some s' → ∀ Q : L2.St → Hp → Prop,
    (∀ σ', Slots K as Hb σ' s' → (∀ vs : List Nat, (∀ i ∈ is, i ∈ vs) → wipe σ' vs = wipe σ vs) → Q σ' H) → t v σ H Q
def JG (X : Cx) (e : Expr) (p : PGx) (is : List Nat) : Prop := ∃ t, PG X e t ∧ SimG X.K t p is
def qName (i : Nat) : PGx := fun x s _ => some (s.set i (some x))
abbrev PGsx := List W → Sl → Ms → Option Sl
def SimGs (K : PySem.W.Frag) (t : TGs) (p : PGsx) (is : List Nat) : Prop :=
  ∀ (H0 Hb0 : Hp) (as : List Addr) (Hb H : Hp) (M : Ms) (σ : L2.St) (s s' : Sl) (xs : List W) (vs : List V), Rel K H0 Hb0 as Hb H M → Slots K as Hb σ s → WRs K as Hb vs xs → p xs s M = some s' → ∀ Q : L2.St → Hp → Prop,
    (∀ σ', Slots K as Hb σ' s' → (∀ vs : List Nat, (∀ i ∈ is, i ∈ vs) → wipe σ' vs = wipe σ vs) → Q σ' H) → t vs σ H Q
def JGs (X : Cx) (es : List Expr) (p : PGsx) (is : List Nat) : Prop := ∃ t, PGs X es t ∧ SimGs X.K t p is
def qNil : PGsx := fun xs s _ => match xs with
  | [] => some s
  | _ => none
def qCons (p : PGx) (q : PGsx) : PGsx := fun xs s M => match xs with
  | x :: r => (match p x s M with
    | some s1 => q r s1 M
    | none => none)
  | [] => none
def qTup (n : Nat) (q : PGsx) : PGx := fun x s M => match itemsT x with
  | some ws => if ws.length = n then q ws s M else none
  | none => none
section
variable {X : Cx} {w : WX} {e : Expr} {es : List Expr} {pg : PGx} {pgs : PGsx} {pe : PEx} {pos : Pos} {is js : List Nat}
theorem jg_name {i : Nat} {x : Str} (hN : X.N.Nodup) (hi : X.N[i]? = some x := by rfl) (hx : Loc X.env.scope x := by first | exact Or.inl rfl | exact Or.inr rfl) (hf : X.fn x = true ∨ X.env.scope.names.lookup x = some .local := by first | exact .inl rfl | exact .inr rfl) : JG X (.Name x pos) (qName i) [i] := by
  refine ⟨_, pg_name hN hi hx hf, fun H0 Hb0 as Hb H M σ s s' x v r S wr e Q q => ?_⟩
  simp only [qName, Option.some.injEq] at e
  subst e
  exact q _ (S.set wr i) fun vs h => wipe_set (h i (by simp))
theorem jgs_nil : JGs X [] qNil [] := by
  refine ⟨_, pgs_nil, fun H0 Hb0 as Hb H M σ s s' xs vs r S wr e Q q => ?_⟩
  cases wr with
  | nil =>
    simp only [qNil, Option.some.injEq] at e
    subst e
    exact ⟨rfl, q _ S fun _ _ => rfl⟩
  | cons _ _ => cases e
theorem jgs_cons (h1 : JG X e pg is) (h2 : JGs X es pgs js) (hs : (assignEach (e :: es) X.env).map (·.2) = assign e X.env :: (assignEach es X.env).map (·.2) := by rfl) : JGs X (e :: es) (qCons pg pgs) (is ++ js) := by
  obtain ⟨t, e1, s1⟩ := h1
  obtain ⟨u, e2, s2⟩ := h2
  refine ⟨_, pgs_cons e1 e2 hs, fun H0 Hb0 as Hb H M σ s s' xs vs r S wr e Q q => ?_⟩
  cases wr with
  | nil => cases e
  | cons h t =>
    rename_i v x vs xs
    simp only [qCons] at e
    cases hp : pg x s M with
    | none => rw [hp] at e; cases e
    | some sm =>
      rw [hp] at e
      exact ⟨_, _, rfl, s1 H0 Hb0 as Hb H M σ s sm x v r S h hp _ fun σ' S' w1 => s2 H0 Hb0 as Hb H M σ' sm s' xs vs r S' t e Q fun σ2 S2 w2 => q σ2 S2 fun us hu =>
        (w2 us fun i hi => hu i (List.mem_append_right _ hi)).trans (w1 us fun i hi => hu i (List.mem_append_left _ hi))⟩
theorem jg_tup {k : Nat} {n : Nat} (hc : X.calm = true) (h : JGs X es pgs is) (hn : (assignEach es X.env).length = n := by rfl) (hst : (assignEach es X.env).findIdx? (·.1) = none := by rfl) : JG X (.Tuple es k pos) (qTup n pgs) is := by
  obtain ⟨t, e1, s1⟩ := h
  refine ⟨_, pg_tup hc e1 hn hst, fun H0 Hb0 as Hb H M σ s s' x v r S wr e Q q => ?_⟩
  unfold qTup at e
  cases hi : itemsT x with
  | none => rw [hi] at e; cases e
  | some ws =>
    rw [hi] at e
    obtain ⟨a, vs, rfl, h1, wrs, z⟩ := itemsT_ok r wr hi
    by_cases hl : ws.length = n
    · simp only [hl, if_true] at e
      exact ⟨a, vs, rfl, h1, (Paired.len wrs).trans hl, s1 H0 Hb0 as Hb H M σ s s' ws vs r S wrs e Q q⟩
    · simp only [hl, if_false] at e
      cases e
/-- target = e -/
def pAsg (p : PEx) (g : PGx) : PSx := fun s M => (p s M).to s fun x M1 => match g x s M1 with
  | some s1 => .nx s1 M1
  | none => .stuck
theorem js_asg {tg : Expr} (he : JE X w e pe) (hg : JG X tg pg is) (hs : swapsWithSole [tg] e pos.line X.env = pure false := by rfl) (hw : swappedStores [tg] e X.env = pure none := by rfl)
    (h1 : (assignEach [tg] X.env).map (·.2) = [assign tg X.env] := by rfl) : JS X w (.Assign [tg] e pos) (pAsg pe pg) := by
  obtain ⟨t, e1, s1⟩ := he
  obtain ⟨u, e2, s2⟩ := hg
  refine ⟨_, ps_asg e1 e2 hs hw h1, fun H0 Hb0 as Hb H M σ s r S D g => ?_⟩
  refine GoodS.bind s1 r S g fun x x' as1 Hb1 H1 M1 r1 f1 S1 w1 g1 => ?_
  cases hp : pg x' s M1 with
  | none => rw [hp] at g1; exact g1.elim
  | some sm =>
    rw [hp] at g1
    exact s2 H0 Hb0 as1 Hb1 H1 M1 σ s sm x' x r1 S1 w1 hp _ fun σ' S' _ => g1.nx r1 S'
/-- xs[i] = e, xs a thing that changes -/
def pSub (p : PEx) (o i : PEx) : PSx := fun s M => (p s M).to s fun x M1 => (o s M1).to s fun y M2 => (i s M2).to s fun z M3 => match y, z with
  | .r n, .d (.int j) => (match M3[n]? with
    | some (.lst ws) => (match ixN ws.length j with
      | some k => .nx s (M3.set n (.lst (ws.set k x)))
      | none => .stuck)
    | _ => .stuck)
  | _, _ => .stuck
theorem js_sub {o i : Expr} {po pi : PEx} {pos' : Pos} (he : JE X w e pe) (ho : JE X w o po) (hi : JE X w i pi) (hs : swapsWithSole [.Subscript o i pos'] e pos.line X.env = pure false := by rfl) (hw : swappedStores [.Subscript o i pos'] e X.env = pure none := by rfl)
    (h1 : (assignEach [.Subscript o i pos'] X.env).map (·.2) = [assign (.Subscript o i pos') X.env] := by rfl)
    (ha : ∀ v, assign (.Subscript o i pos') X.env v = (do
      let ov ← holding [v] (eval o X.env)
      let iv ← holding [v, ov] (eval i X.env)
      standAt pos'
      holding [v, ov, iv] (setItem ov iv v)
      release [v, ov, iv] []) := by intro _; rfl) : JS X w (.Assign [.Subscript o i pos'] e pos) (pSub pe po pi) := by
  obtain ⟨t, e1, s1⟩ := he
  obtain ⟨u, e2, s2⟩ := ho
  obtain ⟨u', e3, s3⟩ := hi
  refine ⟨_, ps_asg e1 (pg_sub e2 e3 set_list ha) hs hw h1, fun H0 Hb0 as Hb H M σ s r S D g => ?_⟩
  refine GoodS.bind s1 r S g fun x x' as1 Hb1 H1 M1 r1 f1 S1 w1 g1 => ?_
  refine GoodS.bind s2 r1 S1 g1 fun y y' as2 Hb2 H2 M2 r2 f2 S2 w2 g2 => ?_
  refine GoodS.bind s3 r2 S2 g2 fun z z' as3 Hb3 H3 M3 r3 f3 S3 w3 g3 => ?_
  have w1' := WR.mono (f2.trans f3) w1
  have w2' := WR.mono f3 w2
  cases y' with
  | d _ => exact (show False from g3).elim
  | k _ => exact (show False from g3).elim
  | r n =>
    obtain ⟨q, hq, rfl⟩ := w2'
    cases z' with
    | r _ => exact (show False from g3).elim
    | k _ => exact (show False from g3).elim
    | d zz =>
      cases zz with
      | int j =>
        obtain rfl := wr_int_of w3
        cases hm : M3[n]? with
        | none => simp only [hm] at g3; exact g3.elim
        | some mo =>
          cases mo with
          | lst ws =>
            simp only [hm] at g3
            cases hk : ixN ws.length j with
            | none => simp only [hk] at g3; exact g3.elim
            | some k =>
              simp only [hk] at g3
              obtain ⟨zl, vs, h2, h3⟩ := r3.at' n q _ hq hm
              refine ⟨q, vs, j, k, rfl, rfl, h2, by rw [Paired.len h3]; exact hk, ?_⟩
              refine g3.nx (r3.setMut hq hm rfl ⟨by rw [List.length_set]; exact zl, _, upd_same, Paired.put w1' k h3⟩) S3
          | ins _ _ => simp only [hm] at g3; exact g3.elim
          | dic _ _ => simp only [hm] at g3; exact g3.elim
          | dlk _ _ => simp only [hm] at g3; exact g3.elim
          | gone => simp only [hm] at g3; exact g3.elim
      | _ => exact (show False from g3).elim
end
end Z

set_option linter.all false
set_option autoImplicit false
set_option maxRecDepth 100000
set_option maxHeartbeats 4000000
namespace Z
open PySem PySem.Spec PyProof.Rows L2

/-! ### what is walked -/
def ItOk (K : PySem.W.Frag) (J : It) (ws : List W) (as : List Addr) (Hb : Hp) : Prop :=
  ∀ (H0 Hb0 : Hp) (as' : List Addr) (Hb' H' : Hp) (M' : Ms), Rel K H0 Hb0 as' Hb' H' M' → Fut as Hb as' Hb' → ∀ i,
    (∀ x, ws[i]? = some x → J.go i H' ∧ ∀ v H2, J.yld i H' v H2 → ∃ Hb2, Rel K H0 Hb0 as' Hb2 H2 M' ∧ Fut as' Hb' as' Hb2 ∧ WR K as' Hb2 v x) ∧ (ws[i]? = none → J.stop i H')
def repI (K : PySem.W.Frag) : Rep It (List W) := fun _ as Hb _ J ws => ItOk K J ws as Hb
def JI (X : Cx) (w : WX) (tg iter : Expr) (p : PAx) : Prop := ∃ wi, PI X tg iter wi ∧ Sim (repI X.K) X.K X.mg w wi p
/-- the items of a list, a tuple that is data -/
def pItL (p : PEx) : PAx := fun s M => (p s M).bind fun x M1 => match x with
  | .d (.list ds) => .ok (ds.map .d) M1
  | _ => .stuck
def pItT (p : PEx) : PAx := fun s M => (p s M).bind fun x M1 => match x with
  | .d (.tuple ds) => .ok (ds.map .d) M1
  | _ => .stuck
def rngW (lo : Int) (n : Nat) : List W := (List.range n).map fun i => .d (.int (lo + (i : Nat)))
def pRng1 (p : PEx) : PAx := fun s M => (p s M).bind fun x M1 => match x with
  | .d (.int j) => if -(2 ^ 62) ≤ j ∧ j < 2 ^ 62 then .ok (rngW 0 j.toNat) M1 else .stuck
  | _ => .stuck
def pRng2 (p q : PEx) : PAx := fun s M => (p s M).bind fun x M1 => (q s M1).bind fun y M2 => match x, y with
  | .d (.int i), .d (.int j) => if -(2 ^ 62) ≤ i ∧ i < 2 ^ 62 ∧ -(2 ^ 62) ≤ j ∧ j < 2 ^ 62 then .ok (rngW i (j - i).toNat) M2 else .stuck
  | _, _ => .stuck
def pItS (p : PEx) : PAx := fun s M => (p s M).bind fun x M1 => match x with
  | .d (.str z) => .ok (z.cps.toList.map fun c => .d (.str ⟨#[c]⟩)) M1
  | _ => .stuck
section
variable {X : Cx} {w : WX} {tg l l2 : Expr} {p q : PEx} {pos ps : Pos}
theorem map_at {α β : Type} {f : α → β} {xs : List α} {i : Nat} {y : β} (h : (xs.map f)[i]? = some y) : ∃ x, xs[i]? = some x ∧ f x = y := by
  rw [List.getElem?_map, Option.map_eq_some_iff] at h
  exact h
theorem ji_list (h : JE X w l p) : JI X w tg l (pItL p) := by
  obtain ⟨t, e1, s1⟩ := h
  refine ⟨_, pi_list e1, fun H0 Hb0 as Hb H M σ s r S Q g => ?_⟩
  refine Good.bind s1 r S g fun x x' as1 Hb1 H1 M1 r1 f1 S1 w1 g1 => ?_
  cases x' with
  | r i => exact (show False from g1).elim
  | k u => exact (show False from g1).elim
  | d z =>
    cases z with
    | list ds =>
      obtain ⟨h1, ff⟩ := w1
      cases h1 with
      | lst hs ha =>
        rename_i a vs
        have dz := dzAll_of ha ff.2
        refine ⟨a, rfl, ⟨_, SqL.of (r1.sub _ _ hs)⟩, Good.ok g1 r1 fun H0' Hb0' as' Hb' H' M' r' f' i => ⟨fun x hx => ?_, fun hx => ?_⟩⟩
        · have hs' : H' a = some (.lst vs) := r'.sub _ _ (f'.ex _ _ hs)
          obtain ⟨d, hd, rfl⟩ := map_at hx
          obtain ⟨v, hv, dv⟩ := Paired.at dz hd
          refine ⟨⟨vs, v, SqL.of hs', hv⟩, fun v2 H2 hy => ?_⟩
          obtain ⟨rfl, hy⟩ := hy
          have e : v2 = v := by
            have z := hy vs (SqL.of hs')
            rw [hv] at z; exact (Option.some.inj z).symm
          subst e
          exact ⟨Hb', r', Fut.refl, Dz.mono f'.ex dv⟩
        · refine ⟨vs, SqL.of (r'.sub _ _ (f'.ex _ _ hs)), ?_⟩
          rw [List.getElem?_eq_none_iff, List.length_map] at hx
          rw [Paired.len dz]; exact hx
    | _ => exact (show False from g1).elim
theorem ji_tup (h : JE X w l p) : JI X w tg l (pItT p) := by
  obtain ⟨t, e1, s1⟩ := h
  refine ⟨_, pi_tup e1, fun H0 Hb0 as Hb H M σ s r S Q g => ?_⟩
  refine Good.bind s1 r S g fun x x' as1 Hb1 H1 M1 r1 f1 S1 w1 g1 => ?_
  cases x' with
  | r i => exact (show False from g1).elim
  | k u => exact (show False from g1).elim
  | d z =>
    cases z with
    | tuple ds =>
      obtain ⟨h1, ff⟩ := w1
      cases h1 with
      | tup hs ha =>
        rename_i a vs
        have dz := dzAll_of ha ff.2
        refine ⟨a, rfl, ⟨_, same_t r1.sub hs⟩, Good.ok g1 r1 fun H0' Hb0' as' Hb' H' M' r' f' i => ⟨fun x hx => ?_, fun hx => ?_⟩⟩
        · have hs' : SqT X.K H' a vs := same_t r'.sub (same_t f'.ex hs)
          obtain ⟨d, hd, rfl⟩ := map_at hx
          obtain ⟨v, hv, dv⟩ := Paired.at dz hd
          refine ⟨⟨vs, v, hs', hv⟩, fun v2 H2 hy => ?_⟩
          obtain ⟨rfl, hy⟩ := hy
          have e : v2 = v := by
            have z := hy vs hs'
            rw [hv] at z; exact (Option.some.inj z).symm
          subst e
          exact ⟨Hb', r', Fut.refl, Dz.mono f'.ex dv⟩
        · refine ⟨vs, same_t r'.sub (same_t f'.ex hs), ?_⟩
          rw [List.getElem?_eq_none_iff, List.length_map] at hx
          rw [Paired.len dz]; exact hx
    | _ => exact (show False from g1).elim
theorem itr_ok (K : PySem.W.Frag) (lo : Int) (n : Nat) (as : List Addr) (Hb : Hp) : ItOk K (Itr lo n) (rngW lo n) as Hb := fun H0' Hb0' as' Hb' H' M' r' f' i => ⟨fun x hx => by
    obtain ⟨d, hd, rfl⟩ := map_at hx
    obtain ⟨hi, e⟩ := List.getElem?_eq_some_iff.mp hd
    rw [List.length_range] at hi
    rw [List.getElem_range] at e
    subst e
    exact ⟨hi, fun v2 H2 hy => ⟨Hb', by rw [hy.1]; exact r', Fut.refl, by rw [hy.2]; exact wr_int _⟩⟩, fun hx => by
    rw [List.getElem?_eq_none_iff, rngW, List.length_map, List.length_range] at hx
    exact hx⟩
theorem ji_rng1 (hm : X.mg "range" = none) (h : JE X w l p) (hg : Gl X "range" := by rfl) (hs : starEach (l :: []) X.env = (false, eval l X.env) :: starEach [] X.env := by rfl) (hs2 : starEach [l] X.env = [(false, eval l X.env)] := by rfl) : JI X w tg (.Call (.Name "range" ps) [l] [] pos) (pRng1 p) := by
  obtain ⟨t, e1, s1⟩ := h
  refine ⟨_, pi_range1 hg hm (pa_cons e1 pa_nil hs) hs2, fun H0 Hb0 as Hb H M σ s r S Q g => ?_⟩
  refine Good.bind s1 r S g fun x x' as1 Hb1 H1 M1 r1 f1 S1 w1 g1 => ?_
  cases x' with
  | r i => exact (show False from g1).elim
  | k u => exact (show False from g1).elim
  | d z =>
    cases z with
    | int j =>
      obtain rfl := wr_int_of w1
      by_cases hc : -(2 ^ 62) ≤ j ∧ j < 2 ^ 62
      · simp only [hc, and_self, if_true] at g1
        exact ⟨j, rfl, hc.1, hc.2, Good.ok g1 r1 (itr_ok X.K 0 j.toNat as1 Hb1)⟩
      · simp only [hc, if_false] at g1
        exact g1.elim
    | _ => exact (show False from g1).elim
theorem ji_rng2 (hm : X.mg "range" = none) (h : JE X w l p) (h2 : JE X w l2 q) (hg : Gl X "range" := by rfl) (hs : starEach (l :: [l2]) X.env = (false, eval l X.env) :: starEach [l2] X.env := by rfl) (hs2 : starEach (l2 :: []) X.env = (false, eval l2 X.env) :: starEach [] X.env := by rfl)
    (hs3 : starEach [l, l2] X.env = [(false, eval l X.env), (false, eval l2 X.env)] := by rfl) (hs4 : starEach [l2] X.env = [(false, eval l2 X.env)] := by rfl) : JI X w tg (.Call (.Name "range" ps) [l, l2] [] pos) (pRng2 p q) := by
  obtain ⟨t, e1, s1⟩ := h
  obtain ⟨u, e2, s2⟩ := h2
  refine ⟨_, pi_range2 hg hm (pa_cons e1 (pa_cons e2 pa_nil hs2) hs) hs3 hs4, fun H0 Hb0 as Hb H M σ s r S Q g => ?_⟩
  refine Good.bind s1 r S g fun x x' as1 Hb1 H1 M1 r1 f1 S1 w1 g1 => ?_
  refine Good.bind s2 r1 S1 g1 fun y y' as2 Hb2 H2 M2 r2 f2 S2 w2 g2 => ?_
  cases x' with
  | r i => cases y' <;> exact (show False from g2).elim
  | k u => cases y' <;> exact (show False from g2).elim
  | d z =>
    cases z with
    | int i =>
      obtain rfl := wr_int_of w1
      cases y' with
      | r i => exact (show False from g2).elim
      | k u => exact (show False from g2).elim
      | d z =>
        cases z with
        | int j =>
          obtain rfl := wr_int_of w2
          by_cases hc : -(2 ^ 62) ≤ i ∧ i < 2 ^ 62 ∧ -(2 ^ 62) ≤ j ∧ j < 2 ^ 62
          · simp only [hc, and_self, if_true] at g2
            exact ⟨i, j, rfl, hc, Good.ok g2 r2 (itr_ok X.K i (j - i).toNat as2 Hb2)⟩
          · simp only [hc, if_false] at g2
            exact g2.elim
        | _ => exact (show False from g2).elim
    | _ => cases y' <;> exact (show False from g2).elim
theorem ji_str (h : JE X w l p) : JI X w tg l (pItS p) := by
  obtain ⟨t, e1, s1⟩ := h
  refine ⟨_, pi_str e1, fun H0 Hb0 as Hb H M σ s r S Q g => ?_⟩
  refine Good.bind s1 r S g fun x x' as1 Hb1 H1 M1 r1 f1 S1 w1 g1 => ?_
  cases x' with
  | r i => exact (show False from g1).elim
  | k u => exact (show False from g1).elim
  | d z =>
    cases z with
    | str z =>
      obtain ⟨rfl, zl⟩ := wr_str_of w1
      refine ⟨z, rfl, Good.ok g1 r1 fun H0' Hb0' as' Hb' H' M' r' f' i => ⟨fun x hx => ?_, fun hx => ?_⟩⟩
      · obtain ⟨c, hc, rfl⟩ := map_at hx
        rw [Array.getElem?_toList] at hc
        obtain ⟨hi, _⟩ := Array.getElem?_eq_some_iff.mp hc
        refine ⟨hi, fun v2 H2 hy => ?_⟩
        obtain ⟨rfl, c', h1, rfl⟩ := hy
        rw [hc] at h1
        cases h1
        exact ⟨Hb', r', Fut.refl, wr_str (one_fits c)⟩
      · rw [List.getElem?_eq_none_iff, List.length_map, Array.length_toList] at hx
        exact hx
    | _ => exact (show False from g1).elim
end

/-! ### for, while -/
def forL (g : PGx) (b : PSx) : List W → Sl → Ms → O
  | [], s, M => .nx s M
  | x :: ws, s, M => match g x s M with
    | none => .stuck
    | some s1 => match b s1 M with
      | .nx s2 M2 => forL g b ws s2 M2
      | .ct s2 M2 => forL g b ws s2 M2
      | .bk s2 M2 => .nx s2 M2
      | .rt x M2 => .rt x M2
      | .exc e s2 M2 => .exc e s2 M2
      | .stuck => .stuck
def pFor (it : PAx) (g : PGx) (b : PSx) : PSx := fun s M => (it s M).to s fun ws M1 => forL g b ws s M1
def whileL (c : PTx) (b : PSx) : Nat → Sl → Ms → O
  | 0, _, _ => .stuck
  | n + 1, s, M => (c s M).to s fun k M1 => if k = true then (match b s M1 with
      | .nx s2 M2 => whileL c b n s2 M2
      | .ct s2 M2 => whileL c b n s2 M2
      | .bk s2 M2 => .nx s2 M2
      | .rt x M2 => .rt x M2
      | .exc e s2 M2 => .exc e s2 M2
      | .stuck => .stuck) else .nx s M1
def pWhile (fuel : Sl → Ms → Nat) (c : PTx) (b : PSx) : PSx := fun s M => whileL c b (fuel s M) s M
section
variable {X : Cx} {w : WX} {tg iter c : Expr} {body : List Stmt} {it : PAx} {pg : PGx} {pb : PSx} {pc : PTx} {pos : Pos} {is : List Nat}
theorem js_for (hp : PassesOwn (model X.prog X.w) X.A X.env X.xe) (hc : X.calm = true) (hi : JI X w tg iter it) (hg : JG X tg pg is) (hb : JSs X w body pb) (hs : ∀ x, foldedSetIterable iter X.env x = pure x := by intro _; rfl) : JS X w (.For tg iter body [] pos) (pFor it pg pb) := by
  obtain ⟨wi, ei, si⟩ := hi
  obtain ⟨t, eg, sg⟩ := hg
  obtain ⟨u, eb, sb⟩ := hb
  refine ⟨_, ps_for hp hc ei eg eb hs, fun H0 Hb0 as Hb H M σ s r S D g => ?_⟩
  refine GoodS.bind si r S g fun J ws as1 Hb1 H1 M1 r1 f1 S1 io g1 => ?_
  refine ⟨fun i m σ' H' => m = ws.length - i ∧ i ≤ ws.length ∧ ∃ as' Hb' s' M', Rel X.K H0 Hb0 as' Hb' H' M' ∧ Fut as1 Hb1 as' Hb' ∧ Slots X.K as' Hb' σ' s' ∧ GoodS X.K X.mg w H0 Hb0 as' Hb' D (forL pg pb (ws.drop i) s' M'),
    ⟨ws.length, by simp, Nat.zero_le _, as1, Hb1, s, M1, r1, Fut.refl, S1, by simpa using g1⟩, ?_⟩
  rintro i m σ' H' ⟨rfl, hi, as', Hb', s', M', r', f', S', g'⟩
  obtain ⟨io1, io2⟩ := io H0 Hb0 as' Hb' H' M' r' f' i
  by_cases hlt : i < ws.length
  · have hx : ws[i]? = some ws[i] := List.getElem?_eq_getElem hlt
    obtain ⟨go, yl⟩ := io1 _ hx
    rw [List.drop_eq_getElem_cons hlt] at g'
    refine .inr ⟨go, fun σ2 H2 => ∃ as2 Hb2 s2 M2, Rel X.K H0 Hb0 as2 Hb2 H2 M2 ∧ Fut as1 Hb1 as2 Hb2 ∧ Slots X.K as2 Hb2 σ2 s2 ∧ GoodS X.K X.mg w H0 Hb0 as2 Hb2 D (forL pg pb (ws.drop (i + 1)) s2 M2), fun σ2 H2 z => ⟨ws.length - (i + 1), by omega, rfl, hlt, z⟩, fun v H2 hy => ?_⟩
    obtain ⟨Hb2, r2, f2, w2⟩ := yl v H2 hy
    have S2 := S'.mono f2
    cases hg : pg ws[i] s' M' with
    | none => rw [forL, hg] at g'; exact g'.elim
    | some s1 =>
      refine sg H0 Hb0 as' Hb2 H2 M' σ' s' s1 ws[i] v r2 S2 w2 hg _ fun σ3 S3 _ => ?_
      refine sb H0 Hb0 as' Hb2 H2 M' σ3 s1 r2 S3 _ ?_
      rw [forL, hg] at g'
      have g2 := GoodS.mono f2 g'
      cases hb : pb s1 M' with
      | nx s4 M4 =>
        simp only [hb] at g2
        exact fun σ4 as4 Hb4 H4 r4 f4 S4 => ⟨as4, Hb4, s4, M4, r4, (f'.trans f2).trans f4, S4, GoodS.mono f4 g2⟩
      | ct s4 M4 =>
        simp only [hb] at g2
        exact fun σ4 as4 Hb4 H4 r4 f4 S4 => ⟨as4, Hb4, s4, M4, r4, (f'.trans f2).trans f4, S4, GoodS.mono f4 g2⟩
      | bk s4 M4 => simp only [hb] at g2; exact g2
      | rt x4 M4 => simp only [hb] at g2; exact g2
      | exc e s4 M4 => simp only [hb] at g2; exact g2
      | stuck => simp only [hb] at g2; exact g2.elim
  · have e : i = ws.length := by omega
    subst e
    have hn : ws[ws.length]? = none := List.getElem?_eq_none_iff.mpr (Nat.le_refl _)
    rw [List.drop_length, forL] at g'
    exact .inl ⟨io2 hn, g'.nx r' S'⟩
theorem js_while (hp : PassesOwn (model X.prog X.w) X.A X.env X.xe) (fuel : Sl → Ms → Nat) (hc : JT X w c pc) (hb : JSs X w body pb) : JS X w (.While c body [] pos) (pWhile fuel pc pb) := by
  obtain ⟨t, ec, sc⟩ := hc
  obtain ⟨u, eb, sb⟩ := hb
  refine ⟨_, ps_while hp ec eb, fun H0 Hb0 as Hb H M σ s r S D g => ?_⟩
  refine ⟨fun m σ' H' => ∃ as' Hb' s' M', Rel X.K H0 Hb0 as' Hb' H' M' ∧ Fut as Hb as' Hb' ∧ Slots X.K as' Hb' σ' s' ∧ GoodS X.K X.mg w H0 Hb0 as' Hb' D (whileL pc pb m s' M'), ⟨fuel s M, as, Hb, s, M, r, Fut.refl, S, g⟩, ?_⟩
  rintro m σ' H' ⟨as', Hb', s', M', r', f', S', g'⟩
  cases m with
  | zero => exact (show False from g').elim
  | succ n =>
    refine GoodS.bind sc r' S' g' fun b b' as1 Hb1 H1 M1 r1 f1 S1 w1 g1 => ?_
    obtain rfl : b = b' := w1
    cases b with
    | false => rw [if_neg Bool.false_ne_true] at g1 ⊢; exact g1.nx r1 S1
    | true =>
      rw [if_pos rfl] at g1 ⊢
      refine ⟨fun σ2 H2 => ∃ as2 Hb2 s2 M2, Rel X.K H0 Hb0 as2 Hb2 H2 M2 ∧ Fut as Hb as2 Hb2 ∧ Slots X.K as2 Hb2 σ2 s2 ∧ GoodS X.K X.mg w H0 Hb0 as2 Hb2 D (whileL pc pb n s2 M2), fun σ2 H2 z => ⟨n, Nat.lt_succ_self n, z⟩, ?_⟩
      refine sb H0 Hb0 as1 Hb1 H1 M1 σ' s' r1 S1 _ ?_
      cases hb : pb s' M1 with
      | nx s4 M4 =>
        simp only [hb] at g1
        exact fun σ4 as4 Hb4 H4 r4 f4 S4 => ⟨as4, Hb4, s4, M4, r4, (f'.trans f1).trans f4, S4, GoodS.mono f4 g1⟩
      | ct s4 M4 =>
        simp only [hb] at g1
        exact fun σ4 as4 Hb4 H4 r4 f4 S4 => ⟨as4, Hb4, s4, M4, r4, (f'.trans f1).trans f4, S4, GoodS.mono f4 g1⟩
      | bk s4 M4 => simp only [hb] at g1; exact g1
      | rt x4 M4 => simp only [hb] at g1; exact g1
      | exc e s4 M4 => simp only [hb] at g1; exact g1
      | stuck => simp only [hb] at g1; exact g1.elim
end

/-! ### comprehensions -/
def wipeS (s : Sl) : List Nat → Sl
  | [] => s
  | v :: vs => (wipeS s vs).set v none
theorem slots_wipe {K : PySem.W.Frag} {as : List Addr} {Hb : Hp} {σ : L2.St} {s : Sl} (S : Slots K as Hb σ s) : ∀ vs : List Nat, Slots K as Hb (wipe σ vs) (wipeS s vs)
  | [] => S
  | v :: vs => (slots_wipe S vs).unset none v
/-- nothing is raised here -/
def wNone : WX := fun _ _ _ _ => False
def R.bindN {α β : Type} (r : R α) (f : α → Ms → R β) : R β := match r with
  | .ok a m => f a m
  | _ => .stuck
def lcL (g : PGx) (tt : PTx) (te : PEx) (s : Sl) : List W → List W → Ms → R (List W)
  | [], acc, M => .ok acc M
  | x :: ws, acc, M => match g x s M with
    | none => .stuck
    | some s1 => (tt s1 M).bindN fun b M1 => if b = true then (te s1 M1).bindN fun y M2 => lcL g tt te s ws (acc ++ [y]) M2 else lcL g tt te s ws acc M1
def pLc (it : PAx) (g : PGx) (tt : PTx) (te : PEx) (vs : List Nat) : PAx := fun s M => (it s M).bind fun ws M1 => if ws.length ≤ sizeLine then lcL g tt te (wipeS s vs) ws [] M1 else .stuck
/-- the reading that a plain function stands for -/
def canon {β α : Type} (rep : Rep β α) (K : PySem.W.Frag) (mg : Str → Option Value) (w : WX) (p : Sl → Ms → R α) : L2.St → Hp → (β → Hp → Prop) → Prop := fun σ H Q =>
  ∃ (H0 Hb0 : Hp) (as : List Addr) (Hb : Hp) (M : Ms) (s : Sl), Rel K H0 Hb0 as Hb H M ∧ Slots K as Hb σ s ∧ Good rep K mg w H0 Hb0 as Hb σ Q (p s M)
def canonG (K : PySem.W.Frag) (p : PGx) (is : List Nat) : TG := fun v σ H Q =>
  ∃ (H0 Hb0 : Hp) (as : List Addr) (Hb : Hp) (M : Ms) (s s' : Sl) (x : W), Rel K H0 Hb0 as Hb H M ∧ Slots K as Hb σ s ∧ WR K as Hb v x ∧ p x s M = some s' ∧ ∀ σ', Slots K as Hb σ' s' → (∀ vs : List Nat, (∀ i ∈ is, i ∈ vs) → wipe σ' vs = wipe σ vs) → Q σ' H
section
variable {X : Cx} {w : WX}
theorem JE.canon {e : Expr} {p : PEx} (h : JE X w e p) : PE X e (canon (repW X.K) X.K X.mg w p) := by
  obtain ⟨t, e1, s1⟩ := h
  exact ⟨fun pins s σ H Q I ⟨H0, Hb0, as, Hb, M, sl, r, S, g⟩ => e1.run pins s σ H Q I (s1 H0 Hb0 as Hb H M σ sl r S Q g)⟩
def JTs (X : Cx) (w : WX) (ifs : List Expr) (p : PTx) : Prop := ∃ t, PTs X ifs t ∧ Sim repB X.K X.mg w t p
def pYes : PTx := fun _ M => .ok true M
theorem jts_nil : JTs X w [] pYes := ⟨_, pts_nil, fun H0 Hb0 as Hb H M σ s r S Q g => g.ok r rfl⟩
theorem jts_one {c : Expr} {p : PTx} (h : JT X w c p) : JTs X w [c] p := let ⟨t, e1, s1⟩ := h; ⟨t, pts_one e1, s1⟩
theorem JTs.canon {ifs : List Expr} {p : PTx} (h : JTs X w ifs p) : PTs X ifs (canon repB X.K X.mg w p) := by
  obtain ⟨t, e1, s1⟩ := h
  exact ⟨fun pins s σ H Q I ⟨H0, Hb0, as, Hb, M, sl, r, S, g⟩ => e1.run pins s σ H Q I (s1 H0 Hb0 as Hb H M σ sl r S Q g)⟩
theorem JG.canon {e : Expr} {p : PGx} {is : List Nat} (h : JG X e p is) : PG X e (canonG X.K p is) := by
  obtain ⟨t, e1, s1⟩ := h
  exact ⟨fun pins s σ H v u Q I rv ⟨H0, Hb0, as, Hb, M, sl, s', x, r, S, wr, e, q⟩ => e1.run pins s σ H v u Q I rv (s1 H0 Hb0 as Hb H M σ sl s' x v r S wr e Q q)⟩
/-- what a comprehension comes to, by its reading -/
theorem sim_lc {wi : TI} {it : PAx} {pg : PGx} {tt : PTx} {te : PEx} {is vs : List Nat} (hv : ∀ i ∈ is, i ∈ vs) (si : Sim (repI X.K) X.K X.mg w wi it) :
    Sim (repL X.K) X.K X.mg w (tLc wi (canonG X.K pg is) (canon repB X.K X.mg wNone tt) (canon (repW X.K) X.K X.mg wNone te) vs) (pLc it pg tt te vs) := by
  intro H0 Hb0 as Hb H M σ s r S Q g
  refine Good.bind si r S g fun J ws as1 Hb1 H1 M1 r1 f1 S1 io g1 => ?_
  intro D hD
  by_cases hz : ws.length ≤ sizeLine
  · simp only [hz, if_true] at g1
    have Sw := slots_wipe S1 vs
    refine ⟨fun i m H' => m = ws.length - i ∧ i ≤ ws.length ∧ ∃ as' Hb' M' acc av, Rel X.K (upd H0 D (.lst av)) Hb0 as' Hb' H' M' ∧ Fut as1 Hb1 as' Hb' ∧ WRs X.K as' Hb' av acc ∧ acc.length ≤ i ∧ Good (repL X.K) X.K X.mg w H0 Hb0 as' Hb' σ Q (lcL pg tt te (wipeS s vs) (ws.drop i) acc M'),
      ⟨ws.length, by simp, Nat.zero_le _, as1, Hb1, M1, [], [], ?_, Fut.refl, .nil, Nat.zero_le _, by simpa using g1⟩, ?_⟩
    · exact (r1.newAny hD).guard upd_same (r1.hbn hD) fun hm => r1.al D hm hD
    rintro i m H' ⟨rfl, hi, as', Hb', M', acc, av, r', f', wa, hal, g'⟩
    have h0D : H0 D = none := r1.h0n hD
    have hb0D : Hb0 D = none := r1.b0.free (r1.hbn hD)
    obtain ⟨ru, hHD, hbD, nD⟩ := r'.unguard h0D hb0D
    obtain ⟨io1, io2⟩ := io _ Hb0 as' Hb' H' M' r' f' i
    by_cases hlt : i < ws.length
    · have hx : ws[i]? = some ws[i] := List.getElem?_eq_getElem hlt
      obtain ⟨go, yl⟩ := io1 _ hx
      rw [List.drop_eq_getElem_cons hlt] at g'
      refine .inr ⟨go, fun H2 => ∃ as2 Hb2 M2 acc2 av2, Rel X.K (upd H0 D (.lst av2)) Hb0 as2 Hb2 H2 M2 ∧ Fut as1 Hb1 as2 Hb2 ∧ WRs X.K as2 Hb2 av2 acc2 ∧ acc2.length ≤ i + 1 ∧ Good (repL X.K) X.K X.mg w H0 Hb0 as2 Hb2 σ Q (lcL pg tt te (wipeS s vs) (ws.drop (i + 1)) acc2 M2), fun H2 z => ⟨ws.length - (i + 1), by omega, rfl, hlt, z⟩, fun v H2 hy => ?_⟩
      obtain ⟨Hb2, r2, f2, w2⟩ := yl v H2 hy
      have S2 := Sw.mono (f'.trans f2)
      cases hg : pg ws[i] (wipeS s vs) M' with
      | none => rw [lcL, hg] at g'; exact g'.elim
      | some s1 =>
        rw [lcL, hg] at g'
        simp only at g'
        refine ⟨_, Hb0, as', Hb2, M', wipeS s vs, s1, ws[i], r2, S2, w2, hg, fun σ3 S3 hw3 => ?_⟩
        refine ⟨by
          have z := hw3 vs hv
          rw [z]
          have ww : ∀ us : List Nat, (∀ u ∈ us, u ∈ vs) → ∀ τ : L2.St, wipe (wipe τ vs) us = wipe τ vs := by
            intro us
            induction us with
            | nil => intro _ τ; rfl
            | cons u us ih =>
              intro hu τ
              have hm := hu u List.mem_cons_self
              have e1 := ih (fun x hx => hu x (List.mem_cons_of_mem _ hx)) τ
              show (wipe (wipe τ vs) us).set u none = wipe τ vs
              rw [e1]
              have sn : ∀ (l : List Nat), u ∈ l → (wipe τ l).set u none = wipe τ l := by
                intro l
                induction l with
                | nil => intro h; cases h
                | cons y l ihl =>
                  intro h
                  show ((wipe τ l).set y none).set u none = (wipe τ l).set y none
                  by_cases e : y = u
                  · subst e; rw [List.set_set]
                  · rw [List.set_comm _ _ e]
                    rcases List.mem_cons.mp h with z | z
                    · exact absurd z.symm e
                    · rw [ihl z]
              exact sn vs hm
          exact ww vs (fun _ h => h) σ, ?_⟩
        refine ⟨_, Hb0, as', Hb2, M', s1, r2, S3, ?_⟩
        cases ht : tt s1 M' with
        | exc e m => rw [ht] at g'; exact g'.elim
        | stuck => rw [ht] at g'; exact g'.elim
        | ok b Mt =>
          rw [ht] at g'
          have g3 : Good (repL X.K) X.K X.mg w H0 Hb0 as' Hb' σ Q (if b = true then (te s1 Mt).bindN fun y M2 => lcL pg tt te (wipeS s vs) (ws.drop (i + 1)) (acc ++ [y]) M2 else lcL pg tt te (wipeS s vs) (ws.drop (i + 1)) acc Mt) := g'
          intro b' as3 Hb3 H3 r3 f3 eb
          obtain rfl : b' = b := eb
          cases b' with
          | false =>
            rw [if_neg Bool.false_ne_true] at g3 ⊢
            exact ⟨as3, Hb3, Mt, acc, av, r3, (f'.trans f2).trans f3, WRs.mono (f2.trans f3) wa, Nat.le_succ_of_le hal, Good.mono (f2.trans f3) g3⟩
          | true =>
            rw [if_pos rfl] at g3 ⊢
            refine ⟨_, Hb0, as3, Hb3, Mt, s1, r3, S3.mono f3, ?_⟩
            cases hte : te s1 Mt with
            | exc e m => rw [hte] at g3; exact g3.elim
            | stuck => rw [hte] at g3; exact g3.elim
            | ok y My =>
              rw [hte] at g3
              have g4 : Good (repL X.K) X.K X.mg w H0 Hb0 as' Hb' σ Q (lcL pg tt te (wipeS s vs) (ws.drop (i + 1)) (acc ++ [y]) My) := g3
              intro yv as4 Hb4 H4 r4 f4 wy
              obtain ⟨ru4, hHD4, hbD4, nD4⟩ := r4.unguard h0D hb0D
              have wa4 := WRs.mono ((f2.trans f3).trans f4) wa
              have hl : av.length = acc.length := Paired.len wa
              refine ⟨av, hHD4, by omega, as4, Hb4, My, acc ++ [y], av ++ [yv], ?_, ((f'.trans f2).trans f3).trans f4, Paired.app wa4 (.cons wy .nil), by rw [List.length_append]; simp; omega, Good.mono ((f2.trans f3).trans f4) g4⟩
              have e5 := (ru4.other (o := .lst (av ++ [yv])) hbD4 h0D nD4).guard upd_same hbD4 nD4
              exact e5
    · have e : i = ws.length := by omega
      subst e
      have hn : ws[ws.length]? = none := List.getElem?_eq_none_iff.mpr (Nat.le_refl _)
      rw [List.drop_length, lcL] at g'
      exact .inl ⟨io2 hn, Good.ok g' ru ⟨D, av, rfl, hHD, Nat.le_trans hal hz, wa, nD, hbD, h0D⟩⟩
  · simp only [hz, if_false] at g1
    exact g1.elim
theorem jl_lc {elt tg iter : Expr} {ifs : List Expr} {scope : Scope} {own : List (Str × Nat)} {pos : Pos} {it : PAx} {pg : PGx} {tt : PTx} {te : PEx} {is : List Nat} (hc : X.calm = true) (hN : X.N.Nodup) (hi : JI X w tg iter it) (ok : BlkOk X.N X.env.scope scope own)
    (hg : ∀ (s : Shared) (H : Hp) (C : Addr) (cl : List (Str × Addr)) (fp : List Addr), JG (X.blk s H scope (compEnvC scope cl C X.env) fp) tg pg is) (ht : ∀ (s : Shared) (H : Hp) (C : Addr) (cl : List (Str × Addr)) (fp : List Addr), JTs (X.blk s H scope (compEnvC scope cl C X.env) fp) wNone ifs tt)
    (he : ∀ (s : Shared) (H : Hp) (C : Addr) (cl : List (Str × Addr)) (fp : List Addr), JE (X.blk s H scope (compEnvC scope cl C X.env) fp) wNone elt te) (hv : ∀ i ∈ is, i ∈ own.map (·.2) := by decide) (hs : ∀ x, foldedSetIterable iter X.env x = pure x := by intro _; rfl) :
    JL X w (.ListComp elt [⟨tg, iter, ifs, 0⟩] scope pos) (pLc it pg tt te (own.map (·.2))) := by
  obtain ⟨wi, ei, si⟩ := hi
  exact ⟨_, pe_lc hc hN ei ok (fun s H C cl fp => (hg s H C cl fp).canon) (fun s H C cl fp => (ht s H C cl fp).canon) (fun s H C cl fp => (he s H C cl fp).canon) hs, sim_lc hv si⟩
/-- name = [..] on one line: data, or a thing that changes -/
theorem js_setLc {i : Nat} {y : Str} {py : Pos} {elt tg iter : Expr} {ifs : List Expr} {scope : Scope} {own : List (Str × Nat)} {pos spos : Pos} {it : PAx} {pg : PGx} {tt : PTx} {te : PEx} {is : List Nat} (hc : X.calm = true) (hN : X.N.Nodup) (hi : JI X w tg iter it) (ok : BlkOk X.N X.env.scope scope own)
    (hg : ∀ (s : Shared) (H : Hp) (C : Addr) (cl : List (Str × Addr)) (fp : List Addr), JG (X.blk s H scope (compEnvC scope cl C X.env) fp) tg pg is) (ht : ∀ (s : Shared) (H : Hp) (C : Addr) (cl : List (Str × Addr)) (fp : List Addr), JTs (X.blk s H scope (compEnvC scope cl C X.env) fp) wNone ifs tt)
    (he : ∀ (s : Shared) (H : Hp) (C : Addr) (cl : List (Str × Addr)) (fp : List Addr), JE (X.blk s H scope (compEnvC scope cl C X.env) fp) wNone elt te) (hv : ∀ i ∈ is, i ∈ own.map (·.2) := by decide)
    (hy : X.N[i]? = some y := by rfl) (hyl : X.env.scope.names.lookup y = some .local := by rfl) (hsw : swapsWith (.ListComp elt [⟨tg, iter, ifs, 0⟩] scope pos) (some (.Name y py)) spos.line X.env = pure true := by exact sw_true rfl rfl rfl (by decide +kernel)) (hs : ∀ x, foldedSetIterable iter X.env x = pure x := by intro _; rfl) :
    JS X w (.Assign [.Name y py] (.ListComp elt [⟨tg, iter, ifs, 0⟩] scope pos) spos) (pSet i (pDat (pLc it pg tt te (own.map (·.2))))) := by
  obtain ⟨wi, ei, si⟩ := hi
  refine ⟨_, ps_setLc (g := canonG X.K pg is) (tt := canon repB X.K X.mg wNone tt) (te := canon (repW X.K) X.K X.mg wNone te) hc hN hy hyl hsw ei ok (fun s H C cl fp => (hg s H C cl fp).canon) (fun s H C cl fp => (ht s H C cl fp).canon) (fun s H C cl fp => (he s H C cl fp).canon) hs, fun H0 Hb0 as Hb H M σ s r S D g => ?_⟩
  have sl := sim_lc (X := X) (w := w) (pg := pg) (tt := tt) (te := te) hv si
  have g' : GoodS X.K X.mg w H0 Hb0 as Hb D ((pLc it pg tt te (own.map (·.2)) s M).to s fun ws M1 => match allD ws with
      | some ds => .nx (s.set i (some (.d (.list ds)))) M1
      | none => .stuck) := by
    unfold pSet pDat at g
    cases e : pLc it pg tt te (own.map (·.2)) s M with
    | stuck => rw [e] at g; exact g
    | exc a m => rw [e] at g; exact g
    | ok a m =>
      rw [e] at g
      simp only [R.bind, R.to] at g ⊢
      cases hd : allD a with
      | none => rw [hd] at g; exact g
      | some ds => rw [hd] at g; exact g
  refine GoodS.bind sl r S g' fun v ws as1 Hb1 H1 M1 r1 f1 S1 w1 g1 => ?_
  obtain ⟨q, vs, rfl, hq, z, wr, nq, hbn, h0n⟩ := w1
  cases hd : allD ws with
  | none => rw [hd] at g1; exact g1.elim
  | some ds =>
    rw [hd] at g1
    have dz := allD_ok wr hd
    have hl : ws.length = ds.length := (Paired.len wr).symm.trans (Paired.len dz)
    have fu : Fut as1 Hb1 as1 (upd Hb1 q (.lst vs)) := fut_new hbn
    refine GoodS.nx (GoodS.mono fu g1) (r1.freshData hq hbn h0n nq) ((S1.mono fu).set (w := .d (.list ds)) ?_ i)
    exact dz_lst upd_same (dzAll_mono (same_new hbn) dz) (hl ▸ z)
theorem js_setLcM {i : Nat} {y : Str} {py : Pos} {elt tg iter : Expr} {ifs : List Expr} {scope : Scope} {own : List (Str × Nat)} {pos spos : Pos} {it : PAx} {pg : PGx} {tt : PTx} {te : PEx} {is : List Nat} (hc : X.calm = true) (hN : X.N.Nodup) (hi : JI X w tg iter it) (ok : BlkOk X.N X.env.scope scope own)
    (hg : ∀ (s : Shared) (H : Hp) (C : Addr) (cl : List (Str × Addr)) (fp : List Addr), JG (X.blk s H scope (compEnvC scope cl C X.env) fp) tg pg is) (ht : ∀ (s : Shared) (H : Hp) (C : Addr) (cl : List (Str × Addr)) (fp : List Addr), JTs (X.blk s H scope (compEnvC scope cl C X.env) fp) wNone ifs tt)
    (he : ∀ (s : Shared) (H : Hp) (C : Addr) (cl : List (Str × Addr)) (fp : List Addr), JE (X.blk s H scope (compEnvC scope cl C X.env) fp) wNone elt te) (hv : ∀ i ∈ is, i ∈ own.map (·.2) := by decide)
    (hy : X.N[i]? = some y := by rfl) (hyl : X.env.scope.names.lookup y = some .local := by rfl) (hsw : swapsWith (.ListComp elt [⟨tg, iter, ifs, 0⟩] scope pos) (some (.Name y py)) spos.line X.env = pure true := by exact sw_true rfl rfl rfl (by decide +kernel)) (hs : ∀ x, foldedSetIterable iter X.env x = pure x := by intro _; rfl) :
    JS X w (.Assign [.Name y py] (.ListComp elt [⟨tg, iter, ifs, 0⟩] scope pos) spos) (pSet i (pMut (pLc it pg tt te (own.map (·.2))))) := by
  obtain ⟨wi, ei, si⟩ := hi
  refine ⟨_, ps_setLc (g := canonG X.K pg is) (tt := canon repB X.K X.mg wNone tt) (te := canon (repW X.K) X.K X.mg wNone te) hc hN hy hyl hsw ei ok (fun s H C cl fp => (hg s H C cl fp).canon) (fun s H C cl fp => (ht s H C cl fp).canon) (fun s H C cl fp => (he s H C cl fp).canon) hs, fun H0 Hb0 as Hb H M σ s r S D g => ?_⟩
  have sl := sim_lc (X := X) (w := w) (pg := pg) (tt := tt) (te := te) hv si
  have g' : GoodS X.K X.mg w H0 Hb0 as Hb D ((pLc it pg tt te (own.map (·.2)) s M).to s fun ws M1 => .nx (s.set i (some (.r M1.length))) (M1 ++ [.lst ws])) := by
    unfold pSet pMut at g
    cases e : pLc it pg tt te (own.map (·.2)) s M with
    | stuck => rw [e] at g; exact g
    | exc a m => rw [e] at g; exact g
    | ok a m => rw [e] at g; exact g
  refine GoodS.bind sl r S g' fun v ws as1 Hb1 H1 M1 r1 f1 S1 w1 g1 => ?_
  obtain ⟨q, vs, rfl, hq, z, wr, nq, hbn, h0n⟩ := w1
  have fu : Fut as1 Hb1 (as1 ++ [q]) Hb1 := ⟨Same.refl _, [q], rfl⟩
  refine GoodS.nx (GoodS.mono fu g1) (r1.newMut (by rw [hq]; simp) hbn h0n nq ⟨z, vs, hq, WRs.mono fu wr⟩) ((S1.mono fu).set (w := .r M1.length) ⟨q, ?_, rfl⟩ i)
  rw [← r1.len]
  simp
end
end Z

set_option linter.all false
set_option autoImplicit false
set_option maxRecDepth 100000
set_option maxHeartbeats 4000000
namespace Z
open PySem PySem.Spec PyProof.Rows L2

/-! ### calls of what is built in -/
def SimC (K : PySem.W.Frag) (mg : Str → Option Value) (r : List V → Hp → VK → Prop) (g : List W → Ms → R W) : Prop :=
  ∀ (w : WX) (H0 Hb0 : Hp) (as : List Addr) (Hb H : Hp) (M : Ms) (σ : L2.St) (ws : List W) (vs : List V), Rel K H0 Hb0 as Hb H M → WRs K as Hb vs ws → ∀ Q : VK, Good (repW K) K mg w H0 Hb0 as Hb σ Q (g ws M) → r vs H Q
/-- .. which makes a list -/
def SimCL (K : PySem.W.Frag) (mg : Str → Option Value) (r : List V → Hp → VK → Prop) (g : List W → Ms → R (List W)) : Prop :=
  ∀ (w : WX) (H0 Hb0 : Hp) (as : List Addr) (Hb H : Hp) (M : Ms) (σ : L2.St) (ws : List W) (vs : List V), Rel K H0 Hb0 as Hb H M → WRs K as Hb vs ws → ∀ Q : VK, Good (repL K) K mg w H0 Hb0 as Hb σ Q (g ws M) → r vs H Q
def pCall (g : List W → Ms → R W) (a : PAx) : PEx := fun s M => (a s M).bind fun ws M1 => g ws M1
def pCallL (g : List W → Ms → R (List W)) (a : PAx) : PAx := fun s M => (a s M).bind fun ws M1 => g ws M1
section
variable {X : Cx} {w : WX} {x : Str} {e : Expr} {es : List Expr} {pa : PAx} {p pos : Pos} {r : List V → Hp → VK → Prop} {g : List W → Ms → R W} {gl : List W → Ms → R (List W)} {id T : String}
theorem sim_cb {t : TA} (sa : Sim (repA X.K) X.K X.mg w t pa) (hg : SimC X.K X.mg r g) : Sim (repW X.K) X.K X.mg w (tCB r t) (pCall g pa) := by
  intro H0 Hb0 as Hb H M σ s r0 S Q gd
  exact Good.bind sa r0 S gd fun vs ws as1 Hb1 H1 M1 r1 f1 S1 w1 g1 => hg w H0 Hb0 as1 Hb1 H1 M1 σ ws vs r1 w1 Q g1
theorem sim_cbl {t : TA} (sa : Sim (repA X.K) X.K X.mg w t pa) (hg : SimCL X.K X.mg r gl) : Sim (repL X.K) X.K X.mg w (tCB r t) (pCallL gl pa) := by
  intro H0 Hb0 as Hb H M σ s r0 S Q gd
  exact Good.bind sa r0 S gd fun vs ws as1 Hb1 H1 M1 r1 f1 S1 w1 g1 => hg w H0 Hb0 as1 Hb1 H1 M1 σ ws vs r1 w1 Q g1
theorem je_callB (hc : CallR X (.builtin id) r) (hs : SimC X.K X.mg r g) (hm : X.mg x = none) (hv : bootBuiltins x = some (.builtin id)) (ha : JA X w (e :: es) pa) (hg : Gl X x := by rfl) (hn : x ≠ "__name__" := by decide) (hdb : (x == ("__debug__" : Str)) = false := by decide)
    (he : starEach (e :: es) X.env = (false, eval e X.env) :: starEach es X.env := by rfl) (hpl : (backTo pos (starEach es X.env)).any (·.1) = false := by rfl) : JE X w (.Call (.Name x p) (e :: es) [] pos) (pCall g pa) := by
  obtain ⟨t, ea, sa⟩ := ha
  exact ⟨_, pe_callB hc hg hm hv ea hn hdb he hpl, sim_cb sa hs⟩
theorem jl_callB (hc : CallR X (.builtin id) r) (hs : SimCL X.K X.mg r gl) (hm : X.mg x = none) (hv : bootBuiltins x = some (.builtin id)) (ha : JA X w (e :: es) pa) (hg : Gl X x := by rfl) (hn : x ≠ "__name__" := by decide) (hdb : (x == ("__debug__" : Str)) = false := by decide)
    (he : starEach (e :: es) X.env = (false, eval e X.env) :: starEach es X.env := by rfl) (hpl : (backTo pos (starEach es X.env)).any (·.1) = false := by rfl) : JL X w (.Call (.Name x p) (e :: es) [] pos) (pCallL gl pa) := by
  obtain ⟨t, ea, sa⟩ := ha
  exact ⟨_, pe_callB hc hg hm hv ea hn hdb he hpl, sim_cbl sa hs⟩
theorem je_callTy (hc : CallR X (.type T) r) (hs : SimC X.K X.mg r g) (hm : X.mg x = none) (hv : bootBuiltins x = some (.type T)) (ha : JA X w (e :: es) pa) (hg : Gl X x := by rfl) (hn : x ≠ "__name__" := by decide) (hdb : (x == ("__debug__" : Str)) = false := by decide)
    (he : starEach (e :: es) X.env = (false, eval e X.env) :: starEach es X.env := by rfl) (hpl : (backTo pos (starEach es X.env)).any (·.1) = false := by rfl) : JE X w (.Call (.Name x p) (e :: es) [] pos) (pCall g pa) := by
  obtain ⟨t, ea, sa⟩ := ha
  exact ⟨_, pe_callTy hc hg hm hv ea hn hdb he hpl, sim_cb sa hs⟩
theorem jl_callTy (hc : CallR X (.type T) r) (hs : SimCL X.K X.mg r gl) (hm : X.mg x = none) (hv : bootBuiltins x = some (.type T)) (ha : JA X w (e :: es) pa) (hg : Gl X x := by rfl) (hn : x ≠ "__name__" := by decide) (hdb : (x == ("__debug__" : Str)) = false := by decide)
    (he : starEach (e :: es) X.env = (false, eval e X.env) :: starEach es X.env := by rfl) (hpl : (backTo pos (starEach es X.env)).any (·.1) = false := by rfl) : JL X w (.Call (.Name x p) (e :: es) [] pos) (pCallL gl pa) := by
  obtain ⟨t, ea, sa⟩ := ha
  exact ⟨_, pe_callTy hc hg hm hv ea hn hdb he hpl, sim_cbl sa hs⟩
end

/-! ### len -/
def lenW (M : Ms) (x : W) : Option Nat := match itemsL M x with
  | some ws => some ws.length
  | none => match itemsT x with
    | some ws => some ws.length
    | none => match x with
      | .d (.str s) => some s.length
      | _ => none
def gLen : List W → Ms → R W := fun ws M => match ws with
  | [x] => (match lenW M x with
    | some n => .ok (.d (.int n)) M
    | none => .stuck)
  | _ => .stuck
def gAbs : List W → Ms → R W := fun ws M => match ws with
  | [.d (.int i)] => .ok (.d (.int (if i < 0 then -i else i))) M
  | _ => .stuck
def gInt1 : List W → Ms → R W := fun ws M => match ws with
  | [.d (.int i)] => .ok (.d (.int i)) M
  | _ => .stuck
def gMin2 : List W → Ms → R W := fun ws M => match ws with
  | [.d (.int i), .d (.int j)] => .ok (.d (.int (if j < i then j else i))) M
  | _ => .stuck
def gMax2 : List W → Ms → R W := fun ws M => match ws with
  | [.d (.int i), .d (.int j)] => .ok (.d (.int (if j > i then j else i))) M
  | _ => .stuck
def intsOf : List PyData → Option (List Int)
  | [] => some []
  | .int i :: ds => (intsOf ds).map (i :: ·)
  | _ :: _ => none
theorem intsOf_map : ∀ ns : List Int, intsOf (ns.map .int) = some ns
  | [] => rfl
  | n :: ns => by simp [intsOf, intsOf_map ns]
def viewI (M : Ms) (x : W) : Option (List Int) := match view M x with
  | some (.list ds) => intsOf ds
  | _ => none
def gSum : List W → Ms → R W := fun ws M => match ws with
  | [x] => (match viewI M x with
    | some ns => .ok (.d (.int ns.sum)) M
    | none => .stuck)
  | _ => .stuck
def gMaxI : List W → Ms → R W := fun ws M => match ws with
  | [x] => (match viewI M x with
    | some (n :: ns) => .ok (.d (.int (ns.foldl max n))) M
    | _ => .stuck)
  | _ => .stuck
def gMinI : List W → Ms → R W := fun ws M => match ws with
  | [x] => (match viewI M x with
    | some (n :: ns) => .ok (.d (.int (ns.foldl min n))) M
    | _ => .stuck)
  | _ => .stuck
section
variable {K : PySem.W.Frag} {mg : Str → Option Value}
theorem one_arg_of {as : List Addr} {Hb : Hp} {vs : List V} {x : W} (h : WRs K as Hb vs [x]) : ∃ v, vs = [v] ∧ WR K as Hb v x := by
  cases h with
  | cons a b => cases b; exact ⟨_, rfl, a⟩
theorem two_args_of {as : List Addr} {Hb : Hp} {vs : List V} {x y : W} (h : WRs K as Hb vs [x, y]) : ∃ v u, vs = [v, u] ∧ WR K as Hb v x ∧ WR K as Hb u y := by
  cases h with
  | cons a b =>
    obtain ⟨u, rfl, hu⟩ := one_arg_of b
    exact ⟨_, u, rfl, a, hu⟩
theorem s_len : SimC K mg (fun xs H Q => ∃ x n, xs = [x] ∧ LenV K x H n ∧ Q (.int n) H) gLen := by
  intro w H0 Hb0 as Hb H M σ ws vs r wr Q gd
  match ws, gd with
  | [], gd => exact gd.elim
  | _ :: _ :: _, gd => exact gd.elim
  | [x], gd =>
    obtain ⟨v, rfl, wx⟩ := one_arg_of wr
    unfold gLen lenW at gd
    cases e1 : itemsL M x with
    | some us =>
      simp only [e1] at gd
      obtain ⟨a, xs, rfl, h1, r1, z1⟩ := itemsL_ok r wx e1
      exact ⟨_, us.length, rfl, .inl ⟨xs, SqL.of h1, (Paired.len r1).symm⟩, Good.ok gd r (wr_int _)⟩
    | none =>
      cases e2 : itemsT x with
      | some us =>
        simp only [e1, e2] at gd
        obtain ⟨a, xs, rfl, h1, r1, z1⟩ := itemsT_ok r wx e2
        exact ⟨_, us.length, rfl, .inr ⟨xs, h1, (Paired.len r1).symm⟩, Good.ok gd r (wr_int _)⟩
      | none =>
        simp only [e1, e2] at gd
        cases x with
        | d y =>
          cases y with
          | str z =>
            obtain ⟨rfl, l⟩ := wr_str_of wx
            exact ⟨_, z.length, rfl, ⟨l, rfl⟩, Good.ok gd r (wr_int _)⟩
          | _ => exact gd.elim
        | r i => exact gd.elim
        | k u => exact gd.elim
theorem s_abs : SimC K mg (fun xs H Q => ∃ i, xs = [.int i] ∧ Q (.int (if i < 0 then -i else i)) H) gAbs := by
  intro w H0 Hb0 as Hb H M σ ws vs r wr Q gd
  match ws, gd with
  | [], gd => exact gd.elim
  | [.d (.int i)], gd =>
    obtain ⟨v, rfl, wx⟩ := one_arg_of wr
    obtain rfl := wr_int_of wx
    exact ⟨i, rfl, Good.ok gd r (wr_int _)⟩
theorem s_int1 : SimC K mg (fun xs H Q => (∃ i, xs = [.int i] ∧ Q (.int i) H) ∨ ∃ k, xs = [.bl k] ∧ Q (.int (if k then 1 else 0)) H) gInt1 := by
  intro w H0 Hb0 as Hb H M σ ws vs r wr Q gd
  match ws, gd with
  | [], gd => exact gd.elim
  | [.d (.int i)], gd =>
    obtain ⟨v, rfl, wx⟩ := one_arg_of wr
    obtain rfl := wr_int_of wx
    exact .inl ⟨i, rfl, Good.ok gd r (wr_int _)⟩
theorem s_min2 : SimC K mg (fun xs H Q => ∃ i j, xs = [.int i, .int j] ∧ Q (.int (if j < i then j else i)) H) gMin2 := by
  intro w H0 Hb0 as Hb H M σ ws vs r wr Q gd
  match ws, gd with
  | [], gd => exact gd.elim
  | [.d (.int i), .d (.int j)], gd =>
    obtain ⟨v, u, rfl, wx, wy⟩ := two_args_of wr
    obtain rfl := wr_int_of wx
    obtain rfl := wr_int_of wy
    exact ⟨i, j, rfl, Good.ok gd r (wr_int _)⟩
theorem s_max2 : SimC K mg (fun xs H Q => ∃ i j, xs = [.int i, .int j] ∧ Q (.int (if j > i then j else i)) H) gMax2 := by
  intro w H0 Hb0 as Hb H M σ ws vs r wr Q gd
  match ws, gd with
  | [], gd => exact gd.elim
  | [.d (.int i), .d (.int j)], gd =>
    obtain ⟨v, u, rfl, wx, wy⟩ := two_args_of wr
    obtain rfl := wr_int_of wx
    obtain rfl := wr_int_of wy
    exact ⟨i, j, rfl, Good.ok gd r (wr_int _)⟩
theorem ints_vs {H : Hp} : ∀ {ds : List PyData} {vs : List V} {ns : List Int}, DtAll K H vs ds → intsOf ds = some ns → vs = ns.map V.int
  | [], _, _, h, e => by
    cases h
    simp only [intsOf, Option.some.injEq] at e
    subst e; rfl
  | .int i :: ds, _, _, h, e => by
    cases h with
    | cons h1 h2 =>
      simp only [intsOf, Option.map_eq_some_iff] at e
      obtain ⟨r, e1, rfl⟩ := e
      cases h1
      rw [ints_vs h2 e1]
      rfl
  | .none :: _, _, _, _, e => by simp [intsOf] at e
  | .bool _ :: _, _, _, _, e => by simp [intsOf] at e
  | .str _ :: _, _, _, _, e => by simp [intsOf] at e
  | .list _ :: _, _, _, _, e => by simp [intsOf] at e
  | .tuple _ :: _, _, _, _, e => by simp [intsOf] at e
  | .dict _ :: _, _, _, _, e => by simp [intsOf] at e
theorem viewI_ok {H0 Hb0 Hb H : Hp} {as : List Addr} {M : Ms} {x : W} {v : V} {ns : List Int} (r : Rel K H0 Hb0 as Hb H M) (h : WR K as Hb v x) (e : viewI M x = some ns) : ∃ a, v = .ref a ∧ H a = some (.lst (ns.map V.int)) := by
  unfold viewI at e
  cases e1 : view M x with
  | none => rw [e1] at e; cases e
  | some d =>
    rw [e1] at e
    have dz := view_ok r h e1
    cases d with
    | list ds =>
      obtain ⟨h1, _⟩ := dz
      cases h1 with
      | lst hs ha => exact ⟨_, rfl, by rw [hs, ints_vs ha e]⟩
    | _ => cases e
theorem s_sum : SimC K mg (rSum K) gSum := by
  intro w H0 Hb0 as Hb H M σ ws vs r wr Q gd
  match ws, gd with
  | [], gd => exact gd.elim
  | _ :: _ :: _, gd => exact gd.elim
  | [x], gd =>
    obtain ⟨v, rfl, wx⟩ := one_arg_of wr
    unfold gSum at gd
    cases e : viewI M x with
    | none => simp only [e] at gd; exact gd.elim
    | some ns =>
      simp only [e] at gd
      obtain ⟨a, rfl, h⟩ := viewI_ok r wx e
      exact ⟨a, ns, rfl, SqL.of h, Good.ok gd r (wr_int _)⟩
theorem foldl_max_mem : ∀ (ns : List Int) (n : Int), ns.foldl max n ∈ n :: ns ∧ ∀ y ∈ n :: ns, y ≤ ns.foldl max n
  | [], n => by simp
  | k :: r, n => by
    rw [List.foldl_cons]
    obtain ⟨h1, h2⟩ := foldl_max_mem r (max n k)
    refine ⟨?_, fun y hy => ?_⟩
    · rcases List.mem_cons.mp h1 with h | h
      · rw [h]
        by_cases c : n ≤ k
        · rw [Int.max_eq_right c]; simp
        · rw [Int.max_eq_left (by omega)]; simp
      · simp [h]
    · have hm := h2 (max n k) List.mem_cons_self
      rcases List.mem_cons.mp hy with rfl | hy
      · exact Int.le_trans (Int.le_max_left _ _) hm
      · rcases List.mem_cons.mp hy with rfl | hy
        · exact Int.le_trans (Int.le_max_right _ _) hm
        · exact h2 y (List.mem_cons_of_mem _ hy)
theorem foldl_min_mem : ∀ (ns : List Int) (n : Int), ns.foldl min n ∈ n :: ns ∧ ∀ y ∈ n :: ns, ns.foldl min n ≤ y
  | [], n => by simp
  | k :: r, n => by
    rw [List.foldl_cons]
    obtain ⟨h1, h2⟩ := foldl_min_mem r (min n k)
    refine ⟨?_, fun y hy => ?_⟩
    · rcases List.mem_cons.mp h1 with h | h
      · rw [h]
        by_cases c : n ≤ k
        · rw [Int.min_eq_left c]; simp
        · rw [Int.min_eq_right (by omega)]; simp
      · simp [h]
    · have hm := h2 (min n k) List.mem_cons_self
      rcases List.mem_cons.mp hy with rfl | hy
      · exact Int.le_trans hm (Int.min_le_left _ _)
      · rcases List.mem_cons.mp hy with rfl | hy
        · exact Int.le_trans hm (Int.min_le_right _ _)
        · exact h2 y (List.mem_cons_of_mem _ hy)
theorem s_maxI : SimC K mg (rMax K) gMaxI := by
  intro w H0 Hb0 as Hb H M σ ws vs r wr Q gd
  match ws, gd with
  | [], gd => exact gd.elim
  | _ :: _ :: _, gd => exact gd.elim
  | [x], gd =>
    obtain ⟨v, rfl, wx⟩ := one_arg_of wr
    unfold gMaxI at gd
    cases e : viewI M x with
    | none => simp only [e] at gd; exact gd.elim
    | some ns =>
      cases ns with
      | nil => simp only [e] at gd; exact gd.elim
      | cons n ns =>
        simp only [e] at gd
        obtain ⟨a, rfl, h⟩ := viewI_ok r wx e
        refine ⟨a, n :: ns, rfl, SqL.of h, Nat.succ_pos _, fun m h1 h2 => ?_⟩
        obtain ⟨k1, k2⟩ := foldl_max_mem ns n
        have em : m = ns.foldl max n := Int.le_antisymm (k2 m h1) (h2 _ k1)
        subst em
        exact Good.ok gd r (wr_int _)
theorem s_minI : SimC K mg (rMin K) gMinI := by
  intro w H0 Hb0 as Hb H M σ ws vs r wr Q gd
  match ws, gd with
  | [], gd => exact gd.elim
  | _ :: _ :: _, gd => exact gd.elim
  | [x], gd =>
    obtain ⟨v, rfl, wx⟩ := one_arg_of wr
    unfold gMinI at gd
    cases e : viewI M x with
    | none => simp only [e] at gd; exact gd.elim
    | some ns =>
      cases ns with
      | nil => simp only [e] at gd; exact gd.elim
      | cons n ns =>
        simp only [e] at gd
        obtain ⟨a, rfl, h⟩ := viewI_ok r wx e
        refine ⟨a, n :: ns, rfl, SqL.of h, Nat.succ_pos _, fun m h1 h2 => ?_⟩
        obtain ⟨k1, k2⟩ := foldl_min_mem ns n
        have em : m = ns.foldl min n := Int.le_antisymm (h2 _ k1) (k2 m h1)
        subst em
        exact Good.ok gd r (wr_int _)

/-! ### list(..), sorted(..) -/
def gList : List W → Ms → R (List W) := fun ws M => match ws with
  | [x] => (match itemsL M x with
    | some us => .ok us M
    | none => (match itemsT x with
      | some us => .ok us M
      | none => .stuck))
  | _ => .stuck
theorem s_list : SimCL K mg (fun xs H Q => ∃ p ys, xs = [.ref p] ∧ (SqL K H p ys ∨ SqT K H p ys) ∧ ∀ l, H l = none → Q (.ref l) (upd H l (.lst ys))) gList := by
  intro w H0 Hb0 as Hb H M σ ws vs r wr Q gd
  match ws, gd with
  | [], gd => exact gd.elim
  | _ :: _ :: _, gd => exact gd.elim
  | [x], gd =>
    obtain ⟨v, rfl, wx⟩ := one_arg_of wr
    unfold gList at gd
    cases e1 : itemsL M x with
    | some us =>
      simp only [e1] at gd
      obtain ⟨a, xs, rfl, h1, r1, z1⟩ := itemsL_ok r wx e1
      exact ⟨a, xs, rfl, .inl (SqL.of h1), fun p hp => Good.ok gd (r.newAny hp) ⟨p, xs, rfl, upd_same, z1, r1, fun hm => r.al p hm hp, r.hbn hp, r.h0n hp⟩⟩
    | none =>
      cases e2 : itemsT x with
      | some us =>
        simp only [e1, e2] at gd
        obtain ⟨a, xs, rfl, h1, r1, z1⟩ := itemsT_ok r wx e2
        exact ⟨a, xs, rfl, .inr h1, fun p hp => Good.ok gd (r.newAny hp) ⟨p, xs, rfl, upd_same, z1, r1, fun hm => r.al p hm hp, r.hbn hp, r.h0n hp⟩⟩
      | none => simp only [e1, e2] at gd; exact gd.elim
end
/-- tuple(xs): of a list of data; of a tuple itself -/
def gTuple : List W → Ms → R W := fun ws M => match ws with
  | [x] => (match view M x with
    | some (.list ds) => .ok (.d (.tuple ds)) M
    | some (.tuple ds) => .ok x M
    | _ => .stuck)
  | _ => .stuck
theorem viewL_ok {K : PySem.W.Frag} {H0 Hb0 Hb H : Hp} {as : List Addr} {M : Ms} {x : W} {v : V} {ds : List PyData} (r : Rel K H0 Hb0 as Hb H M) (h : WR K as Hb v x) (e : view M x = some (.list ds)) : ∃ a vs, v = .ref a ∧ H a = some (.lst vs) ∧ DzAll K Hb vs ds ∧ ds.length ≤ sizeLine := by
  cases x with
  | d y =>
    simp only [view, Option.some.injEq] at e
    subst e
    obtain ⟨h1, f⟩ := h
    cases h1 with
    | lst hs ha => exact ⟨_, _, rfl, r.sub _ _ hs, dzAll_of ha f.2, f.1⟩
  | r i =>
    obtain ⟨a, h1, rfl⟩ := h
    simp only [view] at e
    cases hm : M[i]? with
    | none => rw [hm] at e; simp at e
    | some o =>
      rw [hm] at e
      cases o with
      | lst ws =>
        simp only [Option.map_eq_some_iff] at e
        obtain ⟨ds', e1, e2⟩ := e
        cases e2
        obtain ⟨z, vs, h2, h3⟩ := r.at' i a _ h1 hm
        have dz := allD_ok h3 e1
        exact ⟨a, vs, rfl, h2, dz, by rw [← Paired.len dz, Paired.len h3]; exact z⟩
      | ins _ _ => simp at e
      | dic _ _ => simp at e
      | dlk _ _ => simp at e
      | gone => simp at e
  | k u => simp [view] at e
theorem viewT_ok {K : PySem.W.Frag} {H0 Hb0 Hb H : Hp} {as : List Addr} {M : Ms} {x : W} {v : V} {ds : List PyData} (r : Rel K H0 Hb0 as Hb H M) (h : WR K as Hb v x) (e : view M x = some (.tuple ds)) : x = .d (.tuple ds) := by
  cases x with
  | d y => simp only [view, Option.some.injEq] at e; rw [e]
  | r i =>
    simp only [view] at e
    cases hm : M[i]? with
    | none => rw [hm] at e; simp at e
    | some o =>
      rw [hm] at e
      cases o with
      | lst ws => simp at e
      | ins _ _ => simp at e
      | dic _ _ => simp at e
      | dlk _ _ => simp at e
      | gone => simp at e
  | k u => simp [view] at e
theorem s_tuple {K : PySem.W.Frag} {mg : Str → Option Value} : SimC K mg (fun xs H Q => ∃ p ys, xs = [.ref p] ∧ ((SqL K H p ys ∧ ∀ l, H l = none → Q (.ref l) (upd H l (.tup ys))) ∨ (SqT K H p ys ∧ Q (.ref p) H))) gTuple := by
  intro w H0 Hb0 as Hb H M σ ws vs r wr Q gd
  match ws, gd with
  | [], gd => exact gd.elim
  | _ :: _ :: _, gd => exact gd.elim
  | [x], gd =>
    obtain ⟨v, rfl, wx⟩ := one_arg_of wr
    unfold gTuple at gd
    cases e : view M x with
    | none => simp only [e] at gd; exact gd.elim
    | some d =>
      cases d with
      | list ds =>
        simp only [e] at gd
        obtain ⟨a, xs, rfl, h1, dz, z⟩ := viewL_ok r wx e
        refine ⟨a, xs, rfl, .inl ⟨SqL.of h1, fun p hp => ?_⟩⟩
        have hbn := r.hbn hp
        exact Good.ok (Good.mono (fut_new hbn) gd) (r.newData hp) (dz_tup (SqT.of upd_same) (dzAll_mono (same_new hbn) dz) z)
      | tuple ds =>
        simp only [e] at gd
        have ex := viewT_ok r wx e
        subst ex
        obtain ⟨h1, f⟩ := id wx
        cases h1 with
        | tup hs ha => exact ⟨_, _, rfl, .inr ⟨same_t r.sub hs, Good.ok gd r wx⟩⟩
      | _ => simp only [e] at gd; exact gd.elim

/-! ### sorted of data -/
def sortD (ds : List PyData) : List PyData := ds.mergeSort (PySem.W.dataLe false id)
def allAlike (ds : List PyData) : Bool := ds.all fun d => ds.all fun d' => PySem.W.alike d d'
def isTup1 : PyData → Bool
  | .tuple (_ :: _) => true
  | _ => false
def isOther : PyData → Bool
  | .tuple _ => false
  | .none => false
  | _ => true
/-- what sorted bears: items alike, all tuples with an item or none of them, not too deep -/
def sortable (ds : List PyData) : Bool := allAlike ds && (ds.all isTup1 || ds.all isOther) && ds.all fun d => decide (d.depth ≤ 60)
def gSorted : List W → Ms → R (List W) := fun ws M => match ws with
  | [x] => (match view M x with
    | some (.list ds) => if sortable ds = true then .ok ((sortD ds).map .d) M else .stuck
    | _ => .stuck)
  | _ => .stuck
def rSortD (K : PySem.W.Frag) : List V → Hp → VK → Prop := fun vs H Q => ∃ (a : Addr) (xs : List V) (ds : List PyData), vs = [.ref a] ∧ SqL K H a xs ∧ DtAll K H xs ds ∧ sortable ds = true ∧ ∀ (ys : List V) (p : Addr), ys.length = xs.length → H p = none →
  (∀ (Hb : Hp), DzAll K Hb xs ds → DzAll K Hb ys (sortD ds)) → Q (.ref p) (upd H p (.lst ys))
end Z

set_option linter.all false
set_option autoImplicit false
set_option maxRecDepth 100000
set_option maxHeartbeats 4000000
namespace Z
open PySem PySem.Spec PyProof.Rows L2

theorem zip_snd {α β : Type} : ∀ {xs : List α} {ds : List β}, xs.length = ds.length → (xs.zip ds).map (·.2) = ds
  | [], [], _ => rfl
  | [], _ :: _, h => by simp at h
  | _ :: _, [], h => by simp at h
  | x :: xs, d :: ds, h => by simp [zip_snd (xs := xs) (ds := ds) (by simpa using h)]
theorem zip_all {α β : Type} {F : α → β → Prop} : ∀ {xs : List α} {ds : List β}, Paired F xs ds → ∀ p ∈ xs.zip ds, F p.1 p.2
  | _, _, .nil, p, h => by simp at h
  | _, _, .cons h t, p, hp => by
    simp only [List.zip_cons_cons, List.mem_cons] at hp
    rcases hp with rfl | hp
    · exact h
    · exact zip_all t p hp
theorem all_pairs {α β : Type} {F : α → β → Prop} : ∀ {l : List (α × β)}, (∀ p ∈ l, F p.1 p.2) → Paired F (l.map (·.1)) (l.map (·.2))
  | [], _ => .nil
  | p :: l, h => .cons (h p List.mem_cons_self) (all_pairs fun q hq => h q (List.mem_cons_of_mem _ hq))
theorem each_vals : ∀ {xs : List V} {ds : List PyData} {its : List Value}, Vals xs its → xs.length = ds.length → PySem.W.EachIs (fun (v : Value) (b : V × PyData) => RelV b.1 v) its (xs.zip ds)
  | _, [], _, .nil, _ => .nil
  | _, _ :: _, _, .nil, h => by simp at h
  | _, [], _, .cons _ _, h => by simp at h
  | _, d :: ds, _, .cons r t, h => .cons r (each_vals t (by simpa using h))
theorem each_reads {X : Cx} {pins : List (Addr × Obj)} {σ : L2.St} {H : Hp} {s : Shared} (I : Inv X pins σ H s) : ∀ {xs : List V} {ds : List PyData} {its : List Value}, Vals xs its → DtAll X.K H xs ds → PySem.W.EachIs (fun (v : Value) (b : V × PyData) => ∃ as, PySem.Reads s.heap v b.2 as) its (xs.zip ds)
  | _, [], _, .nil, _ => .nil
  | _, _ :: _, _, .nil, h => by cases h
  | _, [], _, .cons _ _, h => by cases h
  | _, d :: ds, _, .cons r t, h => by
    cases h with
    | cons h1 h2 => exact .cons (Dp.reads I d _ _ (Dt.dp d _ h1) r) (each_reads I t h2)
theorem dtAll_len {K : PySem.W.Frag} {H : Hp} : ∀ {xs : List V} {ds : List PyData}, DtAll K H xs ds → xs.length = ds.length
  | _, [], h => by cases h; rfl
  | _, d :: ds, h => by
    cases h with
    | cons h1 h2 => simp [dtAll_len h2]
theorem each_rel : ∀ {out : List Value} {bs : List (V × PyData)}, PySem.W.EachIs (fun (v : Value) (b : V × PyData) => RelV b.1 v) out bs → Vals (bs.map (·.1)) out
  | _, _, .nil => .nil
  | _, _, .cons h t => .cons h (each_rel t)
theorem cr_sortD {X : Cx} (hu : X.A.units + 64 < cLine) : CallR X (.builtin "sorted") (rSortD X.K) := by
  intro pins s σ H vs us Q I r h
  obtain ⟨a, xs, ds, rfl, hs, hd, hsort, q⟩ := h
  obtain ⟨its, rv, hl, hz⟩ := I.list hs
  rw [Vals.ref1 r]
  have hlen := dtAll_len hd
  unfold sortable at hsort
  simp only [Bool.and_eq_true, Bool.or_eq_true] at hsort
  obtain ⟨⟨h1, h2⟩, h3⟩ := hsort
  have hsnd : (xs.zip ds).map (fun b : V × PyData => b.2) = ds := zip_snd hlen
  have hal : PySem.W.AllAlike ((xs.zip ds).map (fun b : V × PyData => b.2)) := by
    rw [hsnd]
    intro d hd' d' hd2
    unfold allAlike at h1
    rw [List.all_eq_true] at h1
    have z := h1 d hd'
    rw [List.all_eq_true] at z
    exact z d' hd2
  have hk : PySem.W.Sortable ((xs.zip ds).map (fun b : V × PyData => b.2)) := by
    rw [hsnd]
    rcases h2 with h2 | h2
    · refine .inl fun d hd' => ?_
      rw [List.all_eq_true] at h2
      have z := h2 d hd'
      cases d with
      | tuple l =>
        cases l with
        | nil => simp [isTup1] at z
        | cons x r => exact ⟨x, r, rfl⟩
      | _ => simp [isTup1] at z
    · refine .inr fun d hd' => ?_
      rw [List.all_eq_true] at h2
      have z := h2 d hd'
      refine ⟨fun e => ?_, fun xs e => ?_⟩
      · subst e; simp [isOther] at z
      · subst e; simp [isOther] at z
  rw [List.all_eq_true] at h3
  have hzl : (xs.zip ds).length = xs.length := by rw [List.length_zip, ← hlen, Nat.min_self]
  refine PySem.W.sorted_data (vs := its) (bs := xs.zip ds) (enc := fun b => b.2) (R := fun v b => RelV b.1 v) hl.isList (each_vals rv hlen) (each_reads I rv hd) hal hk (by rw [hzl]; exact hz) (fun b hb => ?_) fun out ho he => ?_
  · have hm : b.2 ∈ ds := by
      rw [← hsnd]
      exact List.mem_map_of_mem (f := fun b : V × PyData => b.2) hb
    have z := of_decide_eq_true (h3 b.2 hm)
    show X.A.units + 2 + b.2.depth < cLine
    omega
  · obtain ⟨ep, he'⟩ := PyProof.Rows.sortedAll_at s.heap its (List.toArray out)
    have hv := each_rel he
    have hol : (((xs.zip ds).mergeSort (PySem.W.dataLe false fun b : V × PyData => b.2)).map (·.1)).length = xs.length := by
      rw [List.length_map, List.length_mergeSort, hzl]
    refine ⟨.ref _, _, I.laid (t' := s.toks) (o := .lst (((xs.zip ds).mergeSort (PySem.W.dataLe false fun b : V × PyData => b.2)).map (·.1))) (fun _ _ => PyProof.Rows.sortedAll_old) (Nat.le_succ _) ⟨by rw [hol]; exact hz, out, ep, hv, ?_⟩, rfl, q _ _ hol (I.hok.fresh (Nat.le_succ _)) fun Hb dz => ?_⟩
    · simpa using he'
    · have hm : ((xs.zip ds).mergeSort (PySem.W.dataLe false fun b : V × PyData => b.2)).map (·.2) = sortD ds := by
        have z := PySem.W.sort_maps (fun b : V × PyData => b.2) (r := PySem.W.dataLe false fun b : V × PyData => b.2) (s := PySem.W.dataLe false id) (l := xs.zip ds) fun a _ b _ => rfl
        rw [hsnd] at z
        exact z
      rw [← hm]
      exact all_pairs fun p hp => zip_all dz p ((List.mergeSort_perm _ _).mem_iff.mp hp)
theorem s_sorted {K : PySem.W.Frag} {mg : Str → Option Value} : SimCL K mg (rSortD K) gSorted := by
  intro w H0 Hb0 as Hb H M σ ws vs r wr Q gd
  match ws, gd with
  | [], gd => exact gd.elim
  | _ :: _ :: _, gd => exact gd.elim
  | [x], gd =>
    obtain ⟨v, rfl, wx⟩ := one_arg_of wr
    unfold gSorted at gd
    cases e : view M x with
    | none => simp only [e] at gd; exact gd.elim
    | some d =>
      cases d with
      | list ds =>
        simp only [e] at gd
        by_cases hc : sortable ds = true
        · simp only [hc, if_true] at gd
          obtain ⟨a, xs, rfl, h1, dz, z⟩ := viewL_ok r wx e
          refine ⟨a, xs, ds, rfl, SqL.of h1, (of_dzAll (dzAll_mono r.sub dz)).1, hc, fun ys p hl hp hh => ?_⟩
          have hy := hh Hb dz
          have hlen : (sortD ds).length = ds.length := List.length_mergeSort ds
          exact Good.ok gd (r.newAny hp) ⟨p, ys, rfl, upd_same, by rw [List.length_map, hlen]; exact z, wrs_of hy, fun hm => r.al p hm hp, r.hbn hp, r.h0n hp⟩
        · simp only [hc, if_false] at gd
          exact gd.elim
      | _ => simp only [e] at gd; exact gd.elim

/-! ### isinstance -/
def tagD : PyData → String
  | .none => "NoneType"
  | .bool _ => "bool"
  | .int _ => "int"
  | .str _ => "str"
  | .list _ => "list"
  | .tuple _ => "tuple"
  | .dict _ => "dict"
def tagW (M : Ms) : W → Option String
  | .d x => some (tagD x)
  | .r i => match M[i]? with
    | some (.lst _) => some "list"
    | some (.dic false _) => some "dict"
    | _ => none
  | .k _ => none
/-- the answer for two built-in types -/
def isTy (a b : String) : Bool := a == b || (a == "bool" && b == "int")
theorem isTy_ok (a b : String) (ha : a ∈ ["NoneType", "bool", "int", "str", "list", "tuple", "dict"]) (hb : b ∈ ["bool", "int", "str", "list", "tuple", "dict"]) : kitB a b = some (isTy a b) := by
  simp only [List.mem_cons, List.mem_nil_iff, or_false] at ha hb
  rcases ha with rfl | rfl | rfl | rfl | rfl | rfl | rfl <;> rcases hb with rfl | rfl | rfl | rfl | rfl | rfl <;> decide +kernel
section
variable {K : PySem.W.Frag} {mg : Str → Option Value}
theorem tagD_mem (x : PyData) : tagD x ∈ ["NoneType", "bool", "int", "str", "list", "tuple", "dict"] := by
  cases x <;> simp [tagD]
theorem dt_ty {H : Hp} {v : V} {x : PyData} (h : Dt K H v x) : TyX K H v (.type (tagD x)) := by
  cases h with
  | non => exact .base .non
  | bl b => exact .base (.bl b)
  | int i => exact .base (.int i)
  | str s => exact .base (.str s)
  | lst hs ha => exact .base (.lst hs)
  | tup hs ha =>
    rcases hs with (h | ⟨o, h⟩) | ⟨o, its, n, h, hc, _⟩
    · exact .base (.tup h)
    · exact .fTuple h
    · exact .kTuple h hc
theorem tag_ok {H0 Hb0 Hb H : Hp} {as : List Addr} {M : Ms} {x : W} {v : V} {t : String} (r : Rel K H0 Hb0 as Hb H M) (h : WR K as Hb v x) (e : tagW M x = some t) : TyX K H v (.type t) ∧ t ∈ ["NoneType", "bool", "int", "str", "list", "tuple", "dict"] := by
  cases x with
  | d y =>
    simp only [tagW, Option.some.injEq] at e
    subst e
    exact ⟨dt_ty (Dz.mono r.sub h).1, tagD_mem y⟩
  | r i =>
    obtain ⟨a, h1, rfl⟩ := h
    simp only [tagW] at e
    cases hm : M[i]? with
    | none => rw [hm] at e; simp at e
    | some o =>
      rw [hm] at e
      cases o with
      | lst ws =>
        simp only [Option.some.injEq] at e
        subst e
        obtain ⟨z, vs, h2, h3⟩ := r.at' i a _ h1 hm
        exact ⟨.base (.lst h2), by simp⟩
      | dic t' kvs =>
        cases t' with
        | true => simp at e
        | false =>
          simp only [Option.some.injEq] at e
          subst e
          obtain ⟨z, u, h2, vs, rfl, h3⟩ := r.at' i a _ h1 hm
          exact ⟨.base (.dK h2), by simp⟩
      | dlk _ _ => simp at e
      | ins _ _ => simp at e
      | gone => simp at e
  | k u => simp [tagW] at e
def tyOk (t : String) : Bool := ["bool", "int", "str", "list", "tuple", "dict"].contains t
def gIsi : List W → Ms → R W := fun ws M => match ws with
  | [x, .k (.ty t)] => (match tagW M x with
    | some a => if tyOk t = true then .ok (.d (.bool (isTy a t))) M else .stuck
    | none => .stuck)
  | _ => .stuck
theorem s_isi : SimC K mg (rIsi K) gIsi := by
  intro w H0 Hb0 as Hb H M σ ws vs r wr Q gd
  match ws, gd with
  | [], gd => exact gd.elim
  | [x, .k (.ty t)], gd =>
    obtain ⟨v, u, rfl, wx, wy⟩ := two_args_of wr
    have eu : u = .ty t := wy
    subst eu
    unfold gIsi at gd
    cases e : tagW M x with
    | none => simp only [e] at gd; exact gd.elim
    | some a =>
      simp only [e] at gd
      by_cases hc : tyOk t = true
      · simp only [hc, if_true] at gd
        obtain ⟨ty, hm⟩ := tag_ok r wx e
        have ht : t ∈ ["bool", "int", "str", "list", "tuple", "dict"] := by simpa [tyOk] using hc
        exact ⟨v, .ty t, .type a, .type t, isTy a t, rfl, .ty t, ty, kit_ty (isTy_ok a t hm ht), Good.ok gd r (wr_bl _)⟩
      · simp only [hc, if_false] at gd
        exact gd.elim
/-- isinstance(x, (T1, T2)) -/
def pIsi2 (p : PEx) (t1 t2 : String) : PEx := fun s M => (p s M).bind fun x M1 => match tagW M1 x with
  | some a => if tyOk t1 = true ∧ tyOk t2 = true then .ok (.d (.bool (isTy a t1 || isTy a t2))) M1 else .stuck
  | none => .stuck
end
section
variable {X : Cx} {w : WX} {x c1 c2 : Str} {e : Expr} {pe : PEx} {p p1 p2 pos pt : Pos} {k : Nat} {t1 t2 : String}
theorem je_isi2 (hm : X.mg "isinstance" = none) (h1 : X.mg c1 = none) (h2 : X.mg c2 = none) (ha : JE X w e pe) (v1 : bootBuiltins c1 = some (.type t1) := by decide +kernel) (v2 : bootBuiltins c2 = some (.type t2) := by decide +kernel)
    (hg : Gl X "isinstance" := by rfl) (g1 : Gl X c1 := by rfl) (g2 : Gl X c2 := by rfl) (n1 : c1 ≠ "__name__" := by decide) (n2 : c2 ≠ "__name__" := by decide) (d1 : (c1 == ("__debug__" : Str)) = false := by decide) (d2 : (c2 == ("__debug__" : Str)) = false := by decide)
    (he : starEach (e :: [.Tuple [.Name c1 p1, .Name c2 p2] k pt]) X.env = (false, eval e X.env) :: starEach [.Tuple [.Name c1 p1, .Name c2 p2] k pt] X.env := by rfl)
    (he2 : starEach (.Tuple [.Name c1 p1, .Name c2 p2] k pt :: []) X.env = (false, eval (.Tuple [.Name c1 p1, .Name c2 p2] k pt) X.env) :: starEach [] X.env := by rfl)
    (he3 : starEach (.Name c1 p1 :: [.Name c2 p2]) X.env = (false, eval (.Name c1 p1) X.env) :: starEach [.Name c2 p2] X.env := by rfl)
    (he4 : starEach (.Name c2 p2 :: []) X.env = (false, eval (.Name c2 p2) X.env) :: starEach [] X.env := by rfl)
    (hpl : (backTo pos (starEach [.Tuple [.Name c1 p1, .Name c2 p2] k pt] X.env)).any (·.1) = false := by rfl) :
    JE X w (.Call (.Name "isinstance" p) [e, .Tuple [.Name c1 p1, .Name c2 p2] k pt] [] pos) (pIsi2 pe t1 t2) := by
  obtain ⟨t, ea, sa⟩ := ha
  refine ⟨_, pe_callB call_isiT hg hm (by decide +kernel) (pa_cons ea (pa_cons (pe_tup (pa_cons (pe_bltn (v := .ty t1) g1 h1 v1 rfl n1 d1) (pa_cons (pe_bltn (v := .ty t2) g2 h2 v2 rfl n2 d2) pa_nil he4) he3)) pa_nil he2) he) (by decide) (by decide) he hpl, fun H0 Hb0 as Hb H M σ s r S Q gd => ?_⟩
  refine Good.bind sa r S gd fun v x as1 Hb1 H1 M1 r1 f1 S1 w1 g1 => ?_
  cases e : tagW M1 x with
  | none => simp only [e] at g1; exact g1.elim
  | some a =>
    simp only [e] at g1
    by_cases hc : tyOk t1 = true ∧ tyOk t2 = true
    · simp only [hc, and_self, if_true] at g1
      refine ⟨by show 2 ≤ sizeLine; decide, fun q hq => ?_⟩
      have r2 := r1.newAny (o := .tup [.ty t1, .ty t2]) hq
      obtain ⟨ty, hm⟩ := tag_ok r2 w1 e
      have ht1 : t1 ∈ ["bool", "int", "str", "list", "tuple", "dict"] := by simpa [tyOk] using hc.1
      have ht2 : t2 ∈ ["bool", "int", "str", "list", "tuple", "dict"] := by simpa [tyOk] using hc.2
      refine ⟨v, q, [.ty t1, .ty t2], .type a, [.type t1, .type t2], isTy a t1 || isTy a t2, rfl, upd_same, .cons (.ty t1) (.cons (.ty t2) .nil), ty, ?_, Good.ok g1 r2 (wr_bl _)⟩
      have k1 : PySem.W.kitOne X.K (.type a) (.type t1) = some (isTy a t1) := kit_ty (isTy_ok a t1 hm ht1)
      have k2 : PySem.W.kitOne X.K (.type a) (.type t2) = some (isTy a t2) := kit_ty (isTy_ok a t2 hm ht2)
      refine kitAny_cons k1 (fun h => kitAny_cons k2 (fun h' => ?_) fun h' => ?_) fun h => ?_
      · rw [h, h']; exact kitAny_nil
      · rw [h, h']; rfl
      · rw [h]; rfl
    · simp only [hc, if_false] at g1
      exact g1.elim
end
end Z

set_option linter.all false
set_option autoImplicit false
set_option maxRecDepth 100000
set_option maxHeartbeats 4000000
namespace Z
open PySem PySem.Spec PyProof.Rows L2

/-! ### defs: what a body comes to, what a def promises -/
abbrev PF := List W → Ms → R W
def O.toR : O → R W
  | .nx _ m => .ok (.d .none) m
  | .rt x m => .ok x m
  | .exc e _ m => .exc e m
  | _ => .stuck
def startS (n : Nat) (ws : List W) : Sl := ws.map some ++ List.replicate (n - ws.length) none
/-- n slots, k parameters -/
def runG (n k : Nat) (b : PSx) : PF := fun ws M => if ws.length = k then (b (startS n ws) M).toR else .stuck
def SpG (K : PySem.W.Frag) (mg : Str → Option Value) (F : PF) : Sp := fun vs H Q E =>
  ∃ (H0 Hb0 : Hp) (as : List Addr) (Hb : Hp) (M : Ms) (ws : List W), Rel K H0 Hb0 as Hb H M ∧ WRs K as Hb vs ws ∧ Good (repW K) K mg (fun c d _ H' => E c d H') H0 Hb0 as Hb ([] : L2.St) Q (F ws M)
theorem slots_none {K : PySem.W.Frag} {as : List Addr} {Hb : Hp} : ∀ n : Nat, Slots K as Hb (List.replicate n none) (List.replicate n none)
  | 0 => .nil
  | n + 1 => .cons (fun _ e => by cases e) (slots_none n)
theorem slots_start {K : PySem.W.Frag} {as : List Addr} {Hb : Hp} {N : List Str} {vs : List V} {ws : List W} (h : WRs K as Hb vs ws) : Slots K as Hb (L2.start N vs) (startS N.length ws) := by
  unfold L2.start startS
  rw [Paired.len h]
  refine Paired.app ?_ (slots_none _)
  induction h with
  | nil => exact .nil
  | cons h1 h2 ih => exact .cons (fun u e => ⟨_, rfl, by cases e; exact h1⟩) ih
section
variable {P : Program} {w : World} {K : PySem.W.Frag} {mg : Str → Option Value} {base : Heap}
theorem SpG.len {n k : Nat} {b : PSx} {vs : List V} {H : Hp} {Q : VK} {E : XK} (h : SpG K mg (runG n k b) vs H Q E) : vs.length = k := by
  obtain ⟨H0, Hb0, as, Hb, M, ws, r, wr, g⟩ := h
  unfold runG at g
  by_cases z : ws.length = k
  · rw [Paired.len wr, z]
  · simp only [z, if_false] at g
    exact g.elim
theorem body_G {X : Cx} {N : List Str} {body : List Stmt} {b : PSx} {k : Nat} {H : Hp} {vs : List V} {Q : VK} {E : XK} (hX : X.K = K) (hm : X.mg = mg) (hsp : SpG K mg (runG N.length k b) vs H Q E) (j : JSs X (fun c d _ H' => E c d H') body b) :
    ∃ t, PSs X body t ∧ t { nx := fun _ H' => Q .non H', rt := Q } (L2.start N vs) H := by
  subst hX hm
  obtain ⟨t, e, sm⟩ := j
  obtain ⟨H0, Hb0, as, Hb, M, ws, r, wr, g⟩ := hsp
  unfold runG at g
  by_cases z : ws.length = k
  · simp only [z, if_true] at g
    refine ⟨t, e, sm H0 Hb0 as Hb H M _ _ r (slots_start wr) _ ?_⟩
    cases q : b (startS N.length ws) M with
    | nx s' M' => rw [q] at g; exact fun σ' as' Hb' H' r' f' S' => g .non as' Hb' H' r' f' wr_non
    | rt x M' => rw [q] at g; exact fun v as' Hb' H' r' f' w' => g v as' Hb' H' r' f' w'
    | exc e s' M' => rw [q] at g; exact fun σ' as' Hb' H' cls d r' f' S' er => g as' Hb' H' cls d r' f' er
    | bk s' M' => rw [q] at g; exact g.elim
    | ct s' M' => rw [q] at g; exact g.elim
    | stuck => rw [q] at g; exact g.elim
  · simp only [z, if_false] at g
    exact g.elim
/-- a def of the text -/
theorem fn_G {x qual : Str} {st : Stmt} {f : Addr} {fd : FuncData} {N ps : List Str} {k : Nat} {b : PSx} (F : Fun K x qual st f fd) (S : FnScope N ps (defScope st))
    (hb : ∀ (cdv : Value) (A : Around) (outer : List Env) (s : Shared) (H : Hp) (E : XK), Room k (A.deeper (envOfC qual (defScope st) s.heap.objs.size f cdv)) → JSs (cxOf (L2N.CX P w) P w K mg base N qual (defScope st) f cdv A outer s H E) (fun c d _ H' => E c d H') (defBody st) b) :
    FnOk P w K mg base (L2N.CX P w) (k + 1) f fd ps (SpG K mg (runG N.length ps.length b)) :=
by
  obtain ⟨oc, od, kV, doc, pm, an, cdv, ct, osl, rfl, lk, hcd⟩ := F.ex
  exact fn_of lk hcd S (fun vs H Q E h => h.len) fun A outer s H vs Q E hr hsp => body_G rfl rfl hsp (hb cdv A outer s H E hr)
/-- .. with defaults -/
theorem fn_GD {x qual : Str} {params : Arguments} {body : List Stmt} {scope : Scope} {dvs : List V} {kws : List (Str × V)} {f : Addr} {fd : FuncData} {N ps : List Str} {k : Nat} {b : PSx} (F : FunD K x qual params body scope dvs kws f fd) (S : FnScope N ps scope)
    (hb : ∀ (cdv : Value) (A : Around) (outer : List Env) (s : Shared) (H : Hp) (E : XK), Room k (A.deeper (envOfC qual scope s.heap.objs.size f cdv)) → JSs (cxOf (L2N.CX P w) P w K mg base N qual scope f cdv A outer s H E) (fun c d _ H' => E c d H') body b) :
    FnOk P w K mg base (L2N.CX P w) (k + 1) f fd ps (SpG K mg (runG N.length ps.length b)) :=
  F.ok S (fun vs H Q E h => h.len) fun cdv A outer s H vs Q E hr hsp => body_G rfl rfl hsp (hb cdv A outer s H E hr)
end

/-! ### calls -/
theorem pass0 {X : Cx} {σ : L2.St} : PassesAt (L2N.CX X.prog X.w) X σ (WE wNone σ) := fun _ _ _ _ _ _ h => by
  obtain ⟨_, _, _, _, _, _, _, _, _, _, _, _, z⟩ := h
  exact z.elim
/-- a name that holds a def: its promise, its place -/
structure IsFn (P : Program) (w : World) (K : PySem.W.Frag) (mg : Str → Option Value) (base : Heap) (k : Nat) (x : Str) (ps : List Str) (dds : List PyData) (F : PF) : Prop where
  ex : ∃ f fd dvs ds, mg x = some (.ref f) ∧ PySem.W.keepIn K (.ref f) = true ∧ FnOk P w K mg base (L2N.CX P w) k f fd ps (SpG K mg F) ∧ Binds K fd ps ds ∧ Vals dvs ds ∧ DtAll K (fun _ => none) dvs dds ∧ fitsAll dds
theorem IsFn.mono {P : Program} {w : World} {K : PySem.W.Frag} {mg : Str → Option Value} {base : Heap} {j k : Nat} {x : Str} {ps : List Str} {dds : List PyData} {F : PF} (h : IsFn P w K mg base j x ps dds F) (l : j ≤ k) : IsFn P w K mg base k x ps dds F := by
  obtain ⟨f, fd, dvs, ds, h1, h2, h3, h4⟩ := h.ex
  exact ⟨f, fd, dvs, ds, h1, h2, h3.mono l, h4⟩
/-- the call as it stands: the callee works on what there is -/
def pCallG (F : PF) (dds : List PyData) (a : PAx) : PEx := fun s M => (a s M).bind fun ws M1 => F (ws ++ dds.map .d) M1
/-- the call of what changes nothing, with data, with lists seen as data; what it makes is data from now on -/
def viewAll (M : Ms) : List W → Option (List PyData)
  | [] => some []
  | x :: ws => match view M x with
    | some d => (viewAll M ws).map (d :: ·)
    | none => none
def scalar : PyData → Bool
  | .none => true | .bool _ => true | .int _ => true | .str _ => true | _ => false
/-- outcome of a pure call -/
inductive PR where
  | ok (d : PyData) | exc (e : Exn) | stuck
def R.freeze : R W → PR
  | .ok (.d x) _ => .ok x
  | .ok (.r i) m => match m[i]? with
    | some (.lst ws) => (match allD ws with
      | some ds => .ok (.list ds)
      | none => .stuck)
    | _ => .stuck
  | .ok (.k _) _ => .stuck
  | .exc e _ => .exc e
  | .stuck => .stuck
def PF.pure (F : PF) (ds : List PyData) : PR := (F (ds.map .d) []).freeze
def PR.to (r : PR) (M : Ms) : R W := match r with
  | .ok d => .ok (.d d) M
  | .exc e => .exc e M
  | .stuck => .stuck
def pCallP (F : PF) (dds : List PyData) (a : PAx) : PEx := fun s M => (a s M).bind fun ws M1 => match allD ws with
  | some ds => (F.pure (ds ++ dds)).to M1
  | none => match viewAll M1 ws with
    | some ds => (match F.pure (ds ++ dds) with
      | .ok d => if scalar d then .ok (.d d) M1 else .stuck
      | .exc e => .exc e M1
      | .stuck => .stuck)
    | none => .stuck
theorem rel_self {K : PySem.W.Frag} {H Hb : Hp} (h : Same Hb H) : Rel K H Hb [] Hb H [] where
  sub := h
  top := Same.refl _
  len := rfl
  nd := .nil
  al := fun a ha => by cases ha
  off := fun i a o h1 => by simp at h1
  off0 := fun a ha => by cases ha
  b0 := Same.refl _
  at' := fun i a o h1 => by simp at h1
  hb0 := fun a h1 h2 => absurd h2 h1
theorem viewAll_ok {K : PySem.W.Frag} {H0 Hb0 Hb H : Hp} {as : List Addr} {M : Ms} (r : Rel K H0 Hb0 as Hb H M) : ∀ {ws : List W} {vs : List V} {ds : List PyData}, WRs K as Hb vs ws → viewAll M ws = some ds → DzAll K H vs ds
  | [], _, _, h, e => by cases h; simp [viewAll] at e; subst e; exact .nil
  | x :: ws, _, ds, h, e => by
    cases h with
    | cons h1 h2 =>
      unfold viewAll at e
      cases ex : view M x with
      | none => rw [ex] at e; cases e
      | some d =>
        rw [ex] at e
        simp only [Option.map_eq_some_iff] at e
        obtain ⟨r1, e1, rfl⟩ := e
        exact .cons (view_ok r h1 ex) (viewAll_ok r h2 e1)
theorem scalar_any {K : PySem.W.Frag} {H H' : Hp} {v : V} {d : PyData} (h : Dz K H v d) (s : scalar d = true) : Dz K H' v d := by
  obtain ⟨h1, h2⟩ := h
  cases h1 with
  | non => exact ⟨.non, trivial⟩
  | bl b => exact ⟨.bl b, trivial⟩
  | int i => exact ⟨.int i, trivial⟩
  | str x => exact ⟨.str x, h2⟩
  | lst _ _ => cases s
  | tup _ _ => cases s
/-- what a pure call leaves -/
theorem freeze_ok {K : PySem.W.Frag} {mg : Str → Option Value} {wE : WX} {σ : L2.St} {H H0 Hb0 Hb Hc : Hp} {as : List Addr} {M : Ms} {Q : VK} {r : R W} (R0 : Rel K H0 Hb0 as Hb H M) (hc : Same Hc H)
    (ok : ∀ d, r.freeze = .ok d → ∀ v H' Hb', Same H H' → Same Hc Hb' → Same Hb' H' → (∀ a, Hb' a ≠ none → Hc a = none → H a = none) → Dz K Hb' v d → Q v H')
    (ex : ∀ e, r.freeze = .exc e → ∀ H' cls d, Same H H' → ExnR K mg e cls d H' → wE cls d σ H')
    (st : r.freeze ≠ .stuck) : Good (repW K) K mg (fun c d _ H' => wE c d σ H') H Hc [] Hc ([] : L2.St) Q r := by
  cases r with
  | stuck => exact (st rfl).elim
  | exc e m => exact fun as' Hb' H' cls d r' f' er => ex e rfl H' cls d r'.top er
  | ok x m =>
    intro v as' Hb' H' r' f' wr
    cases x with
    | d x => exact ok x rfl v H' Hb' r'.top f'.ex r'.sub r'.hb0 wr
    | k u => exact (st rfl).elim
    | r i =>
      obtain ⟨a, ha, rfl⟩ := wr
      cases hm : m[i]? with
      | none => exact (st (by simp [R.freeze, hm])).elim
      | some o =>
        cases o with
        | ins _ _ => exact (st (by simp [R.freeze, hm])).elim
        | dic _ _ => exact (st (by simp [R.freeze, hm])).elim
        | dlk _ _ => exact (st (by simp [R.freeze, hm])).elim
        | gone => exact (st (by simp [R.freeze, hm])).elim
        | lst ws =>
          cases hd : allD ws with
          | none => exact (st (by simp [R.freeze, hm, hd])).elim
          | some ds =>
            obtain ⟨z, vs, h2, h3⟩ := r'.at' i a _ ha hm
            have hbn := r'.off i a _ ha hm rfl
            have h0n := r'.off0 a (List.mem_of_getElem? ha)
            have dz := allD_ok h3 hd
            have hl : ws.length = ds.length := (Paired.len h3).symm.trans (Paired.len dz)
            refine ok (.list ds) (by simp [R.freeze, hm, hd]) (.ref a) H' (upd Hb' a (.lst vs)) r'.top (f'.ex.trans (same_new hbn)) (fun b u e => ?_) (fun b h1 h2 => ?_) (dz_lst upd_same (dzAll_mono (same_new hbn) dz) (hl ▸ z))
            · by_cases hb : b = a
              · subst hb; rw [upd_same] at e; cases e; exact h2
              · rw [upd_ne hb] at e; exact r'.sub b u e
            · by_cases hb : b = a
              · subst hb; exact h0n
              · rw [upd_ne hb] at h1; exact r'.hb0 b h1 h2
section
variable {X : Cx} {w : WX} {k : Nat} {x : Str} {ps : List Str} {dds : List PyData} {F : PF} {e : Expr} {es : List Expr} {pa : PAx} {p pos : Pos}
theorem dz_nil {K : PySem.W.Frag} {Hb : Hp} : ∀ {dvs : List V} {dds : List PyData}, DtAll K (fun _ => none) dvs dds → fitsAll dds → DzAll K Hb dvs dds
  | _, _, h, f => dzAll_mono (fun _ _ z => by cases z) (dzAll_of h f)
theorem je_callG (hF : IsFn X.prog X.w X.K X.mg X.base k x ps dds F) (hr : Room k X.A) (hx : ∀ σ, PassesAt (L2N.CX X.prog X.w) X σ (WE w σ)) (ha : JA X w (e :: es) pa) (hg : Gl X x := by rfl) (hdb : (x == ("__debug__" : Str)) = false := by decide)
    (he : starEach (e :: es) X.env = (false, eval e X.env) :: starEach es X.env := by rfl) (hpl : (backTo pos (starEach es X.env)).any (·.1) = false := by rfl) : JE X w (.Call (.Name x p) (e :: es) [] pos) (pCallG F dds pa) := by
  obtain ⟨f, fd, dvs, ds, hm, hk, hf, hb, hv, hd, hz⟩ := hF.ex
  obtain ⟨t, ea, sa⟩ := ha
  refine ⟨_, pe_callSD hf hr hg hm hk hb hv hx ea hdb he hpl, fun H0 Hb0 as Hb H M σ s r S Q g => ?_⟩
  refine Good.bind sa r S g fun vs ws as1 Hb1 H1 M1 r1 f1 S1 w1 g1 => ?_
  refine ⟨H0, Hb0, as1, Hb1, M1, ws ++ dds.map .d, r1, Paired.app w1 (wrs_of (dz_nil hd hz)), ?_⟩
  cases q : F (ws ++ dds.map .d) M1 with
  | ok a m => rw [q] at g1; exact g1
  | exc a m => rw [q] at g1; exact g1
  | stuck => rw [q] at g1; exact g1
theorem allD_view {M : Ms} : ∀ {ws : List W} {ds : List PyData}, allD ws = some ds → ws = ds.map .d
  | [], _, e => by simp [allD] at e; subst e; rfl
  | .d x :: ws, ds, e => by
    simp only [allD, Option.map_eq_some_iff] at e
    obtain ⟨r, e1, rfl⟩ := e
    rw [allD_view (M := M) e1]; rfl
  | .r i :: ws, _, e => by simp [allD] at e
  | .k v :: ws, _, e => by simp [allD] at e
theorem je_callP (hF : IsFn X.prog X.w X.K X.mg X.base k x ps dds F) (hr : Room k X.A) (hx : ∀ σ, PassesAt (L2N.CX X.prog X.w) X σ (WE w σ)) (ha : JA X w (e :: es) pa) (hg : Gl X x := by rfl) (hdb : (x == ("__debug__" : Str)) = false := by decide)
    (he : starEach (e :: es) X.env = (false, eval e X.env) :: starEach es X.env := by rfl) (hpl : (backTo pos (starEach es X.env)).any (·.1) = false := by rfl) : JE X w (.Call (.Name x p) (e :: es) [] pos) (pCallP F dds pa) := by
  obtain ⟨f, fd, dvs, ds', hm, hk, hf, hb, hv, hd, hz⟩ := hF.ex
  obtain ⟨t, ea, sa⟩ := ha
  refine ⟨_, pe_callSD hf hr hg hm hk hb hv hx ea hdb he hpl, fun H0 Hb0 as Hb H M σ s r S Q g => ?_⟩
  refine Good.bind sa r S g fun vs ws as1 Hb1 H1 M1 r1 f1 S1 w1 g1 => ?_
  cases hall : allD ws with
  | some ds =>
    rw [hall] at g1
    have dz := allD_ok w1 hall
    have all : WRs X.K [] Hb1 (vs ++ dvs) ((ds ++ dds).map .d) := by
      rw [List.map_append]
      exact Paired.app (wrs_of dz) (wrs_of (dz_nil hd hz))
    refine ⟨H1, Hb1, [], Hb1, [], _, rel_self r1.sub, all, ?_⟩
    refine freeze_ok (wE := w) (σ := σ) r1 r1.sub (fun d q v H' Hb' e1 e2 e3 fr z => ?_) (fun e q H' cls d e1 er => ?_) (fun q => ?_)
    · have g2 : Good (repW X.K) X.K X.mg w H0 Hb0 as1 Hb1 σ Q (.ok (.d d) M1) := by
        have : (F.pure (ds ++ dds)).to M1 = .ok (.d d) M1 := by unfold PF.pure; rw [q]; rfl
        rw [← this]; exact g1
      exact g2 v as1 Hb' H' (r1.grow e1 e2 e3 fr) ⟨e2, [], by simp⟩ z
    · have g2 : Good (repW X.K) X.K X.mg w H0 Hb0 as1 Hb1 σ Q (.exc e M1) := by
        have : (F.pure (ds ++ dds)).to M1 = .exc e M1 := by unfold PF.pure; rw [q]; rfl
        rw [← this]; exact g1
      exact g2 as1 Hb1 H' cls d (r1.grow e1 (Same.refl _) (r1.sub.trans e1) (fun a h1 h2 => absurd h2 h1)) Fut.refl er
    · have : (F.pure (ds ++ dds)).to M1 = .stuck := by unfold PF.pure; rw [q]; rfl
      have g2 : Good (repW X.K) X.K X.mg w H0 Hb0 as1 Hb1 σ Q .stuck := by rw [← this]; exact g1
      exact g2.elim
  | none =>
    rw [hall] at g1
    cases hva : viewAll M1 ws with
    | none => rw [hva] at g1; exact g1.elim
    | some ds =>
      rw [hva] at g1
      have dz := viewAll_ok r1 w1 hva
      have all : WRs X.K [] H1 (vs ++ dvs) ((ds ++ dds).map .d) := by
        rw [List.map_append]
        exact Paired.app (wrs_of dz) (wrs_of (dz_nil hd hz))
      refine ⟨H1, H1, [], H1, [], _, rel_self (Same.refl _), all, ?_⟩
      refine freeze_ok (wE := w) (σ := σ) r1 (Same.refl _) (fun d q v H' Hb' e1 e2 e3 fr z => ?_) (fun e q H' cls d e1 er => ?_) (fun q => ?_)
      · have qq : F.pure (ds ++ dds) = .ok d := q
        simp only [qq] at g1
        by_cases sc : scalar d = true
        · simp only [sc, if_true] at g1
          exact g1 v as1 Hb1 H' (r1.grow e1 (Same.refl _) (r1.sub.trans e1) (fun a h1 h2 => absurd h2 h1)) Fut.refl (scalar_any z sc)
        · simp only [sc] at g1
          exact g1.elim
      · have qq : F.pure (ds ++ dds) = .exc e := q
        simp only [qq] at g1
        exact g1 as1 Hb1 H' cls d (r1.grow e1 (Same.refl _) (r1.sub.trans e1) (fun a h1 h2 => absurd h2 h1)) Fut.refl er
      · have qq : F.pure (ds ++ dds) = .stuck := q
        simp only [qq] at g1
        exact g1.elim
end
end Z

set_option linter.all false
set_option autoImplicit false
set_option maxRecDepth 100000
set_option maxHeartbeats 4000000
namespace Z
open PySem PySem.Spec PyProof.Rows L2

/-! ### instances -/
def insOf (C : Addr) (M : Ms) : W → Option (Nat × List (Str × W))
  | .r i => match M[i]? with
    | some (.ins C' fs) => if C' = C then some (i, fs) else none
    | _ => none
  | _ => none
def putW (f : Str) (v : W) : List (Str × W) → List (Str × W)
  | [] => [(f, v)]
  | (g, x) :: r => if g = f then (g, v) :: r else (g, x) :: putW f v r
abbrev PairF (K : PySem.W.Frag) (as : List Addr) (Hb : Hp) : List (Str × V) → List (Str × W) → Prop := Paired (fun (p : Str × V) (q : Str × W) => p.1 = q.1 ∧ WR K as Hb p.2 q.2)
section
variable {K : PySem.W.Frag} {H0 Hb0 Hb H : Hp} {as : List Addr} {M : Ms} {v : V} {x : W} {C : Addr}
theorem insOf_ok (r : Rel K H0 Hb0 as Hb H M) (h : WR K as Hb v x) {i : Nat} {fs : List (Str × W)} (e : insOf C M x = some (i, fs)) : ∃ a dx fv, x = .r i ∧ as[i]? = some a ∧ v = .ref a ∧ H a = some (.ins C dx fv) ∧ PairF K as Hb fv fs ∧ M[i]? = some (.ins C fs) := by
  cases x with
  | d _ => cases e
  | k _ => cases e
  | r j =>
    obtain ⟨a, h1, rfl⟩ := h
    simp only [insOf] at e
    cases hm : M[j]? with
    | none => rw [hm] at e; cases e
    | some o =>
      rw [hm] at e
      cases o with
      | lst _ => cases e
      | dic _ _ => cases e
      | dlk _ _ => cases e
      | gone => cases e
      | ins C' gs =>
        by_cases hc : C' = C
        · simp only [hc, if_true, Option.some.injEq, Prod.mk.injEq] at e
          obtain ⟨rfl, rfl⟩ := e
          subst hc
          obtain ⟨dx, fv, h2, h3⟩ := r.at' j a _ h1 hm
          exact ⟨a, dx, fv, rfl, h1, rfl, h2, h3, hm⟩
        · simp only [hc, if_false] at e
          cases e
theorem lookup_pf {fv : List (Str × V)} {fs : List (Str × W)} {f : Str} (h : PairF K as Hb fv fs) : (∀ y, fs.lookup f = some y → ∃ u, fv.lookup f = some u ∧ WR K as Hb u y) ∧ (fs.lookup f = none → fv.lookup f = none) := by
  induction h with
  | nil => exact ⟨fun y e => (by cases e), fun _ => rfl⟩
  | @cons p q l m h1 h2 ih =>
    obtain ⟨p1, p2⟩ := p
    obtain ⟨q1, q2⟩ := q
    obtain ⟨e1, e2⟩ := h1
    dsimp only at e1 e2
    subst e1
    simp only [List.lookup_cons]
    cases hk : f == p1 with
    | true => exact ⟨fun y e => ⟨p2, rfl, by cases e; exact e2⟩, fun e => by cases e⟩
    | false => exact ih
theorem putW_pf {fv : List (Str × V)} {fs : List (Str × W)} {f : Str} {u : V} {y : W} (hu : WR K as Hb u y) (h : PairF K as Hb fv fs) : PairF K as Hb (putF f u fv) (putW f y fs) := by
  induction h with
  | nil => exact .cons ⟨rfl, hu⟩ .nil
  | @cons p q l m h1 h2 ih =>
    obtain ⟨p1, p2⟩ := p
    obtain ⟨q1, q2⟩ := q
    obtain ⟨e1, e2⟩ := h1
    dsimp only at e1 e2
    subst e1
    show PairF K as Hb (if p1 = f then (p1, u) :: l else (p1, p2) :: putF f u l) (if p1 = f then (p1, y) :: m else (p1, q2) :: putW f y m)
    by_cases hc : p1 = f
    · rw [if_pos hc, if_pos hc]; exact .cons ⟨rfl, hu⟩ h2
    · rw [if_neg hc, if_neg hc]; exact .cons ⟨rfl, e2⟩ ih
end
def pFld (C : Addr) (f : Str) (p : PEx) : PEx := fun s M => (p s M).bind fun x M1 => match insOf C M1 x with
  | some (_, fs) => (match fs.lookup f with
    | some y => .ok y M1
    | none => .stuck)
  | none => .stuck
def pSetF (C : Addr) (f : Str) (pv po : PEx) : PSx := fun s M => (pv s M).to s fun y M1 => (po s M1).to s fun x M2 => match insOf C M2 x with
  | some (i, fs) => if fs.length < 1000 then .nx s (M2.set i (.ins C (putW f y fs))) else .stuck
  | none => .stuck
section
variable {X : Cx} {w : WX} {C : Addr} {f : Str} {e o value : Expr} {pe po pv : PEx} {pos pos' : Pos}
theorem je_fld (cl : Cls X.K C) (na : NoAttr X.K C f) (h : JE X w e pe) (hb : attributeBase e f X.env (eval e X.env) = eval e X.env := by rfl) : JE X w (.Attribute e f pos) (pFld C f pe) := by
  obtain ⟨t, e1, s1⟩ := h
  refine ⟨_, pe_fld e1 hb, fun H0 Hb0 as Hb H M σ s r S Q g => ?_⟩
  refine Good.bind s1 r S g fun v x as1 Hb1 H1 M1 r1 f1 S1 w1 g1 => ?_
  cases hi : insOf C M1 x with
  | none => rw [hi] at g1; exact g1.elim
  | some p =>
    obtain ⟨i, fs⟩ := p
    rw [hi] at g1
    obtain ⟨a, dx, fv, rfl, ha, rfl, hH, hp, hm⟩ := insOf_ok r1 w1 hi
    dsimp only at g1
    cases hl : fs.lookup f with
    | none => rw [hl] at g1; exact g1.elim
    | some y =>
      rw [hl] at g1
      obtain ⟨u, hu, wu⟩ := (lookup_pf hp).1 y hl
      exact ⟨a, C, dx, fv, u, rfl, hH, cl, na, hu, Good.ok g1 r1 wu⟩
theorem js_fld (cl : Cls X.K C) (na : NoAttr X.K C f) (ho : JE X w o po) (hv : JE X w value pv) (hs : swapsWith value (some (.Attribute o f pos')) pos.line X.env = pure false := by rfl) : JS X w (.Assign [.Attribute o f pos'] value pos) (pSetF C f pv po) := by
  obtain ⟨t, e1, s1⟩ := ho
  obtain ⟨u, e2, s2⟩ := hv
  refine ⟨_, ps_fld e1 e2 hs, fun H0 Hb0 as Hb H M σ s r S D g => ?_⟩
  refine GoodS.bind s2 r S g fun y y' as1 Hb1 H1 M1 r1 f1 S1 w1 g1 => ?_
  refine GoodS.bind s1 r1 S1 g1 fun v x as2 Hb2 H2 M2 r2 f2 S2 w2 g2 => ?_
  cases hi : insOf C M2 x with
  | none => rw [hi] at g2; exact g2.elim
  | some p =>
    obtain ⟨i, fs⟩ := p
    rw [hi] at g2
    obtain ⟨a, dx, fv, rfl, ha, rfl, hH, hp, hm⟩ := insOf_ok r2 w2 hi
    dsimp only at g2
    by_cases hl : fs.length < 1000
    · simp only [hl, if_true] at g2
      refine ⟨a, C, dx, fv, rfl, hH, cl, na, by rw [Paired.len hp]; exact hl, ?_⟩
      exact GoodS.nx g2 (r2.setMut ha hm rfl ⟨dx, putF f y fv, upd_same, putW_pf (WR.mono f2 w1) hp⟩) S2
    · simp only [hl, if_false] at g2
      exact g2.elim
end

/-! ### methods, makers -/
/-- a method at f -/
structure IsFnAt (P : Program) (w : World) (K : PySem.W.Frag) (mg : Str → Option Value) (base : Heap) (k : Nat) (f : Addr) (ps : List Str) (dds : List PyData) (F : PF) : Prop where
  ex : ∃ fd dvs ds, FnOk P w K mg base (L2N.CX P w) k f fd ps (SpG K mg F) ∧ Binds K fd ps ds ∧ Vals dvs ds ∧ DtAll K (fun _ => none) dvs dds ∧ fitsAll dds
theorem IsFnAt.mono {P : Program} {w : World} {K : PySem.W.Frag} {mg : Str → Option Value} {base : Heap} {j k : Nat} {f : Addr} {ps : List Str} {dds : List PyData} {F : PF} (h : IsFnAt P w K mg base j f ps dds F) (l : j ≤ k) : IsFnAt P w K mg base k f ps dds F := by
  obtain ⟨fd, dvs, ds, h3, h4⟩ := h.ex
  exact ⟨fd, dvs, ds, h3.mono l, h4⟩
def noAtt (C : Addr) (m : Str) (M : Ms) (x : W) : Bool := match insOf C M x with
  | some (_, fs) => (fs.lookup m).isNone
  | none => false
def pMeth (C : Addr) (m : Str) (F : PF) (dds : List PyData) (o : PEx) (a : PAx) : PEx := fun s M => (o s M).bind fun x M1 => if noAtt C m M1 x = true then (a s M1).bind fun ws M2 => F (x :: (ws ++ dds.map .d)) M2 else .stuck
def pMake (C : Addr) (F : PF) (dds : List PyData) (a : PAx) : PEx := fun s M => (a s M).bind fun ws M1 => match F (.r M1.length :: (ws ++ dds.map .d)) (M1 ++ [.ins C []]) with
  | .ok (.d .none) M2 => .ok (.r M1.length) M2
  | _ => .stuck
def tMethSD (C : Addr) (m : Str) (sp : Sp) (dvs : List V) (E : L2.St → XK) (ta : TE) (t : TA) : TE := fun σ H Q => ta σ H fun x H1 => ∃ a dx fs, x = .ref a ∧ H1 a = some (.ins C dx fs) ∧ fs.lookup m = none ∧
  t σ H1 fun vs H2 => sp (x :: (vs ++ dvs)) H2 Q (E σ)
section
variable {X : Cx} {w : WX} {k : Nat} {C f : Addr} {m x : Str} {ps : List Str} {dds : List PyData} {F : PF} {o e : Expr} {es : List Expr} {po : PEx} {pa : PAx} {p pos apos : Pos}
theorem pe_methSD {CX : CXT} {fd : FuncData} {sp : Sp} {dvs : List V} {ds : List Value} {E : L2.St → XK} {ta : TE} {t : TA} {pl : Sem Bool} (he : PE X o ta) (c : Cls X.K C) (hm : Meth X.K C m f) (F : FnOk X.prog X.w X.K X.mg X.base CX k f fd ps sp) (hr : Room k X.A) (hb : Binds X.K fd ps ds) (hd : Vals dvs ds) (hx : ∀ σ, PassesAt CX X σ (E σ)) (ha : PA X (e :: es) t)
    (hst : starEach (e :: es) X.env = (false, eval e X.env) :: starEach es X.env := by rfl) (hpl : (backTo pos (starEach es X.env)).any (·.1) = false := by rfl)
    (ht : eval (.Call (.Attribute o m apos) (e :: es) [] pos) X.env = (do
      let ov ← eval o X.env
      standAt apos.atName
      let (f, first) ← holding [ov] (getMethod ov m pl)
      callWith pos f first (backTo pos (starEach (e :: es) X.env)) (backToKw pos (keywordEach [] X.env))) := by rfl) :
    PE X (.Call (.Attribute o m apos) (e :: es) [] pos) (tMethSD C m sp dvs E ta t) := by
  refine ⟨fun pins s σ H Q I h => ?_⟩
  refine PySem.W.methodCall_KW (pl := pl) (thn (he.run pins s σ H _ I h) fun u s1 ⟨x, H1, I1, rx, a, dx, fs, ex, ea, l, q⟩ => ?_) ht
  subst ex
  obtain rfl : u = Value.ref a := rx
  refine getmeth_ok I1 ea c hm l ?_
  refine PySem.W.callWith_K (first := [.ref a]) (h₀ := X.base) I.ok.mod.kin hm.kp (thn (ha.run pos pins s1 σ H1 _ I1 q) fun us s2 ⟨vs, H2, I2, r, q2⟩ => ⟨I2.kIn, ?_⟩) hst hpl
  exact run_fnSD (us := .ref a :: us) (vs := .ref a :: vs) F hr hb hd (hx σ) I2 (.cons rfl r) q2
theorem pe_methSD0 {CX : CXT} {fd : FuncData} {sp : Sp} {dvs : List V} {ds : List Value} {E : L2.St → XK} {ta : TE} {pl : Sem Bool} (he : PE X o ta) (c : Cls X.K C) (hm : Meth X.K C m f) (F : FnOk X.prog X.w X.K X.mg X.base CX k f fd ps sp) (hr : Room k X.A) (hb : Binds X.K fd ps ds) (hd : Vals dvs ds) (hx : ∀ σ, PassesAt CX X σ (E σ))
    (ht : eval (.Call (.Attribute o m apos) [] [] pos) X.env = (do
      let ov ← eval o X.env
      standAt apos.atName
      let (f, first) ← holding [ov] (getMethod ov m pl)
      callWith pos f first (backTo pos (starEach [] X.env)) (backToKw pos (keywordEach [] X.env))) := by rfl) :
    PE X (.Call (.Attribute o m apos) [] [] pos) (tMethSD C m sp dvs E ta tNil) := by
  refine ⟨fun pins s σ H Q I h => ?_⟩
  refine PySem.W.methodCall_KW (pl := pl) (thn (he.run pins s σ H _ I h) fun u s1 ⟨x, H1, I1, rx, a, dx, fs, ex, ea, l, q⟩ => ?_) ht
  subst ex
  obtain rfl : u = Value.ref a := rx
  refine getmeth_ok I1 ea c hm l ?_
  exact PySem.W.callWith_K0 (first := [.ref a]) I1.kIn hm.kp (run_fnSD (us := [.ref a]) (vs := [.ref a]) F hr hb hd (hx σ) I1 (.cons rfl .nil) q)
theorem sim_meth {dvs : List V} {ta : TE} {t : TA} (hd : DtAll X.K (fun _ => none) dvs dds) (hz : fitsAll dds) (so : Sim (repW X.K) X.K X.mg w ta po) (sa : Sim (repA X.K) X.K X.mg w t pa) : Sim (repW X.K) X.K X.mg w (tMethSD C m (SpG X.K X.mg F) dvs (WE w) ta t) (pMeth C m F dds po pa) := by
  intro H0 Hb0 as Hb H M σ s r S Q g
  refine Good.bind so r S g fun v y as1 Hb1 H1 M1 r1 f1 S1 w1 g1 => ?_
  by_cases hn : noAtt C m M1 y = true
  · simp only [hn, if_true] at g1
    unfold noAtt at hn
    cases hi : insOf C M1 y with
    | none => rw [hi] at hn; cases hn
    | some p =>
      obtain ⟨i, fs⟩ := p
      rw [hi] at hn
      obtain ⟨a, dx, fv, rfl, ha, rfl, hH, hp, hm⟩ := insOf_ok r1 w1 hi
      refine ⟨a, dx, fv, rfl, hH, (lookup_pf hp).2 (by simpa using hn), ?_⟩
      refine Good.bind sa r1 S1 g1 fun vs ws as2 Hb2 H2 M2 r2 f2 S2 w2 g2 => ?_
      refine ⟨H0, Hb0, as2, Hb2, M2, _, r2, .cons (WR.mono f2 w1) (Paired.app w2 (wrs_of (dz_nil hd hz))), ?_⟩
      cases q : F (.r i :: (ws ++ dds.map .d)) M2 with
      | ok a m => rw [q] at g2; exact g2
      | exc a m => rw [q] at g2; exact g2
      | stuck => rw [q] at g2; exact g2
  · simp only [hn] at g1
    exact g1.elim
theorem je_meth {pl : Sem Bool} (c : Cls X.K C) (hm : Meth X.K C m f) (hF : IsFnAt X.prog X.w X.K X.mg X.base k f ps dds F) (hr : Room k X.A) (hx : ∀ σ, PassesAt (L2N.CX X.prog X.w) X σ (WE w σ)) (ho : JE X w o po) (ha : JA X w (e :: es) pa)
    (hst : starEach (e :: es) X.env = (false, eval e X.env) :: starEach es X.env := by rfl) (hpl : (backTo pos (starEach es X.env)).any (·.1) = false := by rfl)
    (ht : eval (.Call (.Attribute o m apos) (e :: es) [] pos) X.env = (do
      let ov ← eval o X.env
      standAt apos.atName
      let (f, first) ← holding [ov] (getMethod ov m pl)
      callWith pos f first (backTo pos (starEach (e :: es) X.env)) (backToKw pos (keywordEach [] X.env))) := by rfl) :
    JE X w (.Call (.Attribute o m apos) (e :: es) [] pos) (pMeth C m F dds po pa) := by
  obtain ⟨fd, dvs, ds, h3, hb, hv, hd, hz⟩ := hF.ex
  obtain ⟨ta, eo, so⟩ := ho
  obtain ⟨t, ea, sa⟩ := ha
  exact ⟨_, pe_methSD eo c hm h3 hr hb hv hx ea hst hpl ht, sim_meth hd hz so sa⟩
theorem je_meth0 {pl : Sem Bool} (c : Cls X.K C) (hm : Meth X.K C m f) (hF : IsFnAt X.prog X.w X.K X.mg X.base k f ps dds F) (hr : Room k X.A) (hx : ∀ σ, PassesAt (L2N.CX X.prog X.w) X σ (WE w σ)) (ho : JE X w o po)
    (ht : eval (.Call (.Attribute o m apos) [] [] pos) X.env = (do
      let ov ← eval o X.env
      standAt apos.atName
      let (f, first) ← holding [ov] (getMethod ov m pl)
      callWith pos f first (backTo pos (starEach [] X.env)) (backToKw pos (keywordEach [] X.env))) := by rfl) :
    JE X w (.Call (.Attribute o m apos) [] [] pos) (pMeth C m F dds po pNil) := by
  obtain ⟨fd, dvs, ds, h3, hb, hv, hd, hz⟩ := hF.ex
  obtain ⟨ta, eo, so⟩ := ho
  exact ⟨_, pe_methSD0 eo c hm h3 hr hb hv hx ht, sim_meth hd hz so fun H0 Hb0 as Hb H M σ s r S Q g => g.ok r .nil⟩
theorem passE0 {X : Cx} : Passes (L2N.CX X.prog X.w) X (fun _ _ _ => False) := fun _ _ _ _ _ _ _ h => by
  obtain ⟨_, _, _, _, _, _, _, _, _, _, _, _, z⟩ := h
  exact z.elim
theorem sim_make {dvs : List V} {t : TA} (hd : DtAll X.K (fun _ => none) dvs dds) (hz : fitsAll dds) (sa : Sim (repA X.K) X.K X.mg w t pa) : Sim (repW X.K) X.K X.mg w (tMake C (SpG X.K X.mg F) dvs (fun _ _ _ => False) t) (pMake C F dds pa) := by
  intro H0 Hb0 as Hb H M σ s r S Q g
  refine Good.bind sa r S g fun vs ws as1 Hb1 H1 M1 r1 f1 S1 w1 g1 => ?_
  intro x dx hx hdx ne
  have r2 := r1.newAny (p := dx) (o := .own x) hdx
  have hx2 : upd H1 dx (.own x) x = none := by rw [upd_ne (Ne.symm ne)]; exact hx
  have r3 := r2.newAny (p := x) (o := .ins C dx []) hx2
  have fu : Fut as1 Hb1 (as1 ++ [x]) Hb1 := ⟨Same.refl _, [x], rfl⟩
  have r4 := r3.newMut (p := x) (m := .ins C []) (by rw [upd_same]; simp) (r1.hbn hx) (r1.h0n hx) (fun hm => r1.al x hm hx) ⟨dx, [], upd_same, .nil⟩
  have hix : (as1 ++ [x])[M1.length]? = some x := by rw [← r1.len]; simp
  refine ⟨H0, Hb0, as1 ++ [x], Hb1, M1 ++ [.ins C []], .r M1.length :: (ws ++ dds.map .d), r4, .cons ⟨x, hix, rfl⟩ (Paired.app (WRs.mono fu w1) (wrs_of (dz_nil hd hz))), ?_⟩
  cases q : F (.r M1.length :: (ws ++ dds.map .d)) (M1 ++ [.ins C []]) with
  | stuck => rw [q] at g1; exact g1
  | exc a m => rw [q] at g1; exact g1.elim
  | ok y m =>
    rw [q] at g1
    cases y with
    | r _ => exact g1.elim
    | k _ => exact g1.elim
    | d z =>
      cases z with
      | none => exact fun v as' Hb' H' r' f' wr => ⟨wr_non_of wr, g1 (.ref x) as' Hb' H' r' (fu.trans f') ⟨x, f'.idx hix, rfl⟩⟩
      | _ => exact g1.elim
theorem je_make (hM : Mk X.K C f) (hF : IsFnAt X.prog X.w X.K X.mg X.base k f ps dds F) (hr : Room (k + 1) X.A) (hm : X.mg x = some (.ref C)) (ha : JA X w (e :: es) pa) (hg : Gl X x := by rfl) (hdb : (x == ("__debug__" : Str)) = false := by decide)
    (he : starEach (e :: es) X.env = (false, eval e X.env) :: starEach es X.env := by rfl) (hpl : (backTo pos (starEach es X.env)).any (·.1) = false := by rfl) : JE X w (.Call (.Name x p) (e :: es) [] pos) (pMake C F dds pa) := by
  obtain ⟨fd, dvs, ds, h3, hb, hv, hd, hz⟩ := hF.ex
  obtain ⟨t, ea, sa⟩ := ha
  exact ⟨_, pe_make hM h3 hr hg hm hb hv passE0 ea hdb he hpl, sim_make hd hz sa⟩
theorem je_make0 (hM : Mk X.K C f) (hF : IsFnAt X.prog X.w X.K X.mg X.base k f ps dds F) (hr : Room (k + 1) X.A) (hm : X.mg x = some (.ref C)) (hg : Gl X x := by rfl) (hdb : (x == ("__debug__" : Str)) = false := by decide) : JE X w (.Call (.Name x p) [] [] pos) (pMake C F dds pNil) := by
  obtain ⟨fd, dvs, ds, h3, hb, hv, hd, hz⟩ := hF.ex
  exact ⟨_, pe_make0 hM h3 hr hg hm hb hv passE0 hdb, sim_make hd hz fun H0 Hb0 as Hb H M σ s r S Q g => g.ok r .nil⟩
end

/-! ### errors -/
/-- an own class of errors whose maker takes one text -/
structure ExcCl (K : PySem.W.Frag) (mg : Str → Option Value) (x : Str) : Prop where
  ex : ∃ (C : Addr) (bmB : List Value) (B newId initId : String), ExcBaseFacts B newId initId bmB ∧ PySem.W.excIn K C bmB newId = true ∧ mg x = some (.ref C) ∧ PySem.W.keepIn K (.ref C) = true ∧ PySem.W.subIn K (.ref C) (.type "BaseException") = some true ∧ PySem.W.typeIn K (.ref C) = some (.type "type")
def pRaise (x : Str) : PSx := fun s M => .exc ⟨x, none⟩ s M
section
variable {X : Cx} {w : WX}
theorem js_raise {x m : Str} {j : Nat} {p p2 pos pos2 : Pos} (hc : X.calm = true) (tk : L2N.Takes X w) (E : ExcCl X.K X.mg x) (hg : Gl X x := by rfl) (hdb : (x == ("__debug__" : Str)) = false := by decide) : JS X w (.Raise (some (.Call (.Name x p) [.Constant (.str m) j p2] [] pos)) none pos2) (pRaise x) := by
  obtain ⟨C, bmB, B, newId, initId, F, q, gC, kC, h1, h2⟩ := E.ex
  exact ⟨_, L2N.ps_raise hc tk (L2N.pmk_own F q gC kC (raises_own h1 h2) hg hdb), fun H0 Hb0 as Hb H M σ s r S D g => g σ as Hb H (.ref C) none r Fut.refl S ⟨gC, rfl⟩⟩

/-! ### try: .. except C as n: .. -/
def clearO (i : Nat) : O → O
  | .nx s m => .nx (s.set i none) m
  | .bk s m => .bk (s.set i none) m
  | .ct s m => .ct (s.set i none) m
  | o => o
def pTry (cat : Str → Option Bool) (i : Nat) (b : PSx) (su : Exn → Addr → PSx) : PSx := fun s M => match b s M with
  | .exc e s' M' => (match cat e.c with
    | some true => (match clearO i (su e 0 (s'.set i (some (.k (.ref 0)))) M') with
      | .exc _ _ _ => .stuck
      | o => o)
    | some false => .exc e s' M'
    | none => .stuck)
  | o => o
def canonS (K : PySem.W.Frag) (mg : Str → Option Value) (w : WX) (p : PSx) : TS := fun D σ H =>
  ∃ (H0 Hb0 : Hp) (as : List Addr) (Hb : Hp) (M : Ms) (s : Sl), Rel K H0 Hb0 as Hb H M ∧ Slots K as Hb σ s ∧ GoodS K mg w H0 Hb0 as Hb D (p s M)
theorem JSs.canon {b : List Stmt} {p : PSx} (h : JSs X w b p) : PSs X b (canonS X.K X.mg w p) := by
  obtain ⟨t, e1, s1⟩ := h
  exact ⟨fun pins s σ H D I ⟨H0, Hb0, as, Hb, M, sl, r, S, g⟩ => e1.run pins s σ H D I (s1 H0 Hb0 as Hb H M σ sl r S D g)⟩
theorem js_try_as {x n : Str} {c : Value} {i : Nat} {body suite : List Stmt} {b₀ : Stmt} {np pos pos' : Pos} {cat : Str → Option Bool} {pb : PSx} {su : Exn → Addr → PSx} (hs : X.stack = X.env :: X.outer) (hf : X.env.frame = some X.env.locals) (hN : X.N.Nodup) (hc : Names X x c) (tk : L2N.Takes X w)
    (hcat : ∀ y b, cat y = some b → ∃ cv, X.mg y = some cv ∧ PySem.W.exmOne X.K cv c = some b)
    (hb : ∀ (W : WX) (pn : List (Addr × Obj)) (xe : Value → Shared → Prop), L2N.Takes (X.tr pn xe) W → PassesOwn (model X.prog X.w) X.A X.env xe → JSs (X.tr pn xe) W body pb)
    (hsu : ∀ (e : Exn) (a : Addr) (oe : Obj) (cls : Value) (d : Option Addr) (pn : List (Addr × Obj)), cat e.c = some true → X.mg e.c = some cls → (e.arg = none → d = none) → L2N.Zn cls d oe → (∃ vs, oe.data = .fields vs) → JSs (X.suite a ((a, oe) :: pn)) wNone (b₀ :: suite) (su e a))
    (hin : ∀ (e : Exn) (a : Addr) (s : Sl) (M : Ms), clearO i (su e a (s.set i (some (.k (.ref a)))) M) = clearO i (su e 0 (s.set i (some (.k (.ref 0)))) M) := by intros; rfl)
    (hi : X.N[i]? = some n := by rfl) (hln : X.env.kindOf n = some .local := by rfl) :
    JS X w (.Try body [.ExceptHandler (some (.Name x np)) (some n) (b₀ :: suite) pos'] [] [] pos) (pTry cat i pb su) := by
  let ts : Addr → Value → Option Addr → TS := fun a cls d D σ H => ∃ e : Exn, cat e.c = some true ∧ X.mg e.c = some cls ∧ (e.arg = none → d = none) ∧ canonS X.K X.mg wNone (su e a) D σ H
  refine ⟨_, L2N.ps_try_as (tb := fun W => canonS X.K X.mg W pb) (ts := ts) hs hf hN hi hln hc tk (fun W pn xe tkW po => (hb W pn xe tkW po).canon) (fun a oe cls d pn hz hfl => ?_), ?_⟩
  · exact ⟨fun pins s σ H D I ⟨e, h1, h2, h3, h4⟩ => ((hsu e a oe cls d pn h1 h2 h3 hz hfl).canon).run pins s σ H D I h4⟩
  intro H0 Hb0 as Hb H M σ s r S D g
  refine ⟨H0, Hb0, as, Hb, M, s, r, S, ?_⟩
  unfold pTry at g
  cases q : pb s M with
  | nx s' M' => rw [q] at g; exact g
  | rt y M' => rw [q] at g; exact g
  | bk s' M' => rw [q] at g; exact g
  | ct s' M' => rw [q] at g; exact g
  | stuck => rw [q] at g; exact g
  | exc e s' M' =>
    rw [q] at g
    intro σ' as' Hb' H' cls d r' f' S' er
    dsimp only at g
    have er' := er
    obtain ⟨gc, ga⟩ := er'
    cases hcat' : cat e.c with
    | none => rw [hcat'] at g; exact g.elim
    | some b =>
      obtain ⟨cv, h1, h2⟩ := hcat _ _ hcat'
      rw [gc] at h1
      cases h1
      refine ⟨b, h2, fun hb1 a ha => ?_, fun hb1 => ?_⟩
      · subst hb1
        rw [hcat'] at g
        dsimp only at g
        refine ⟨e, hcat', gc, fun h => ?_, H0, Hb0, as', Hb', M', s'.set i (some (.k (.ref a))), r', S'.set (w := .k (.ref a)) rfl i, ?_⟩
        · rw [h] at ga; exact ga
        rw [← hin e a s' M'] at g
        cases q2 : su e a (s'.set i (some (.k (.ref a)))) M' with
        | nx s2 M2 => rw [q2] at g; exact fun σ2 as2 Hb2 H2 r2 f2 S2 => g (σ2.set i none) as2 Hb2 H2 r2 (f'.trans f2) (S2.unset none i)
        | rt y M2 => rw [q2] at g; exact fun v as2 Hb2 H2 r2 f2 w2 => g v as2 Hb2 H2 r2 (f'.trans f2) w2
        | bk s2 M2 => rw [q2] at g; exact fun σ2 as2 Hb2 H2 r2 f2 S2 => g (σ2.set i none) as2 Hb2 H2 r2 (f'.trans f2) (S2.unset none i)
        | ct s2 M2 => rw [q2] at g; exact fun σ2 as2 Hb2 H2 r2 f2 S2 => g (σ2.set i none) as2 Hb2 H2 r2 (f'.trans f2) (S2.unset none i)
        | stuck => rw [q2] at g; exact g
        | exc _ _ _ => rw [q2] at g; exact g.elim
      · subst hb1
        rw [hcat'] at g
        exact g σ' as' Hb' H' cls d r' f' S' er
end
end Z

set_option linter.all false
set_option autoImplicit false
set_option maxRecDepth 100000
set_option maxHeartbeats 4000000
namespace Z
open PySem PySem.Spec PyProof.Rows L2 L2H HotX

/-! ### a comprehension where an error is handled -/
/-- the block's context: the handled error p stands by -/
abbrev blkH (X : Cx) (p : Addr × Obj) (s : Shared) (H : Hp) (scope : Scope) (cenv : Env) (fp : List Addr) : Cx := (X.blk s H scope cenv fp).tr [p] (fun _ _ => False)
section
variable {X : Cx} {p : Addr × Obj}
theorem lc_coreH {pins : List (Addr × Obj)} {s : Shared} {σ : L2.St} {H : Hp} {Q : VK} {elt tg iter : Expr} {ifs : List Expr} {scope : Scope} {own : List (Str × Nat)} {pos pos' : Pos} {wi : TI} {g : TG} {tt : TT} {te : TE} {use : Option (Value → Sem Unit)} {Qf : Value → Shared → Prop}
    (hot : Hot1 X.A p) (hpn : p ∈ X.pn) (hN : X.N.Nodup) (I : Inv X pins σ H s) (hi : PIH X tg iter wi) (ok : BlkOk X.N X.env.scope scope own)
    (hg : ∀ (s : Shared) (H : Hp) (C : Addr) (cl : List (Str × Addr)) (fp : List Addr), PG (blkH X p s H scope (compEnvC scope cl C X.env) fp) tg g) (ht : ∀ (s : Shared) (H : Hp) (C : Addr) (cl : List (Str × Addr)) (fp : List Addr), PTs (blkH X p s H scope (compEnvC scope cl C X.env) fp) ifs tt)
    (he : ∀ (s : Shared) (H : Hp) (C : Addr) (cl : List (Str × Addr)) (fp : List Addr), PE (blkH X p s H scope (compEnvC scope cl C X.env) fp) elt te) (hs : ∀ x, foldedSetIterable iter X.env x = pure x)
    (h : tLc wi g tt te (own.map (·.2)) σ H Q)
    (hRR : ∀ D C s' m H', Inv X pins σ H' s' → Q (.ref D) H' → s'.heap.Ns C m → FpOk X pins H' C → compPost (model X.prog X.w) X.A X.xe use Qf (.ref D) C (.ok .next) s') :
    wpAny (model X.prog X.w) X.A (comprehension (.ListComp elt [⟨tg, iter, ifs, 0⟩] scope pos) scope X.env pos' (newList []) false (eval iter X.env) use) Qf X.xe s := by
  have hfree : ∀ y ∈ scope.names, y.2 = .free → ∃ c, X.env.cells.lookup y.1 = some c := fun y hy e => by
    rcases ok.free y hy e with k | k
    · exact I.ok.has _ (.inl k)
    · exact I.ok.has _ (.inr k)
  refine wpAny_comprehension_free (use := use) rfl hs (closure_ok hfree) ok.kind (fun y hy e => by rw [ok.uniq y hy, e])
    (thn (hi.run pins s σ H _ I h) fun xv s1 hx => thn hx fun itv s2 h2 => ?_)
  obtain ⟨it, fp, tn, J, H2, e, I2, T, st2, f2, q⟩ := h2
  subst e
  refine wpAny_newObj_type (newEnv_comp ?_) (by show 0 ≤ sizeLine; decide)
  generalize hD : s2.heap.objs.size = D
  have hDn : H2 D = none := I2.hok.fresh (Nat.le_of_eq hD)
  obtain ⟨W, ⟨m0, w0⟩, turn⟩ := q D hDn
  generalize hs3 : ({ s2 with heap := s2.heap.push { cls := .type "list", data := .seq ([] : List Value).toArray } } : Shared) = s3
  have I3 : Inv X pins σ (upd H2 D (.lst [])) s3 := by
    rw [← hs3]
    refine I2.laid (t' := s2.toks) (fun b o e => Heap.get?_push_of_some _ e) (Nat.le_of_eq hD) ⟨Nat.zero_le _, [], 0, .nil, ?_⟩
    rw [← hD]
    exact Heap.get?_push_size _ rfl
  have h3 : s3.heap = s2.heap.push { cls := .type "list", data := .seq ([] : List Value).toArray } := by rw [← hs3]
  have sz : ∀ b ∈ fp, b < s2.heap.objs.size := fun b hb => by
    obtain ⟨o, e, _⟩ := T.obj _ _ st2 b hb
    exact Heap.lt_size e
  have f3 : ∀ b ∈ fp, FpOk X pins (upd H2 D (.lst [])) b ∧ b < s3.heap.objs.size := fun b hb => by
    have hlt := sz b hb
    refine ⟨⟨?_, (f2 b hb).2⟩, by rw [h3, Heap.size_push]; exact Nat.lt_succ_of_lt hlt⟩
    rw [upd_ne (by rw [← hD]; exact Nat.ne_of_lt hlt)]
    exact (f2 b hb).1
  have st3 : tn 0 s3.heap := T.keep _ _ _ st2 fun b _ o e => by rw [h3]; exact Heap.get?_push_of_some _ e
  have I4 := block_start I3 ok hN f3
  have P3 := I3.pin p (List.mem_append_left _ hpn)
  have pg := hg s3 (upd H2 D (.lst [])) s3.heap.objs.size (cellsFrom (s3.heap.objs.size + 1) scope.names (cloFrom X.env.cells scope.names [])) fp
  have pt := ht s3 (upd H2 D (.lst [])) s3.heap.objs.size (cellsFrom (s3.heap.objs.size + 1) scope.names (cloFrom X.env.cells scope.names [])) fp
  have pe := he s3 (upd H2 D (.lst [])) s3.heap.objs.size (cellsFrom (s3.heap.objs.size + 1) scope.names (cloFrom X.env.cells scope.names [])) fp
  show codeAny _ _ (.compStart (.ListComp elt [⟨tg, iter, ifs, 0⟩] scope pos) 0 (.ref it) (.ref D) (compEnvC scope (cellsFrom (s3.heap.objs.size + 1) scope.names (cloFrom X.env.cells scope.names [])) s3.heap.objs.size X.env)) (compPost (model X.prog X.w) X.A X.xe use Qf (.ref D) s3.heap.objs.size) { s3 with heap := pushCells (s3.heap.push { cls := .type "dict", data := .dict #[] }) scope.names }
  have nfp : ∀ b ∈ fp, (upd H2 D (.lst [])) b = none := fun b hb => (f3 b hb).1.1
  generalize hce : compEnvC scope (cellsFrom (s3.heap.objs.size + 1) scope.names (cloFrom X.env.cells scope.names [])) s3.heap.objs.size X.env = ce at I4 pg pt pe ⊢
  have cL : ce.locals = s3.heap.objs.size := by subst hce; rfl
  generalize hH3 : upd H2 D (.lst []) = H3 at I3 I4 pg pt pe w0 nfp f3 P3
  generalize hs4 : ({ s3 with heap := pushCells (s3.heap.push { cls := .type "dict", data := .dict #[] }) scope.names } : Shared) = s4 at I4 ⊢
  have kp4 : ∀ b o, s3.heap.get? b = some o → s4.heap.get? b = some o := fun b o e => by rw [← hs4]; exact pushCells_keeps _ _ _ _ (Heap.get?_push_of_some _ e)
  have st4 : tn 0 s4.heap := T.keep _ _ _ st3 fun b _ o e => kp4 b o e
  -- the handled error stands by
  have Ip : Inv (X.blk s3 H3 scope ce fp) [p] (wipe σ (own.map (·.2))) H3 s4 := ⟨I4.ok, I4.os, I4.bare, I4.base, I4.loc, I4.cell, I4.free, I4.freeC, fun q hq => by
    have e : q = p := by simpa using (show q ∈ ([] : List (Addr × Obj)) ++ [p] from hq)
    subst e
    refine ⟨kp4 _ _ P3.1, P3.2.1, ?_, fun hm => (List.mem_cons.mp (I3.stkSub q.1 hm)).elim P3.2.2.1 P3.2.2.2.1, P3.2.2.2.2⟩
    show q.1 ≠ ce.locals
    rw [cL]
    exact Nat.ne_of_lt (Heap.lt_size P3.1), I4.hok, I4.len⟩
  have I5 : Inv (blkH X p s3 H3 scope ce fp) [] (wipe σ (own.map (·.2))) H3 s4 := Ip.toTry _
  have hc : HotC (blkH X p s3 H3 scope ce fp) := ⟨p, hot, List.mem_cons_self⟩
  have stat : ∀ {σ' : L2.St} {H' : Hp} {s' : Shared}, Inv (blkH X p s3 H3 scope ce fp) [] σ' H' s' → (∀ b ∈ fp, H' b = none) → ∀ b ∈ fp, FpOk (blkH X p s3 H3 scope ce fp) [] H' b := fun {σ' H' s'} I' hn b hb =>
    ⟨hn b hb, (I'.ok.exf b hb).1, I'.ok.exfs b hb, .inl hb, fun x c e => (I'.ok.exf b hb).2 x c e, fun r hr => by
      have e : r = p := by simpa using (show r ∈ [p] ++ ([] : List (Addr × Obj)) from hr)
      subst e
      exact (f3 b hb).1.2.2.2.2.2 r (List.mem_append_left _ hpn)⟩
  have loop : codeAny (model X.prog X.w) X.A (.compLoop (.ListComp elt [⟨tg, iter, ifs, 0⟩] scope pos) 0 (.ref it) (.ref D) ce) (compPost (model X.prog X.w) X.A X.xe use Qf (.ref D) s3.heap.objs.size) s4 := by
    refine compLoop_any (fun n s' => ∃ i H', Inv (blkH X p s3 H3 scope ce fp) [] (wipe σ (own.map (·.2))) H' s' ∧ tn i s'.heap ∧ (∀ b ∈ fp, H' b = none) ∧ W i n H') ?_ m0 ⟨0, H3, I5, st4, nfp, w0⟩
    rintro n s5 ⟨i, H5, I5, st5, n5, w5⟩
    rcases turn i n H5 w5 with ⟨stop, qq⟩ | ⟨go, Nx, hNx, step⟩
    · have td := T.done (blkH X p s3 H3 scope ce fp) rfl rfl rfl hc i [] s5 _ H5 (fun _ _ => False) I5 (stat I5 n5) st5 stop
      refine thnF td fun r s6 ⟨hr, I6⟩ => ?_
      subst hr
      have I7 : Inv X pins σ H5 s6 := I3.call' (ch := fp) I6.os I6.base I6.hok I6.bare fun b hb => ⟨(f3 b hb).1.2.2.2.1, (f3 b hb).1.2.1, (f3 b hb).1.2.2.2.2.1, (f3 b hb).1.2.2.2.2.2⟩
      have nC : H5 s3.heap.objs.size = none := by
        have z : H5 ce.locals = none := I6.free
        rw [cL] at z
        exact z
      obtain ⟨m, hn, _⟩ := I6.loc
      have hn : s6.heap.Ns ce.locals m := hn
      rw [cL] at hn
      exact hRR D s3.heap.objs.size s6 m H5 I7 qq hn (I3.fpOk (Nat.le_refl _) nC)
    · have ti := T.item (blkH X p s3 H3 scope ce fp) rfl rfl rfl hc i [] s5 _ H5 (fun _ _ => False) I5 (stat I5 n5) st5 go
      refine thnF ti fun r s6 ⟨u, hr, h6⟩ => ?_
      subst hr
      refine thnF h6 fun _ s7 ⟨x, H7, I7, r7, y7, st7, n7⟩ => ?_
      have I7' := I7.pinned (stat I7 n7) (T.obj _ _ st7)
      refine thnF (pg.run _ s7 _ H7 x u _ I7' r7 (step x H7 y7)) fun _ s8 ⟨σ8, H8, I8, hw8, q8⟩ => ?_
      refine thnF (pt.run _ s8 σ8 H8 _ I8 q8) fun b s9 ⟨H9, I9, q9⟩ => ?_
      have fin : ∀ {s' : Shared} {H' : Hp}, Inv (blkH X p s3 H3 scope ce fp) ([] ++ pinsAt fp s7.heap) σ8 H' s' → Nx H' → ∃ m, m < n ∧ ∃ i H', Inv (blkH X p s3 H3 scope ce fp) [] (wipe σ (own.map (·.2))) H' s' ∧ tn i s'.heap ∧ (∀ b ∈ fp, H' b = none) ∧ W i m H' := fun {s' H'} I' nx => by
        obtain ⟨m', hm, w'⟩ := hNx H' nx
        have pin' : ∀ b ∈ fp, ∀ o, s7.heap.get? b = some o → s'.heap.get? b = some o ∧ H' b = none := fun b hb o e =>
          let z := I'.pin (b, o) (List.mem_append_right _ (List.mem_append_right _ (mem_pinsAt hb e)))
          ⟨z.1, z.2.1⟩
        have hl : (wipe σ (own.map (·.2))).length = σ8.length := by rw [← hw8, wipe_length]
        refine ⟨m', hm, i + 1, H', (I'.unpinned (pins := [])).weak hl (fun j v e => ?_), T.keep _ _ _ st7 fun b hb o e => (pin' b hb o e).1, fun b hb => ?_, w'⟩
        · rw [← hw8] at e
          exact (wipe_some e).1
        · obtain ⟨o, e, _⟩ := T.obj _ _ st7 b hb
          exact (pin' b hb o e).2
      cases b with
      | false =>
        simp only [Bool.false_eq_true, if_false] at q9 ⊢
        exact fin I9 q9
      | true =>
        simp only [if_true] at q9 ⊢
        refine thnF (pe.run _ s9 σ8 H9 _ I9 q9) fun z s10 ⟨yv, H10, I10, r10, acc, hD10, hz10, nx⟩ => ?_
        exact app_ok (X := blkH X p s3 H3 scope ce fp) I10 hD10 hz10 r10 fun s11 I11 => fin I11 nx
  exact codeAny_compStart_list loop (T.self X.A 0 _ _ _ st4 loop)

theorem pe_lcH {elt tg iter : Expr} {ifs : List Expr} {scope : Scope} {own : List (Str × Nat)} {pos : Pos} {wi : TI} {g : TG} {tt : TT} {te : TE} (hot : Hot1 X.A p) (hpn : p ∈ X.pn) (hN : X.N.Nodup) (hi : PIH X tg iter wi) (ok : BlkOk X.N X.env.scope scope own)
    (hg : ∀ (s : Shared) (H : Hp) (C : Addr) (cl : List (Str × Addr)) (fp : List Addr), PG (blkH X p s H scope (compEnvC scope cl C X.env) fp) tg g) (ht : ∀ (s : Shared) (H : Hp) (C : Addr) (cl : List (Str × Addr)) (fp : List Addr), PTs (blkH X p s H scope (compEnvC scope cl C X.env) fp) ifs tt)
    (he : ∀ (s : Shared) (H : Hp) (C : Addr) (cl : List (Str × Addr)) (fp : List Addr), PE (blkH X p s H scope (compEnvC scope cl C X.env) fp) elt te) (hs : ∀ x, foldedSetIterable iter X.env x = pure x := by intro _; rfl) :
    PE X (.ListComp elt [⟨tg, iter, ifs, 0⟩] scope pos) (tLc wi g tt te (own.map (·.2))) := by
  refine ⟨fun pins s σ H Q I h => ?_⟩
  rw [eval_ListComp]
  refine lc_coreH hot hpn hN I hi ok hg ht he hs h fun D C s' m H' I' q hn f => ⟨m, hn, fun h'' sb => ?_⟩
  obtain ⟨f0, f1, f2, f3, f4, f5⟩ := f
  exact ⟨.ref D, H', I'.turned (t' := s'.toks) (fun b o hb e => (sb.2 b hb).trans e) f0 f1 f3 f4 f5, rfl, q⟩
theorem ps_setLcH {i : Nat} {y : Str} {py : Pos} {elt tg iter : Expr} {ifs : List Expr} {scope : Scope} {own : List (Str × Nat)} {pos spos : Pos} {wi : TI} {g : TG} {tt : TT} {te : TE} (hot : Hot1 X.A p) (hpn : p ∈ X.pn) (hN : X.N.Nodup) (hy : X.N[i]? = some y) (hyl : X.env.scope.names.lookup y = some .local)
    (hsw : swapsWith (.ListComp elt [⟨tg, iter, ifs, 0⟩] scope pos) (some (.Name y py)) spos.line X.env = pure true) (hi : PIH X tg iter wi) (ok : BlkOk X.N X.env.scope scope own)
    (hg : ∀ (s : Shared) (H : Hp) (C : Addr) (cl : List (Str × Addr)) (fp : List Addr), PG (blkH X p s H scope (compEnvC scope cl C X.env) fp) tg g) (ht : ∀ (s : Shared) (H : Hp) (C : Addr) (cl : List (Str × Addr)) (fp : List Addr), PTs (blkH X p s H scope (compEnvC scope cl C X.env) fp) ifs tt)
    (he : ∀ (s : Shared) (H : Hp) (C : Addr) (cl : List (Str × Addr)) (fp : List Addr), PE (blkH X p s H scope (compEnvC scope cl C X.env) fp) elt te) (hs : ∀ x, foldedSetIterable iter X.env x = pure x := by intro _; rfl) :
    PS X (.Assign [.Name y py] (.ListComp elt [⟨tg, iter, ifs, 0⟩] scope pos) spos) (tAsg (tLc wi g tt te (own.map (·.2))) (gName i)) := by
  refine ⟨fun pins s σ H D I h => ?_⟩
  rw [exec_Assign_Name_used _ _ _ _ hsw]
  refine wpAny_bind (wpAny_standAt (wpAny_bind ?_))
  show wpAny _ X.A (do let _ ← comprehension (.ListComp elt [⟨tg, iter, ifs, 0⟩] scope pos) scope X.env (firstIterPos [⟨tg, iter, ifs, 0⟩] pos) (newList []) false (eval iter X.env) (some (assign (.Name y py) X.env))) _ _ s
  have h : tLc wi g tt te (own.map (·.2)) σ H (fun x H1 => gName i x σ H1 D.nx) := h
  refine wpAny_bind (thn (lc_coreH (Qf := fun _ s' => SP X pins D .next s') hot hpn hN I hi ok hg ht he hs h fun L C s' m H' I' q hn f => ?_) fun _ s' hq => wpAny_pure (wpAny_pure hq))
  show wpAny _ _ (assign (.Name y py) X.env (.ref L)) _ _ _
  refine wpAny_assign_Name (store_ok2 (v := V.ref L) I' hN hy (.inl hyl) rfl (fun s2 I2 ⟨a, sb, ha⟩ => ?_) (.inr hyl))
  obtain ⟨f0, f1, f2, f3, f4, f5⟩ := f
  have haC : C ≠ a := by
    rcases ha with z | z
    · rw [z]; exact f1
    · exact fun e => f4 y a z e.symm
  refine ⟨m, hn.sameBut sb haC, fun h3 sb3 => ?_⟩
  exact ⟨_, H', I2.turned (t' := s2.toks) (fun b o hb e => (sb3.2 b hb).trans e) f0 f1 f3 f4 f5, q⟩
end
end Z

set_option linter.all false
set_option autoImplicit false
set_option maxRecDepth 100000
set_option maxHeartbeats 4000000
namespace Z
open PySem PySem.Spec PyProof.Rows L2 L2H HotX

/-! ### where an error is handled: range, a comprehension -/
def JIH (X : Cx) (w : WX) (tg iter : Expr) (p : PAx) : Prop := ∃ wi, PIH X tg iter wi ∧ Sim (repI X.K) X.K X.mg w wi p
section
variable {X : Cx} {w : WX} {p : Addr × Obj}
theorem ji_rng1H {tg l : Expr} {ps pos : Pos} {pl : PEx} (hm : X.mg "range" = none) (h : JE X w l pl) (hg : Gl X "range" := by rfl) (hs : starEach (l :: []) X.env = (false, eval l X.env) :: starEach [] X.env := by rfl) (hs2 : starEach [l] X.env = [(false, eval l X.env)] := by rfl) : JIH X w tg (.Call (.Name "range" ps) [l] [] pos) (pRng1 pl) := by
  obtain ⟨t, e1, s1⟩ := h
  refine ⟨_, pi_range1H hg hm (pa_cons e1 pa_nil hs) hs2, fun H0 Hb0 as Hb H M σ s r S Q g => ?_⟩
  refine Good.bind s1 r S g fun x x' as1 Hb1 H1 M1 r1 f1 S1 w1 g1 => ?_
  cases x' with
  | r i => exact (show False from g1).elim
  | k u => exact (show False from g1).elim
  | d z =>
    cases z with
    | int j =>
      obtain rfl := wr_int_of w1
      by_cases hc : -(2 ^ 62) ≤ j ∧ j < 2 ^ 62
      · simp only [hc, and_self, if_true] at g1
        exact ⟨j, rfl, hc.1, hc.2, Good.ok g1 r1 (itr_ok X.K 0 j.toNat as1 Hb1)⟩
      · simp only [hc, if_false] at g1
        exact g1.elim
    | _ => exact (show False from g1).elim
theorem jl_lcH {elt tg iter : Expr} {ifs : List Expr} {scope : Scope} {own : List (Str × Nat)} {pos : Pos} {it : PAx} {pg : PGx} {tt : PTx} {te : PEx} {is : List Nat} (hot : Hot1 X.A p) (hpn : p ∈ X.pn) (hN : X.N.Nodup) (hi : JIH X w tg iter it) (ok : BlkOk X.N X.env.scope scope own)
    (hg : ∀ (s : Shared) (H : Hp) (C : Addr) (cl : List (Str × Addr)) (fp : List Addr), JG (blkH X p s H scope (compEnvC scope cl C X.env) fp) tg pg is) (ht : ∀ (s : Shared) (H : Hp) (C : Addr) (cl : List (Str × Addr)) (fp : List Addr), JTs (blkH X p s H scope (compEnvC scope cl C X.env) fp) wNone ifs tt)
    (he : ∀ (s : Shared) (H : Hp) (C : Addr) (cl : List (Str × Addr)) (fp : List Addr), JE (blkH X p s H scope (compEnvC scope cl C X.env) fp) wNone elt te) (hv : ∀ i ∈ is, i ∈ own.map (·.2) := by decide) (hs : ∀ x, foldedSetIterable iter X.env x = pure x := by intro _; rfl) :
    JL X w (.ListComp elt [⟨tg, iter, ifs, 0⟩] scope pos) (pLc it pg tt te (own.map (·.2))) := by
  obtain ⟨wi, ei, si⟩ := hi
  exact ⟨_, pe_lcH hot hpn hN ei ok (fun s H C cl fp => (hg s H C cl fp).canon) (fun s H C cl fp => (ht s H C cl fp).canon) (fun s H C cl fp => (he s H C cl fp).canon) hs, sim_lc hv si⟩
/-- name = [..] on one line: data, or a thing that changes -/
theorem js_setLcH {i : Nat} {y : Str} {py : Pos} {elt tg iter : Expr} {ifs : List Expr} {scope : Scope} {own : List (Str × Nat)} {pos spos : Pos} {it : PAx} {pg : PGx} {tt : PTx} {te : PEx} {is : List Nat} (hot : Hot1 X.A p) (hpn : p ∈ X.pn) (hN : X.N.Nodup) (hi : JIH X w tg iter it) (ok : BlkOk X.N X.env.scope scope own)
    (hg : ∀ (s : Shared) (H : Hp) (C : Addr) (cl : List (Str × Addr)) (fp : List Addr), JG (blkH X p s H scope (compEnvC scope cl C X.env) fp) tg pg is) (ht : ∀ (s : Shared) (H : Hp) (C : Addr) (cl : List (Str × Addr)) (fp : List Addr), JTs (blkH X p s H scope (compEnvC scope cl C X.env) fp) wNone ifs tt)
    (he : ∀ (s : Shared) (H : Hp) (C : Addr) (cl : List (Str × Addr)) (fp : List Addr), JE (blkH X p s H scope (compEnvC scope cl C X.env) fp) wNone elt te) (hv : ∀ i ∈ is, i ∈ own.map (·.2) := by decide)
    (hy : X.N[i]? = some y := by rfl) (hyl : X.env.scope.names.lookup y = some .local := by rfl) (hsw : swapsWith (.ListComp elt [⟨tg, iter, ifs, 0⟩] scope pos) (some (.Name y py)) spos.line X.env = pure true := by exact sw_true rfl rfl rfl (by decide +kernel)) (hs : ∀ x, foldedSetIterable iter X.env x = pure x := by intro _; rfl) :
    JS X w (.Assign [.Name y py] (.ListComp elt [⟨tg, iter, ifs, 0⟩] scope pos) spos) (pSet i (pDat (pLc it pg tt te (own.map (·.2))))) := by
  obtain ⟨wi, ei, si⟩ := hi
  refine ⟨_, ps_setLcH (g := canonG X.K pg is) (tt := canon repB X.K X.mg wNone tt) (te := canon (repW X.K) X.K X.mg wNone te) hot hpn hN hy hyl hsw ei ok (fun s H C cl fp => (hg s H C cl fp).canon) (fun s H C cl fp => (ht s H C cl fp).canon) (fun s H C cl fp => (he s H C cl fp).canon) hs, fun H0 Hb0 as Hb H M σ s r S D g => ?_⟩
  have sl := sim_lc (X := X) (w := w) (pg := pg) (tt := tt) (te := te) hv si
  have g' : GoodS X.K X.mg w H0 Hb0 as Hb D ((pLc it pg tt te (own.map (·.2)) s M).to s fun ws M1 => match allD ws with
      | some ds => .nx (s.set i (some (.d (.list ds)))) M1
      | none => .stuck) := by
    unfold pSet pDat at g
    cases e : pLc it pg tt te (own.map (·.2)) s M with
    | stuck => rw [e] at g; exact g
    | exc a m => rw [e] at g; exact g
    | ok a m =>
      rw [e] at g
      simp only [R.bind, R.to] at g ⊢
      cases hd : allD a with
      | none => rw [hd] at g; exact g
      | some ds => rw [hd] at g; exact g
  refine GoodS.bind sl r S g' fun v ws as1 Hb1 H1 M1 r1 f1 S1 w1 g1 => ?_
  obtain ⟨q, vs, rfl, hq, z, wr, nq, hbn, h0n⟩ := w1
  cases hd : allD ws with
  | none => rw [hd] at g1; exact g1.elim
  | some ds =>
    rw [hd] at g1
    have dz := allD_ok wr hd
    have hl : ws.length = ds.length := (Paired.len wr).symm.trans (Paired.len dz)
    have fu : Fut as1 Hb1 as1 (upd Hb1 q (.lst vs)) := fut_new hbn
    refine GoodS.nx (GoodS.mono fu g1) (r1.freshData hq hbn h0n nq) ((S1.mono fu).set (w := .d (.list ds)) ?_ i)
    exact dz_lst upd_same (dzAll_mono (same_new hbn) dz) (hl ▸ z)
end

/-! ### a def that is called there; Z: what is known of the error -/
structure FnHC (P : Program) (w : World) (K : PySem.W.Frag) (mg : Str → Option Value) (base : Heap) (k : Nat) (f : Addr) (fd : FuncData) (ps : List Str) (Zp : Obj → Prop) (sp : Addr → Sp) : Prop where
  len : ∀ a vs H Q E, sp a vs H Q E → vs.length = ps.length
  run : ∀ (A : Around) (outer : List Env) (s : Shared) (H : Hp) (args : Args) (us : List Value) (vs : List V) (Q : VK) (E : XK) (p : Addr × Obj), RoomH k A → Hot1 A p → Zp p.2 → PinOk outer H s p → Env0 P w K mg base A outer s H → BindsTo s fd args (ps.zip us) → Vals vs us → sp p.1 vs H Q E →
    codeAny (model P w) A (.call (.ref f) args) (CR (L2N.CX P w) outer P w H s Q E) s
theorem fn_ofHC {P : Program} {w : World} {K : PySem.W.Frag} {mg : Str → Option Value} {base : Heap} {k : Nat} {f : Addr} {name qual : Str} {params : Arguments} {body : List Stmt} {scope : Scope} {dV kV doc pm cdv ct oc : Value} {an od : Option Addr}
    {osl : Array (Option Value)} {N ps : List Str} {Zp : Obj → Prop} {sp : Addr → Sp} (lk : K.lookup f = some ⟨oc, od, .func (PySem.W.fnOf name qual params body scope dV kV doc pm an cdv ct), osl⟩) (hcd : PySem.W.codeIn K cdv qual = true) (S : FnScope N ps scope)
    (len : ∀ a vs H Q E, sp a vs H Q E → vs.length = ps.length)
    (hbody : ∀ (A : Around) (outer : List Env) (s : Shared) (H : Hp) (vs : List V) (Q : VK) (E : XK) (p : Addr × Obj), Hot1 A p → Zp p.2 → RoomH k (A.deeper (envOfC qual scope s.heap.objs.size f cdv)) → sp p.1 vs H Q E →
      ∃ t, PSs (cxH (L2N.CX P w) P w K mg base N qual scope f cdv A outer s H E p) body t ∧ t { nx := fun _ H' => Q .non H', rt := Q } (L2.start N vs) H) :
    FnHC P w K mg base (k + 1) f (PySem.W.fnOf name qual params body scope dV kV doc pm an cdv ct) ps Zp sp := by
  refine ⟨len, fun A outer s H args us vs Q E p hr hot hZ hpin e0 hb r hsp => ?_⟩
  have hl := len _ _ _ _ _ hsp
  have KX : K.In s.heap := e0.mod.kin.keeps fun b o e => (e0.bs b o e).1
  have lim : s.heap.NoLimit := e0.mod.nolimit.keeps fun b o e => (e0.bs b o e).1
  have hkind : ∀ y ∈ ps.zip us, scope.names.lookup y.1 = some .local ∨ (scope.names.lookup y.1 = some .cell ∧ ((cellsFrom (s.heap.objs.size + 1) scope.names []).lookup y.1).isSome = true) := fun ⟨n, v⟩ hy => by
    rcases S.par n (List.of_mem_zip hy).1 with q | q
    · exact .inl q
    · exact .inr ⟨q, PySem.W.cellsFrom_some _ _ _ (.inl q)⟩
  refine codeAny_call_function hr.depth (KX _ _ lk) rfl S.co S.gen rfl (PySem.W.codeRec_of KX hcd) (hb _ _ _ _ ?_)
  refine wpAny_newFunctionEnv_cells S.kind hkind fun env he s1 x => ?_
  subst he
  refine ⟨lim.keeps x.toInCall.keep, codeAny_func ?_⟩
  obtain ⟨t, ht, hq⟩ := hbody A outer s H vs Q E p hot hZ (hr.deeper _) hsp
  have I : Inv (cxH (L2N.CX P w) P w K mg base N qual scope f cdv A outer s H E p) [] (L2.start N vs) H s1 := inv_startH S hpin e0 hl r x
  refine wpAny_mono (ht.run [] s1 (L2.start N vs) H _ I hq) (fun fl s' hs => ?_) fun e s' hs => hs
  have fin : ∀ {σ' : L2.St} {H' : Hp} {v : V} {u : Value}, Inv (cxH (L2N.CX P w) P w K mg base N qual scope f cdv A outer s H E p) [] σ' H' s' → RelV v u → Q v H' → CE outer P w H s Q u s' :=
    fun {σ' H' v u} J rv q => ⟨v, H', J.os, J.bare, J.base, J.hok, rv, q⟩
  cases fl with
  | ret u =>
    obtain ⟨v, σ', H', J, rv, q⟩ := hs
    exact fin J rv q
  | next =>
    obtain ⟨σ', H', J, q⟩ := hs
    exact fin (v := V.non) (u := Value.none) J rfl q
  | brk =>
    obtain ⟨_, _, _, q⟩ := hs
    exact False.elim q
  | cont =>
    obtain ⟨_, _, _, q⟩ := hs
    exact False.elim q
/-- a def of the text, called there -/
theorem fn_GH {P : Program} {w : World} {K : PySem.W.Frag} {mg : Str → Option Value} {base : Heap} {x qual : Str} {st : Stmt} {f : Addr} {fd : FuncData} {N ps : List Str} {k : Nat} {Zp : Obj → Prop} {b : Addr → PSx} (F : Fun K x qual st f fd) (S : FnScope N ps (defScope st))
    (hb : ∀ (cdv : Value) (A : Around) (outer : List Env) (s : Shared) (H : Hp) (E : XK) (p : Addr × Obj), Hot1 A p → Zp p.2 → RoomH k (A.deeper (envOfC qual (defScope st) s.heap.objs.size f cdv)) → JSs (cxH (L2N.CX P w) P w K mg base N qual (defScope st) f cdv A outer s H E p) (fun c d _ H' => E c d H') (defBody st) (b p.1)) :
    FnHC P w K mg base (k + 1) f fd ps Zp (fun a => SpG K mg (runG N.length ps.length (b a))) := by
  obtain ⟨oc, od, kV, doc, pm, an, cdv, ct, osl, rfl, lk, hcd⟩ := F.ex
  exact fn_ofHC lk hcd S (fun a vs H Q E h => h.len) fun A outer s H vs Q E p hot hZ hr hsp => body_G rfl rfl hsp (hb cdv A outer s H E p hot hZ hr)
structure IsFnH (P : Program) (w : World) (K : PySem.W.Frag) (mg : Str → Option Value) (base : Heap) (k : Nat) (x : Str) (ps : List Str) (Zp : Obj → Prop) (F : Addr → PF) : Prop where
  ex : ∃ f fd, mg x = some (.ref f) ∧ PySem.W.keepIn K (.ref f) = true ∧ FnHC P w K mg base k f fd ps Zp (fun a => SpG K mg (F a)) ∧ Binds K fd ps []
section
variable {X : Cx} {w : WX} {p : Addr × Obj} {k : Nat} {x : Str} {ps : List Str} {e : Expr} {es : List Expr} {pa : PAx} {q pos : Pos} {Zp : Obj → Prop} {F : Addr → PF}
theorem je_callHC (hF : IsFnH X.prog X.w X.K X.mg X.base k x ps Zp F) (hr : RoomH k X.A) (hot : Hot1 X.A p) (hpn : p ∈ X.pn) (hz : Zp p.2) (hx : ∀ σ, PassesAt (L2N.CX X.prog X.w) X σ (WE w σ)) (ha : JA X w (e :: es) pa) (hg : Gl X x := by rfl) (hdb : (x == ("__debug__" : Str)) = false := by decide)
    (he : starEach (e :: es) X.env = (false, eval e X.env) :: starEach es X.env := by rfl) (hpl : (backTo pos (starEach es X.env)).any (·.1) = false := by rfl) : JE X w (.Call (.Name x q) (e :: es) [] pos) (pCallG (F p.1) [] pa) := by
  obtain ⟨f, fd, hm, hk, hf, hb⟩ := hF.ex
  obtain ⟨t, ea, sa⟩ := ha
  refine ⟨tCallS (SpG X.K X.mg (F p.1)) (WE w) t, ⟨fun pins s σ H Q I h => ?_⟩, fun H0 Hb0 as Hb H M σ s r S Q g => ?_⟩
  · refine wpAny_Call_Name_kw (ld_glob I hg hm ?_ hdb)
    refine PySem.W.callWith_K (h₀ := X.base) I.ok.mod.kin hk (thn (ea.run pos pins s σ H _ I h) fun us s1 ⟨vs, H1, I1, r, q⟩ => ⟨I1.kIn, ?_⟩) he hpl
    have hl : us.length = ps.length := by rw [← r.length]; exact hf.len _ _ _ _ _ q
    have b := hb s1 us I1.kIn (by rw [List.append_nil]; exact hl)
    rw [List.append_nil] at b
    have P1 := I1.pin p (List.mem_append_left _ hpn)
    have hpin : PinOk X.stack H1 s1 p := ⟨P1.1, P1.2.1, fun hm => (List.mem_cons.mp (I1.stkSub p.1 hm)).elim P1.2.2.1 P1.2.2.2.1, P1.2.2.2.2⟩
    refine wpAny_call (codeAny_mono (hf.run X.A X.stack s1 H1 ⟨us, []⟩ us vs Q (WE w σ) p hr hot hz hpin I1.env0 b r q) fun r s' hq => ?_)
    cases r with
    | error e => exact hx σ pins H1 s1 e s' I1 hq
    | ok fl =>
      cases fl with
      | ret u => exact I1.after hq
      | next => exact False.elim hq
      | brk => exact False.elim hq
      | cont => exact False.elim hq
  · refine Good.bind sa r S g fun vs ws as1 Hb1 H1 M1 r1 f1 S1 w1 g1 => ?_
    simp only [List.map_nil, List.append_nil] at g1
    refine ⟨H0, Hb0, as1, Hb1, M1, ws, r1, w1, ?_⟩
    cases q : F p.1 ws M1 with
    | ok a m => rw [q] at g1; exact g1
    | exc a m => rw [q] at g1; exact g1
    | stuck => rw [q] at g1; exact g1

/-! ### isinstance of the error -/
theorem call_isEp {D : Addr} (C : ExcC X.K D) (hz : Zc (.ref D) none p.2) (hf : ∃ vs, p.2.data = .fields vs) (hp : p ∈ X.pn) : CallR X (.builtin "isinstance") (rIsE X.K D p.1) := by
  intro pins s σ H xs us Q I r h
  obtain ⟨c, cv, b, rfl, hcv, e, q⟩ := h
  obtain ⟨a, oe⟩ := p
  cases r with
  | cons rx rr =>
    cases rr with
    | cons rt rr =>
      cases rr
      cases rx
      have ec := hcv _ rt
      subst ec
      obtain ⟨hget, _⟩ := I.pin (a, oe) (List.mem_append.mpr (.inl hp))
      obtain ⟨vs, hv⟩ := hf
      have J : PySem.W.InstAt s.heap a oe D none := by
        obtain ⟨oc, od, oda, osl⟩ := oe
        obtain ⟨h1, h2⟩ := hz
        dsimp only at h1 h2 hv
        subst h1 h2 hv
        exact ⟨hget, rfl, rfl, trivial⟩
      exact PySem.W.kia_one (PySem.W.handS_kitx_exc C.hg C.hk C.hs C.hd C.ha C.hn C.ht C.hm) I.kIn J e (fun z => nomatch z) fun tk => ⟨.bl b, H, I.kept (t' := tk) fun _ _ z => z, rfl, q⟩
def gIsE (a : Addr) (c : V) (b : Bool) : PF := fun ws M => match ws with
  | [.k u, .k v] => if u = .ref a ∧ v = c then .ok (.d (.bool b)) M else .stuck
  | _ => .stuck
theorem s_isE {K : PySem.W.Frag} {mg : Str → Option Value} {D a : Addr} {c : V} {cv : Value} {b : Bool} (hcv : ∀ u, RelV c u → u = cv) (hk : PySem.W.kitOne K (.ref D) cv = some b) : SimC K mg (rIsE K D a) (gIsE a c b) := by
  intro w H0 Hb0 as Hb H M σ ws vs r wr Q gd
  match ws, gd with
  | [], gd => exact gd.elim
  | [.k u, .k v], gd =>
    obtain ⟨v1, v2, rfl, w1, w2⟩ := two_args_of wr
    have e1 : v1 = u := w1
    have e2 : v2 = v := w2
    subst e1 e2
    have gd' : Good (repW K) K mg w H0 Hb0 as Hb σ Q (if v1 = .ref a ∧ v2 = c then .ok (.d (.bool b)) M else .stuck) := gd
    by_cases hc : v1 = .ref a ∧ v2 = c
    · rw [if_pos hc] at gd'
      obtain ⟨rfl, rfl⟩ := hc
      exact ⟨_, cv, b, rfl, hcv, hk, Good.ok gd' r (wr_bl b)⟩
    · rw [if_neg hc] at gd'
      exact gd'.elim
end
end Z

set_option linter.all false
set_option autoImplicit false
set_option maxRecDepth 100000
set_option maxHeartbeats 4000000
namespace Z
open PySem PySem.Spec PyProof.Rows L2 RT

/-! ### list(reversed(x)), x a list -/
section
variable {prog : Program} {w : World} {A : Around} {E : Value → Shared → Prop} {s : Shared}
theorem extend_rev {it l S : Addr} {items : Array Value} {res : Value} {c₀ : Nat} {R : Result → Shared → Prop} (hh : A.handled = none) (hit : s.heap.IsRevIter it l ((items.size : Int) - 1)) (hl : s.heap.IsList l items) (hne : l ≠ it) (hn : items.size ≤ sizeLine) (hSi : S ≠ it) (hSl : S ≠ l)
    (hS : s.heap.get? S = some { cls := .type "list", data := .seq #[] c₀ })
    (hR : ∀ h' tk acc' c', (∀ b o, b ≠ S → b ≠ it → s.heap.get? b = some o → h'.get? b = some o) → h'.get? S = some { cls := .type "list", dict := none, data := .seq acc' c', slots := #[] } →
      ItemsOf (fun i v => items[items.size - 1 - i]? = some v) acc' items.size → R (.ok (.ret res)) { s with heap := h', toks := tk }) :
    wpAny (model prog w) A.in1 (Builtin.List.listExtendWith (.ref S) (.ref it) res)
      (fun fin s' => match fin with | .done f => R (.ok f) s' | .again c' => c'.quiet = true ∧ codeAny (model prog w) A c' R s') (fun e s' => R (.error e) s') s := by
  have W := (Walks.listRev (prog := prog) (w := w) (A := A.in1) hh it l hne items).toS
  have hSf : S ∉ [it, l] := by simp only [List.mem_cons, List.not_mem_nil, or_false, not_or]; exact ⟨hSi, hSl⟩
  have hT : s.TypeIs (.ref it) "list_reverseiterator" := hit.typeIs
  have h1 : Builtin.List.listSameRef (.ref S) (.ref it) = false := by simp [Builtin.List.listSameRef, hSi]
  unfold Builtin.List.listExtendWith
  refine wpAny_bind (wpAny_typeOf hT ?_)
  rw [if_neg (by rw [h1]; decide)]
  refine wpAny_bind (wpAny_pyIter_revIter hit ?_)
  refine wpAny_bind (wpAny_holding ?_)
  unfold Builtin.List.listLengthHint
  refine wpAny_bind (wpAny_specialOf hT nolen_lri ?_)
  show wpAny _ A.in1 (specialOf (Value.ref it) (Str.ofString "__length_hint__") >>= _) _ _ _
  refine wpAny_bind (wpAny_specialOf hT hint_lri ?_)
  generalize hid : ("list_reverseiterator.__length_hint__" : String) = id0
  wp_delta
  rw [show splitId id0 = some ("list_reverseiterator", "__length_hint__") from by subst hid; decide +kernel]
  subst hid
  refine wpAny_bind (wpAny_isInstance (b := true) hT (by rw [isSubtype_type]; kernel_rfl) ?_)
  refine wpAny_pure ?_
  rw [if_neg (by decide)]
  have e0 : ((items.size : Nat) : Int) - 1 - ((0 : Nat) : Int) = (items.size : Int) - 1 := by omega
  refine wpAny_pure ⟨plainId_quiet F.plain_extend_loop _, codeAny_extend_loopS W hn _ hSf _ items.size 0 _ _ _ rfl (Nat.zero_le _) ⟨Nat.zero_le _, by rw [e0]; exact hit, hl⟩ hS (ItemsOf.nil _) fun s' acc' c' hm hS' hacc => ?_⟩
  rw [Moved.eq_with hm]
  refine hR s'.heap s'.toks acc' c' (fun b ob hb hb2 e => hm.heap b ob (fun hmem => ?_) e) hS' hacc
  rcases List.mem_cons.mp hmem with e' | hmem
  · exact hb e'
  · exact hb2 (List.mem_singleton.mp hmem)
theorem list_init_rev {it l S : Addr} {items : Array Value} {R : Result → Shared → Prop} (hh : A.handled = none) (hit : s.heap.IsRevIter it l ((items.size : Int) - 1)) (hl : s.heap.IsList l items) (hne : l ≠ it) (hn : items.size ≤ sizeLine) (hSi : S ≠ it) (hSl : S ≠ l)
    (hS : s.heap.get? S = some { cls := .type "list", data := .seq #[] })
    (hR : ∀ h' tk acc' c', (∀ b o, b ≠ S → b ≠ it → s.heap.get? b = some o → h'.get? b = some o) → h'.get? S = some { cls := .type "list", dict := none, data := .seq acc' c', slots := #[] } →
      ItemsOf (fun i v => items[items.size - 1 - i]? = some v) acc' items.size → R (.ok (.ret .none)) { s with heap := h', toks := tk }) :
    wpAny (model prog w) A.in1 (Builtin.«list.__init__» ⟨[.ref S, .ref it], []⟩)
      (fun fin s' => match fin with | .done f => R (.ok f) s' | .again c' => c'.quiet = true ∧ codeAny (model prog w) A c' R s') (fun e s' => R (.error e) s') s := by
  show wpAny _ A.in1 (do let old ← Builtin.List.listItems (.ref S); Builtin.List.listUpdate (.ref S) (fun _ => #[]); letGo old.toList.reverse; Builtin.List.listExtendWith (.ref S) (.ref it) .none) _ _ s
  refine wpAny_bind ?_
  unfold Builtin.List.listItems
  refine wpAny_bind (wpAny_seqItems hS rfl (wpAny_pure ?_))
  show wpAny _ A.in1 (updateSeq S (fun _ => #[]) >>= fun _ => letGo (#[] : Array Value).toList.reverse >>= fun _ => Builtin.List.listExtendWith (.ref S) (.ref it) .none) _ _ s
  refine wpAny_bind (wpAny_updateSeq hS rfl ?_)
  have hS₂ := Heap.get?_update_self (Obj.mapSeq (fun _ => (#[] : Array Value))) hS rfl
  have oth : ∀ b o, b ≠ S → s.heap.get? b = some o → (s.heap.update S (Obj.mapSeq (fun _ => (#[] : Array Value)))).get? b = some o :=
    fun b o hb e => (Heap.get?_update_other _ _ (Ne.symm hb)).trans e
  refine wpAny_bind (wpAny_letGo ?_)
  obtain ⟨oi, ho1, ho2⟩ := id hit
  obtain ⟨ol, ho3, ho4⟩ := id hl
  refine extend_rev (s := { s with heap := s.heap.update S (Obj.mapSeq (fun _ => (#[] : Array Value))) }) hh ⟨oi, oth _ _ hSi.symm ho1, ho2⟩ ⟨ol, oth _ _ hSl.symm ho3, ho4⟩ hne hn hSi hSl hS₂ fun h' tk acc' c' hk hS' hacc => ?_
  exact hR h' tk acc' c' (fun b o hb hb2 e => hk b o hb hb2 (oth b o hb e)) hS' hacc
theorem call_list_rev {it l : Addr} {items : Array Value} {Q : Value → Shared → Prop} (hh : A.handled = none) (hit : s.heap.IsRevIter it l ((items.size : Int) - 1)) (hl : s.heap.IsList l items) (hne : l ≠ it) (hn : items.size ≤ sizeLine)
    (hQ : ∀ h' tk acc' c', (∀ b o, b ≠ it → s.heap.get? b = some o → h'.get? b = some o) →
      h'.get? s.heap.objs.size = some { cls := .type "list", dict := none, data := .seq acc' c', slots := #[] } → ItemsOf (fun i v => items[items.size - 1 - i]? = some v) acc' items.size → Q (.ref s.heap.objs.size) { s with heap := h', toks := tk }) :
    wpAny (model prog w) A (call (.type "list") [.ref it]) Q E s := by
  obtain ⟨oi, hoi, hoi2⟩ := id hit
  obtain ⟨ol, hol, hol2⟩ := id hl
  refine callType_codes (Q₁ := fun obj s₁ => obj = .ref s.heap.objs.size ∧ s₁ = { s with heap := s.heap.push { cls := .type "list", data := .seq #[] } }) F.called_list (F.typeCall_list_1 _) F.entry_list_init
    (code_list_new _ ⟨rfl, rfl⟩) fun obj s₁ h₁ => ?_
  obtain ⟨rfl, rfl⟩ := h₁
  have hS : (s.heap.push { cls := .type "list", data := .seq #[] }).get? s.heap.objs.size = some { cls := .type "list", data := .seq #[] } := Heap.get?_push_size _ rfl
  refine ⟨⟨_, hS, rfl⟩, F.args_list_init_2 _ _, list_init_rev (A := A.in1) (s := { s with heap := s.heap.push { cls := .type "list", data := .seq #[] } }) hh ⟨oi, Heap.get?_push_of_some _ hoi, hoi2⟩ ⟨ol, Heap.get?_push_of_some _ hol, hol2⟩ hne hn (Nat.ne_of_gt (Heap.lt_size hoi)) (Nat.ne_of_gt (Heap.lt_size hol)) hS fun h' tk acc' c' hk hS' hacc => ?_⟩
  exact ⟨rfl, hQ h' tk acc' c' (fun b o hb e => hk b o (Nat.ne_of_lt (Heap.lt_size e)) hb (Heap.get?_push_of_some _ e)) hS' hacc⟩
end

def tListRev (K : PySem.W.Frag) (te : TE) : TE := fun σ H Q => te σ H fun v H1 => ∃ (a : Addr) (xs : List V), v = .ref a ∧ SqL K H1 a xs ∧ ∀ q, H1 q = none → Q (.ref q) (upd H1 q (.lst xs.reverse))
section
variable {X : Cx} {w : WX}
theorem pe_listRev {e : Expr} {te : TE} {p p2 pos pos2 : Pos} (hc : X.calm = true) (hg : Gl X "list") (hm : X.mg "list" = none) (hg2 : Gl X "reversed") (hm2 : X.mg "reversed" = none) (he : PE X e te)
    (hs : starEach [e] X.env = (false, eval e X.env) :: starEach [] X.env := by rfl)
    (hs2 : starEach [.Call (.Name "reversed" p2) [e] [] pos2] X.env = (false, eval (.Call (.Name "reversed" p2) [e] [] pos2) X.env) :: starEach [] X.env := by rfl) :
    PE X (.Call (.Name "list" p) [.Call (.Name "reversed" p2) [e] [] pos2] [] pos) (tListRev X.K te) := by
  refine ⟨fun pins s σ H Q I h => ?_⟩
  refine Call_ (ld_blt I hg hm boot_list (PyProof.Rows.callWith_type1 (args_cons (Call_ (ld_blt I hg2 hm2 PyProof.Rows.boot_reversed (PyProof.Rows.callWith_type1 (args_cons (thn (he.run pins s σ H _ I h) fun u s1 ⟨v, H1, I1, r1, q1⟩ => args_nil ?_) hs) hs rfl))) hs2) hs2 rfl))
  obtain ⟨a, xs, ev, hq, q⟩ := q1
  subst ev
  obtain rfl : u = Value.ref a := r1
  obtain ⟨its, rv, p', hz⟩ := I1.list hq
  refine call_reversed_list p'.isList (args_nil ?_)
  have hl := p'.isList
  obtain ⟨ol, hol, _⟩ := id hl
  have hne : a ≠ s1.heap.objs.size := Nat.ne_of_lt (Heap.lt_size hol)
  have hn : its.toArray.size ≤ sizeLine := by rw [List.size_toArray, ← rv.length]; exact hz
  refine call_list_rev (s := { s1 with heap := s1.heap.push (revObj a ((its.toArray.size : Int) - 1)) }) (I1.ok.hd hc) ⟨_, Heap.get?_push_size _ rfl, rfl, rfl⟩ (hl.push _) hne hn fun h' tk acc c' hk hS hi => ?_
  have hsz : (s1.heap.push (revObj a ((its.toArray.size : Int) - 1))).objs.size = s1.heap.objs.size + 1 := Heap.size_push _ _
  have le : s1.heap.objs.size ≤ (s1.heap.push (revObj a ((its.toArray.size : Int) - 1))).objs.size := by rw [hsz]; exact Nat.le_succ _
  refine ⟨.ref _, upd H1 (s1.heap.push (revObj a ((its.toArray.size : Int) - 1))).objs.size (.lst xs.reverse), I1.laid (t' := tk) (fun c o e => hk c o (Nat.ne_of_lt (Heap.lt_size e)) (Heap.get?_push_of_some _ e)) le (show ObjOk X.prog X.w _ _ _ (.lst xs.reverse) from ⟨by rw [List.length_reverse]; exact hz, acc.toList, c', vals_rev rv hi, ?_⟩), rfl, q _ (I1.hok.fresh le)⟩
  rw [Array.toArray_toList]
  exact hS
def pListRev (p : PEx) : PAx := fun s M => (p s M).bind fun x M1 => match itemsL M1 x with
  | some ws => .ok ws.reverse M1
  | none => .stuck
theorem Paired.rev {α β : Type} {F : α → β → Prop} : ∀ {l : List α} {m : List β}, Paired F l m → Paired F l.reverse m.reverse
  | _, _, .nil => .nil
  | _, _, .cons h t => by
    rw [List.reverse_cons, List.reverse_cons]
    exact Paired.app (Paired.rev t) (.cons h .nil)
theorem jl_listRev {e : Expr} {pe : PEx} {p p2 pos pos2 : Pos} (hc : X.calm = true) (hm : X.mg "list" = none) (hm2 : X.mg "reversed" = none) (h : JE X w e pe) (hg : Gl X "list" := by rfl) (hg2 : Gl X "reversed" := by rfl)
    (hs : starEach [e] X.env = (false, eval e X.env) :: starEach [] X.env := by rfl)
    (hs2 : starEach [.Call (.Name "reversed" p2) [e] [] pos2] X.env = (false, eval (.Call (.Name "reversed" p2) [e] [] pos2) X.env) :: starEach [] X.env := by rfl) : JL X w (.Call (.Name "list" p) [.Call (.Name "reversed" p2) [e] [] pos2] [] pos) (pListRev pe) := by
  obtain ⟨t, e1, s1⟩ := h
  refine ⟨_, pe_listRev hc hg hm hg2 hm2 e1 hs hs2, fun H0 Hb0 as Hb H M σ s r S Q g => ?_⟩
  refine Good.bind s1 r S g fun v x as1 Hb1 H1 M1 r1 f1 S1 w1 g1 => ?_
  cases hi : itemsL M1 x with
  | none => rw [hi] at g1; exact g1.elim
  | some ws =>
    rw [hi] at g1
    obtain ⟨a, vs, rfl, hH, wr, z⟩ := itemsL_ok r1 w1 hi
    refine ⟨a, vs, rfl, SqL.of hH, fun q hq => ?_⟩
    exact Good.ok g1 (r1.newAny hq) ⟨q, vs.reverse, rfl, upd_same, by rw [List.length_reverse]; exact z, Paired.rev wr, fun hm => r1.al q hm hq, r1.hbn hq, r1.h0n hq⟩
end

/-! ### max of data -/
def rMaxT (K : PySem.W.Frag) : List V → Hp → VK → Prop := fun vs H Q => ∃ (a : Addr) (xs : List V) (d : PyData) (ds : List PyData), vs = [.ref a] ∧ SqL K H a xs ∧ DtAll K H xs (d :: ds) ∧ (allAlike (d :: ds) && ((d :: ds).all fun x => !isNonD x) && decide (PyData.depthAll (d :: ds) ≤ 60)) = true ∧
  ∀ y : V, (∀ Hb : Hp, DzAll K Hb xs (d :: ds) → Dz K Hb y (PySem.W.maxD d ds)) → Q y H
theorem reads_all {X : Cx} {pins : List (Addr × Obj)} {σ : L2.St} {H : Hp} {s : Shared} (I : Inv X pins σ H s) : ∀ {xs : List V} {ds : List PyData} {its : List Value}, Vals xs its → DtAll X.K H xs ds → ∃ as, PySem.ReadsAll s.heap its ds as
  | _, [], _, .nil, _ => ⟨_, .nil⟩
  | _, _ :: _, _, .nil, h => by cases h
  | _, [], _, .cons _ _, h => by cases h
  | _, d :: ds, _, .cons r t, h => by
    cases h with
    | cons h1 h2 =>
      obtain ⟨a1, r1⟩ := Dp.reads I d _ _ (Dt.dp d _ h1) r
      obtain ⟨a2, r2⟩ := reads_all I t h2
      exact ⟨_, .cons r1 r2⟩
theorem vals_get {xs : List V} {its : List Value} (r : Vals xs its) : ∀ {i : Nat} {v : Value}, its[i]? = some v → ∃ y, xs[i]? = some y ∧ RelV y v := by
  induction r with
  | nil => intro i v h; simp at h
  | cons h t ih =>
    intro i v e
    cases i with
    | zero => simp at e; subst e; exact ⟨_, rfl, h⟩
    | succ j => simpa using ih (by simpa using e)
theorem dt_get {K : PySem.W.Frag} {H : Hp} {xs : List V} {ds : List PyData} (h : DtAll K H xs ds) {i : Nat} {y : V} (e : xs[i]? = some y) : ∃ d, ds[i]? = some d ∧ Dt K H y d := by
  induction xs generalizing ds i with
  | nil => simp at e
  | cons x xs ih =>
    cases h with
    | cons h1 h2 =>
      cases i with
      | zero => simp at e; subst e; exact ⟨_, rfl, h1⟩
      | succ j => simpa using ih h2 (by simpa using e)
theorem Paired.get2 {α β : Type} {F : α → β → Prop} : ∀ {l : List α} {m : List β} {i : Nat} {a : α} {b : β}, Paired F l m → l[i]? = some a → m[i]? = some b → F a b
  | _, _, _, _, _, .nil, h, _ => by simp at h
  | _, _, 0, _, _, .cons h t, e, e' => by simp at e e'; subst e e'; exact h
  | _, _, i + 1, _, _, .cons h t, e, e' => Paired.get2 (i := i) t (by simpa using e) (by simpa using e')
theorem cr_maxT {X : Cx} (hc : X.calm = true) (hu : X.A.units + 64 < cLine) : CallR X (.builtin "max") (rMaxT X.K) := by
  intro pins s σ H vs us Q I r h
  obtain ⟨a, xs, d, ds, rfl, hs, hd, hk, q⟩ := h
  obtain ⟨its, rv, hl, hz⟩ := I.list hs
  rw [Vals.ref1 r]
  simp only [Bool.and_eq_true, decide_eq_true_eq] at hk
  obtain ⟨⟨h1, h2⟩, h3⟩ := hk
  have al : ∀ x ∈ d :: ds, ∀ y ∈ d :: ds, PySem.W.alike x y = true := fun x hx y hy => by
    unfold allAlike at h1
    rw [List.all_eq_true] at h1
    have z := h1 x hx
    rw [List.all_eq_true] at z
    exact z y hy
  have ha : PySem.W.AlikeAll (d :: ds) := ⟨al, fun x hx e => by
    rw [List.all_eq_true] at h2
    have z := h2 x hx
    subst e
    simp [isNonD] at z⟩
  obtain ⟨as, ra⟩ := reads_all I rv hd
  refine PySem.W.max_list_data (I.ok.hd hc) hl.isList (by simpa using ra) ha (by omega) fun i v h' tk bs hv hr hk' => ?_
  have hv' : its[i]? = some v := by simpa using hv
  obtain ⟨y, hy, ry⟩ := vals_get rv hv'
  obtain ⟨e, he, hde⟩ := dt_get hd hy
  obtain ⟨a1, r1⟩ := Dp.reads I e _ _ (Dt.dp e _ hde) ry
  have hm : PySem.W.maxD d ds ∈ d :: ds := by
    have : ∀ (l : List PyData) (x : PyData), l.foldl (fun a y => if PySem.W.dataLt a y then y else a) x ∈ x :: l := by
      intro l
      induction l with
      | nil => intro x; simp
      | cons z l ih =>
        intro x
        rw [List.foldl_cons]
        have := ih (if PySem.W.dataLt x z then z else x)
        rcases List.mem_cons.mp this with h | h
        · rw [h]; split <;> simp
        · simp [h]
    exact this ds d
  have eq : e = PySem.W.maxD d ds := PySem.W.alike_unique e _ v a1 bs (al e (List.mem_of_getElem? he) _ hm) (PySem.W.reads_keeps hk' r1) hr
  subst eq
  exact ⟨y, H, I.kept (t' := tk) hk', ry, q y fun Hb dz => Paired.get2 dz hy he⟩
def gMaxT : List W → Ms → R W := fun ws M => match ws with
  | [.d (.list (d :: ds))] => if (allAlike (d :: ds) && ((d :: ds).all fun x => !isNonD x) && decide (PyData.depthAll (d :: ds) ≤ 60)) = true then .ok (.d (PySem.W.maxD d ds)) M else .stuck
  | _ => .stuck
theorem s_maxT {K : PySem.W.Frag} {mg : Str → Option Value} : SimC K mg (rMaxT K) gMaxT := by
  intro w H0 Hb0 as Hb H M σ ws vs r wr Q gd
  match ws, gd with
  | [], gd => exact gd.elim
  | [.d (.list (d :: ds))], gd =>
    obtain ⟨v, rfl, wx⟩ := one_arg_of wr
    have gd' : Good (repW K) K mg w H0 Hb0 as Hb σ Q (if (allAlike (d :: ds) && ((d :: ds).all fun x => !isNonD x) && decide (PyData.depthAll (d :: ds) ≤ 60)) = true then .ok (.d (PySem.W.maxD d ds)) M else .stuck) := gd
    split at gd'
    · rename_i hc
      obtain ⟨h1, h2⟩ := wx
      cases h1 with
      | lst hs ha => exact ⟨_, _, d, ds, rfl, SqL.of (r.sub _ _ hs), (DtAll.mono r.sub _ _ ha), hc, fun y hy => Good.ok gd' r (hy Hb (dzAll_of ha h2.2))⟩
    · exact gd'.elim
end Z

set_option linter.all false
set_option autoImplicit false
set_option maxRecDepth 100000
set_option maxHeartbeats 4000000
namespace Z
open PySem PySem.Spec PyProof.Rows L2 L2H

/-! ### a weaker reading -/
theorem Good.le {β α : Type} {rep : Rep β α} {K : PySem.W.Frag} {mg : Str → Option Value} {w : WX} {H0 Hb0 Hb : Hp} {as : List Addr} {σ : L2.St} {Q : β → Hp → Prop} {r r' : R α} (h : r ≠ .stuck → r' = r) (g : Good rep K mg w H0 Hb0 as Hb σ Q r) : Good rep K mg w H0 Hb0 as Hb σ Q r' := by
  cases r with
  | stuck => exact g.elim
  | ok a m => rw [h (by simp)]; exact g
  | exc a m => rw [h (by simp)]; exact g
section
variable {X : Cx} {w : WX}
theorem JE.le {e : Expr} {p q : PEx} (j : JE X w e p) (h : ∀ s M, q s M ≠ .stuck → p s M = q s M) : JE X w e q := by
  obtain ⟨t, e1, s1⟩ := j
  exact ⟨t, e1, fun H0 Hb0 as Hb H M σ s r S Q g => s1 H0 Hb0 as Hb H M σ s r S Q (Good.le (h s M) g)⟩
end
theorem SpG.le {K : PySem.W.Frag} {mg : Str → Option Value} {F G : PF} (h : ∀ ws M, G ws M ≠ .stuck → F ws M = G ws M) {vs : List V} {H : Hp} {Q : VK} {E : XK} (s : SpG K mg G vs H Q E) : SpG K mg F vs H Q E := by
  obtain ⟨H0, Hb0, as, Hb, M, ws, r, wr, g⟩ := s
  exact ⟨H0, Hb0, as, Hb, M, ws, r, wr, Good.le (h ws M) g⟩
section
variable {P : Program} {w : World} {K : PySem.W.Frag} {mg : Str → Option Value} {base : Heap} {k : Nat} {x : Str} {f : Addr} {ps : List Str} {dds : List PyData} {F G : PF}
theorem IsFn.le (i : IsFn P w K mg base k x ps dds F) (h : ∀ ws M, G ws M ≠ .stuck → F ws M = G ws M) : IsFn P w K mg base k x ps dds G := by
  obtain ⟨f, fd, dvs, ds, h1, h2, h3, h4⟩ := i.ex
  exact ⟨f, fd, dvs, ds, h1, h2, h3.imp fun vs H Q E s => SpG.le h s, h4⟩
theorem IsFnAt.le (i : IsFnAt P w K mg base k f ps dds F) (h : ∀ ws M, G ws M ≠ .stuck → F ws M = G ws M) : IsFnAt P w K mg base k f ps dds G := by
  obtain ⟨fd, dvs, ds, h3, h4⟩ := i.ex
  exact ⟨fd, dvs, ds, h3.imp fun vs H Q E s => SpG.le h s, h4⟩
/-- a def that changes nothing, by a plain function of its data -/
structure IsPure (P : Program) (w : World) (K : PySem.W.Frag) (mg : Str → Option Value) (base : Heap) (k : Nat) (x : Str) (ps : List Str) (dds : List PyData) (p : List PyData → PR) : Prop where
  ex : ∃ F, IsFn P w K mg base k x ps dds F ∧ ∀ ds, p ds ≠ .stuck → F.pure ds = p ds
theorem IsFn.pure (i : IsFn P w K mg base k x ps dds F) {p : List PyData → PR} (h : ∀ ds, p ds ≠ .stuck → F.pure ds = p ds) : IsPure P w K mg base k x ps dds p := ⟨F, i, h⟩
end
def pCallQ (p : List PyData → PR) (dds : List PyData) (a : PAx) : PEx := fun s M => (a s M).bind fun ws M1 => match allD ws with
  | some ds => (p (ds ++ dds)).to M1
  | none => match viewAll M1 ws with
    | some ds => (match p (ds ++ dds) with
      | .ok d => if scalar d then .ok (.d d) M1 else .stuck
      | .exc e => .exc e M1
      | .stuck => .stuck)
    | none => .stuck
section
variable {X : Cx} {w : WX} {k : Nat} {x : Str} {ps : List Str} {dds : List PyData} {f : List PyData → PR} {e : Expr} {es : List Expr} {pa : PAx} {p pos : Pos}
theorem je_callQ (hF : IsPure X.prog X.w X.K X.mg X.base k x ps dds f) (hr : Room k X.A) (hx : ∀ σ, PassesAt (L2N.CX X.prog X.w) X σ (WE w σ)) (ha : JA X w (e :: es) pa) (hg : Gl X x := by rfl) (hdb : (x == ("__debug__" : Str)) = false := by decide)
    (he : starEach (e :: es) X.env = (false, eval e X.env) :: starEach es X.env := by rfl) (hpl : (backTo pos (starEach es X.env)).any (·.1) = false := by rfl) : JE X w (.Call (.Name x p) (e :: es) [] pos) (pCallQ f dds pa) := by
  obtain ⟨F, i, h⟩ := hF.ex
  refine (je_callP i hr hx ha hg hdb he hpl).le fun s M ne => ?_
  unfold pCallQ at ne ⊢
  unfold pCallP
  cases q : pa s M with
  | stuck => rfl
  | exc a m => rfl
  | ok ws m =>
    rw [q] at ne
    simp only [R.bind] at ne ⊢
    cases h1 : allD ws with
    | some ds =>
      rw [h1] at ne
      have n : f (ds ++ dds) ≠ .stuck := fun z => ne (by simp [z, PR.to])
      simp [h _ n]
    | none =>
      rw [h1] at ne
      cases h2 : viewAll m ws with
      | none => rfl
      | some ds =>
        rw [h2] at ne
        have n : f (ds ++ dds) ≠ .stuck := fun z => ne (by simp [z])
        first
        | (simp [h _ n]; done)
        | (simp [h _ n]; rfl)
theorem je_gintE {i : Int} {pos : Pos} (hm : ∃ t, X.mg x = some (.int i t)) (hg : Gl X x := by rfl) (hd : (x == ("__debug__" : Str)) = false := by decide) : JE X w (.Name x pos) (pC (.int i)) := by
  obtain ⟨t, h⟩ := hm
  exact je_gint h hg hd
theorem je_gstrE {y : Str} {pos : Pos} (hm : ∃ t, X.mg x = some (.str y t)) (h : y.length ≤ sizeLine := by decide) (hg : Gl X x := by rfl) (hd : (x == ("__debug__" : Str)) = false := by decide) : JE X w (.Name x pos) (pC (.str y)) := by
  obtain ⟨t, h'⟩ := hm
  exact je_gstr h' h hg hd
end
theorem hu64 {k : Nat} {A : Around} (hr : Room k A) : A.units + 64 < cLine := by have := hr.un; omega
theorem hu65 {k : Nat} {A : Around} (hr : Room k A) : A.units + 65 < cLine := by have := hr.un; omega
theorem hu64H {k : Nat} {A : Around} (hr : RoomH k A) : A.units + 64 < cLine := by have := hr.un; omega

/-! ### where the text's defs lie -/
structure DefAt (K : PySem.W.Frag) (mg : Str → Option Value) (x : Str) (st : Stmt) (ps : List Str) : Prop where
  ex : ∃ f fd, mg x = some (.ref f) ∧ PySem.W.keepIn K (.ref f) = true ∧ Fun K x x st f fd ∧ Binds K fd ps []
/-- .. with defaults, all parameters given -/
structure DefAtD (K : PySem.W.Frag) (mg : Str → Option Value) (x : Str) (st : Stmt) (ps : List Str) : Prop where
  ex : ∃ f fd dvs kws, mg x = some (.ref f) ∧ PySem.W.keepIn K (.ref f) = true ∧ FunD K x x (defArgs st) (defBody st) (defScope st) dvs kws f fd ∧ Binds K fd ps []
structure MethAt (K : PySem.W.Frag) (C : Addr) (m q : Str) (st : Stmt) (ps : List Str) : Prop where
  ex : ∃ f fd, Meth K C m f ∧ Fun K m q st f fd ∧ Binds K fd ps []
structure MakeAt (K : PySem.W.Frag) (C : Addr) (q : Str) (st : Stmt) (ps : List Str) : Prop where
  ex : ∃ f fd, Mk K C f ∧ Fun K "__init__" q st f fd ∧ Binds K fd ps []
structure IsMeth (P : Program) (w : World) (K : PySem.W.Frag) (mg : Str → Option Value) (base : Heap) (k : Nat) (C : Addr) (m : Str) (ps : List Str) (F : PF) : Prop where
  ex : ∃ f, Meth K C m f ∧ IsFnAt P w K mg base k f ps [] F
structure IsMake (P : Program) (w : World) (K : PySem.W.Frag) (mg : Str → Option Value) (base : Heap) (k : Nat) (C : Addr) (ps : List Str) (F : PF) : Prop where
  ex : ∃ f, Mk K C f ∧ IsFnAt P w K mg base k f ps [] F
section
variable {P : Program} {w : World} {K : PySem.W.Frag} {mg : Str → Option Value} {base : Heap} {k : Nat} {x q : Str} {C : Addr} {st : Stmt} {N ps : List Str} {b : PSx} {F G : PF}
theorem IsMeth.le (i : IsMeth P w K mg base k C x ps F) (h : ∀ ws M, G ws M ≠ .stuck → F ws M = G ws M) : IsMeth P w K mg base k C x ps G := let ⟨f, h1, h2⟩ := i.ex; ⟨f, h1, h2.le h⟩
theorem IsMake.le (i : IsMake P w K mg base k C ps F) (h : ∀ ws M, G ws M ≠ .stuck → F ws M = G ws M) : IsMake P w K mg base k C ps G := let ⟨f, h1, h2⟩ := i.ex; ⟨f, h1, h2.le h⟩
/-- what a body's proof gets -/
structure BodyX (X : Cx) (w : WX) (k : Nat) : Prop where
  hr : Room k X.A
  hp : PassesOwn (model X.prog X.w) X.A X.env X.xe
  tk : L2N.Takes X w
  hx : ∀ σ, PassesAt (L2N.CX X.prog X.w) X σ (WE w σ)
theorem bodyX {qual : Str} {scope : Scope} {f : Addr} {cdv : Value} {A : Around} {outer : List Env} {s : Shared} {H : Hp} {E : XK} (hr : Room k (A.deeper (envOfC qual scope s.heap.objs.size f cdv))) : BodyX (cxOf (L2N.CX P w) P w K mg base N qual scope f cdv A outer s H E) (fun c d _ H' => E c d H') k :=
  have tk : L2N.Takes (cxOf (L2N.CX P w) P w K mg base N qual scope f cdv A outer s H E) (fun c d _ H' => E c d H') := L2N.takes_of rfl rfl rfl rfl
  ⟨hr, passes_of rfl, tk, fun σ => L2N.passAt tk σ⟩
theorem DefAt.fn (d : DefAt K mg x st ps) (S : FnScope N ps (defScope st))
    (hb : ∀ (f : Addr) (cdv : Value) (A : Around) (outer : List Env) (s : Shared) (H : Hp) (E : XK), BodyX (cxOf (L2N.CX P w) P w K mg base N x (defScope st) f cdv A outer s H E) (fun c d _ H' => E c d H') k → JSs (cxOf (L2N.CX P w) P w K mg base N x (defScope st) f cdv A outer s H E) (fun c d _ H' => E c d H') (defBody st) b) :
    IsFn P w K mg base (k + 1) x ps [] (runG N.length ps.length b) := by
  obtain ⟨f, fd, h1, h2, F, hB⟩ := d.ex
  exact ⟨f, fd, [], [], h1, h2, fn_G F S fun cdv A outer s H E hr => hb f cdv A outer s H E (bodyX hr), hB, .nil, .nil, trivial⟩
theorem DefAtD.fn (d : DefAtD K mg x st ps) (S : FnScope N ps (defScope st))
    (hb : ∀ (f : Addr) (cdv : Value) (A : Around) (outer : List Env) (s : Shared) (H : Hp) (E : XK), BodyX (cxOf (L2N.CX P w) P w K mg base N x (defScope st) f cdv A outer s H E) (fun c d _ H' => E c d H') k → JSs (cxOf (L2N.CX P w) P w K mg base N x (defScope st) f cdv A outer s H E) (fun c d _ H' => E c d H') (defBody st) b) :
    IsFn P w K mg base (k + 1) x ps [] (runG N.length ps.length b) := by
  obtain ⟨f, fd, dvs, kws, h1, h2, F, hB⟩ := d.ex
  exact ⟨f, fd, [], [], h1, h2, fn_GD F S fun cdv A outer s H E hr => hb f cdv A outer s H E (bodyX hr), hB, .nil, .nil, trivial⟩
theorem MethAt.fn (d : MethAt K C x q st ps) (S : FnScope N ps (defScope st))
    (hb : ∀ (f : Addr) (cdv : Value) (A : Around) (outer : List Env) (s : Shared) (H : Hp) (E : XK), BodyX (cxOf (L2N.CX P w) P w K mg base N q (defScope st) f cdv A outer s H E) (fun c d _ H' => E c d H') k → JSs (cxOf (L2N.CX P w) P w K mg base N q (defScope st) f cdv A outer s H E) (fun c d _ H' => E c d H') (defBody st) b) :
    IsMeth P w K mg base (k + 1) C x ps (runG N.length ps.length b) := by
  obtain ⟨f, fd, h1, F, hB⟩ := d.ex
  exact ⟨f, h1, fd, [], [], fn_G F S fun cdv A outer s H E hr => hb f cdv A outer s H E (bodyX hr), hB, .nil, .nil, trivial⟩
theorem MakeAt.fn (d : MakeAt K C q st ps) (S : FnScope N ps (defScope st))
    (hb : ∀ (f : Addr) (cdv : Value) (A : Around) (outer : List Env) (s : Shared) (H : Hp) (E : XK), BodyX (cxOf (L2N.CX P w) P w K mg base N q (defScope st) f cdv A outer s H E) (fun c d _ H' => E c d H') k → JSs (cxOf (L2N.CX P w) P w K mg base N q (defScope st) f cdv A outer s H E) (fun c d _ H' => E c d H') (defBody st) b) :
    IsMake P w K mg base (k + 1) C ps (runG N.length ps.length b) := by
  obtain ⟨f, fd, h1, F, hB⟩ := d.ex
  exact ⟨f, h1, fd, [], [], fn_G F S fun cdv A outer s H E hr => hb f cdv A outer s H E (bodyX hr), hB, .nil, .nil, trivial⟩
end
section
variable {X : Cx} {w : WX} {k : Nat} {C : Addr} {m x : Str} {ps : List Str} {F : PF} {o e : Expr} {es : List Expr} {po : PEx} {pa : PAx} {p pos apos : Pos}
theorem je_methB {pl : Sem Bool} (c : Cls X.K C) (i : IsMeth X.prog X.w X.K X.mg X.base k C m ps F) (hr : Room k X.A) (hx : ∀ σ, PassesAt (L2N.CX X.prog X.w) X σ (WE w σ)) (ho : JE X w o po) (ha : JA X w (e :: es) pa)
    (hst : starEach (e :: es) X.env = (false, eval e X.env) :: starEach es X.env := by rfl) (hpl : (backTo pos (starEach es X.env)).any (·.1) = false := by rfl)
    (ht : eval (.Call (.Attribute o m apos) (e :: es) [] pos) X.env = (do
      let ov ← eval o X.env
      standAt apos.atName
      let (f, first) ← holding [ov] (getMethod ov m pl)
      callWith pos f first (backTo pos (starEach (e :: es) X.env)) (backToKw pos (keywordEach [] X.env))) := by rfl) :
    JE X w (.Call (.Attribute o m apos) (e :: es) [] pos) (pMeth C m F [] po pa) := by
  obtain ⟨f, h1, h2⟩ := i.ex
  exact je_meth c h1 h2 hr hx ho ha hst hpl ht
theorem je_methB0 {pl : Sem Bool} (c : Cls X.K C) (i : IsMeth X.prog X.w X.K X.mg X.base k C m ps F) (hr : Room k X.A) (hx : ∀ σ, PassesAt (L2N.CX X.prog X.w) X σ (WE w σ)) (ho : JE X w o po)
    (ht : eval (.Call (.Attribute o m apos) [] [] pos) X.env = (do
      let ov ← eval o X.env
      standAt apos.atName
      let (f, first) ← holding [ov] (getMethod ov m pl)
      callWith pos f first (backTo pos (starEach [] X.env)) (backToKw pos (keywordEach [] X.env))) := by rfl) :
    JE X w (.Call (.Attribute o m apos) [] [] pos) (pMeth C m F [] po pNil) := by
  obtain ⟨f, h1, h2⟩ := i.ex
  exact je_meth0 c h1 h2 hr hx ho ht
theorem je_makeB (i : IsMake X.prog X.w X.K X.mg X.base k C ps F) (hr : Room (k + 1) X.A) (hm : X.mg x = some (.ref C)) (ha : JA X w (e :: es) pa) (hg : Gl X x := by rfl) (hdb : (x == ("__debug__" : Str)) = false := by decide)
    (he : starEach (e :: es) X.env = (false, eval e X.env) :: starEach es X.env := by rfl) (hpl : (backTo pos (starEach es X.env)).any (·.1) = false := by rfl) : JE X w (.Call (.Name x p) (e :: es) [] pos) (pMake C F [] pa) := by
  obtain ⟨f, h1, h2⟩ := i.ex
  exact je_make h1 h2 hr hm ha hg hdb he hpl
theorem je_makeB0 (i : IsMake X.prog X.w X.K X.mg X.base k C ps F) (hr : Room (k + 1) X.A) (hm : X.mg x = some (.ref C)) (hg : Gl X x := by rfl) (hdb : (x == ("__debug__" : Str)) = false := by decide) : JE X w (.Call (.Name x p) [] [] pos) (pMake C F [] pNil) := by
  obtain ⟨f, h1, h2⟩ := i.ex
  exact je_make0 h1 h2 hr hm hg hdb
end
end Z

set_option linter.all false
set_option autoImplicit false
set_option maxRecDepth 100000
set_option maxHeartbeats 4000000
namespace Z
open PySem PySem.Spec PyProof.Rows L2 L2H

/-! ### except C as n: return f(n) -/
/-- an error of the class named c, without fields -/
def ZpC (mg : Str → Option Value) (c : Str) : Obj → Prop := fun o => ∃ cls, mg c = some cls ∧ L2N.Zn cls none o ∧ ∃ vs, o.data = .fields vs
def gHot (s : Str) (a : Addr) : PF := fun ws M => match ws with
  | [.k u] => if u = .ref a then .ok (.d (.str s)) M else .stuck
  | _ => .stuck
def suHot (code : Str → Str) (i : Nat) : Exn → Addr → PSx := fun e a => match e.arg with
  | none => pRet (pCallG (gHot (code e.c) a) [] (pCons (pVar i) pNil))
  | some _ => fun _ _ => .stuck
theorem suHot_in (code : Str → Str) (i : Nat) (e : Exn) (a : Addr) (s : Sl) (M : Ms) : clearO i (suHot code i e a (s.set i (some (.k (.ref a)))) M) = clearO i (suHot code i e 0 (s.set i (some (.k (.ref 0)))) M) := by
  unfold suHot
  cases e.arg with
  | some _ => rfl
  | none =>
    unfold pRet pCallG pCons pVar pNil gHot
    by_cases h : i < s.length
    · simp [List.getElem?_set_self h, R.bind, R.to, clearO]
    · have h1 : (s.set i (some (W.k (.ref a))))[i]? = none := List.getElem?_eq_none (by simpa using h)
      have h2 : (s.set i (some (W.k (.ref 0))))[i]? = none := List.getElem?_eq_none (by simpa using h)
      simp [h1, h2, R.bind, R.to, clearO]
theorem jss_none {X : Cx} {w : WX} {b : List Stmt} : JSs X w b (fun _ _ => .stuck) := ⟨fun _ _ _ => False, ⟨fun _ _ _ _ _ _ h => h.elim⟩, fun _ _ _ _ _ _ _ _ _ _ _ g => g⟩
theorem IsFnH.le {P : Program} {w : World} {K : PySem.W.Frag} {mg : Str → Option Value} {base : Heap} {k : Nat} {x : Str} {ps : List Str} {Zp : Obj → Prop} {F G : Addr → PF} (i : IsFnH P w K mg base k x ps Zp F) (h : ∀ a ws M, G a ws M ≠ .stuck → F a ws M = G a ws M) : IsFnH P w K mg base k x ps Zp G := by
  obtain ⟨f, fd, h1, h2, h3, h4⟩ := i.ex
  exact ⟨f, fd, h1, h2, ⟨fun a vs H Q E s => h3.len a vs H Q E (SpG.le (h a) s), fun A outer s H args us vs Q E p r1 r2 r3 r4 r5 r6 r7 r8 => h3.run A outer s H args us vs Q E p r1 r2 r3 r4 r5 r6 r7 (SpG.le (h p.1) r8)⟩, h4⟩
section
variable {X : Cx} {w : WX}
theorem js_try_hot {j k i : Nat} {x n xr : Str} {ps : List Str} {c : Value} {body : List Stmt} {np p1 p2 p3 p4 pos pos' : Pos} {cat : Str → Option Bool} {code : Str → Str} {pb : PSx} (hN : X.N.Nodup) (tk : L2N.Takes X w) (hr : Room k X.A) (hjk : j ≤ k) (hc : Names X x c)
    (hcat : ∀ y b, cat y = some b → ∃ cv, X.mg y = some cv ∧ PySem.W.exmOne X.K cv c = some b)
    (hF : ∀ y, cat y = some true → IsFnH X.prog X.w X.K X.mg X.base j xr ps (ZpC X.mg y) (gHot (code y)))
    (hb : ∀ (W : WX) (pn : List (Addr × Obj)) (xe : Value → Shared → Prop), L2N.Takes (X.tr pn xe) W → PassesOwn (model X.prog X.w) X.A X.env xe → JSs (X.tr pn xe) W body pb)
    (hs : X.stack = X.env :: X.outer := by rfl) (hf : X.env.frame = some X.env.locals := by rfl) (hi : X.N[i]? = some n := by rfl) (hln : X.env.kindOf n = some .local := by rfl)
    (hg : Gl X xr := by rfl) (hdb : (xr == ("__debug__" : Str)) = false := by decide) (hv : Vis X.env.scope n := by first | exact Or.inl rfl | exact Or.inr (Or.inl rfl) | exact Or.inr (Or.inr rfl)) (hd : (n == ("__debug__" : Str)) = false := by decide)
    (hcd : (n == ("__classdict__" : Str)) = false := by decide) :
    JS X w (.Try body [.ExceptHandler (some (.Name x np)) (some n) [.Return (some (.Call (.Name xr p1) [.Name n p2] [] p3)) p4] pos'] [] [] pos) (pTry cat i pb (suHot code i)) := by
  refine js_try_as hs hf hN hc tk hcat hb (fun e a oe cls d pn h1 h2 h3 hz hfl => ?_) (suHot_in code i) hi hln
  unfold suHot
  cases ha : e.arg with
  | some _ => exact jss_none
  | none =>
    have hd0 : d = none := h3 ha
    subst hd0
    obtain ⟨vs, hvs⟩ := hfl
    have hot : Hot1 (X.suite a ((a, oe) :: pn)).A (a, oe) := ⟨rfl, vs, hvs, hz.2.2 vs hvs⟩
    have hrr : RoomH j (X.suite a ((a, oe) :: pn)).A := (roomH_of hr).mono hjk |> fun r => ⟨r.dp, r.un⟩
    exact jss_one (js_ret (je_callHC (X := X.suite a ((a, oe) :: pn)) (p := (a, oe)) (hF e.c h1) hrr hot List.mem_cons_self ⟨cls, h2, hz, vs, hvs⟩ (fun _ => pass0) (ja_cons (je_var i hi hv hd hcd) ja_nil) hg hdb))
end

/-! ### isinstance of own classes, from what they are under -/
theorem kit_ref {K : PySem.W.Frag} {t : Value} {C : Addr} {b : Bool} (hd : PySem.W.hasDictIn K C = true) (ht : PySem.W.typeIn K (.ref C) = some (.type "type")) (hs : PySem.W.subIn K t (.ref C) = some b) (hn : PySem.W.subIn K (.ref C) (.ref C) = some true) : PySem.W.kitOne K t (.ref C) = some b := by
  unfold PySem.W.kitOne
  by_cases e : (t == .ref C) = true
  · rw [if_pos e]
    have e' : t = .ref C := beq_iff_eq.mp e
    subst e'
    rw [hn] at hs
    exact hs
  · rw [if_neg e]
    obtain ⟨cd, hc, _⟩ := PySem.W.any_some hd
    show (if ((PySem.W.clsIn K C).isSome && PySem.W.typeIn K (.ref C) == some (.type "type")) = true then PySem.W.subIn K t (.ref C) else none) = some b
    rw [if_pos (by rw [hc, ht]; rfl)]
    exact hs
theorem kit_bas {K : PySem.W.Frag} {C : Addr} {T : String} {b : Bool} (hm : PySem.W.kitMeta T = true) (hs : PySem.W.subIn K (.ref C) (.type T) = some b) : PySem.W.kitOne K (.ref C) (.type T) = some b := by
  unfold PySem.W.kitOne
  rw [if_neg (by simp)]
  show (if PySem.W.kitMeta T = true then PySem.W.subIn K (.ref C) (.type T) else none) = some b
  rw [if_pos hm]
  exact hs
end Z

set_option linter.all false
set_option autoImplicit false
set_option maxRecDepth 100000
set_option maxHeartbeats 4000000
namespace Z
open PySem PySem.Spec PyProof.Rows L2 L2H
theorem spG_stuck {K : PySem.W.Frag} {mg : Str → Option Value} {vs : List V} {H : Hp} {Q : VK} {E : XK} : ¬ SpG K mg (fun _ _ => .stuck) vs H Q E := fun ⟨_, _, _, _, _, _, _, _, g⟩ => g
/-! ### plain computing -/
theorem runG_pos {n k : Nat} {b : PSx} {ws : List W} {M : Ms} (h : ws.length = k) : runG n k b ws M = (b (startS n ws) M).toR := by
  unfold runG
  rw [if_pos h]
/-- a comprehension whose test and item change nothing -/
theorem lcL_pure {g : PGx} {tt : PTx} {te : PEx} {s : Sl} {M : Ms} (t : W → Bool) (f : W → W) : ∀ {ws acc : List W}, (∀ x ∈ ws, ∃ s', g x s M = some s' ∧ tt s' M = .ok (t x) M ∧ (t x = true → te s' M = .ok (f x) M)) → lcL g tt te s ws acc M = .ok (acc ++ (ws.filter t).map f) M
  | [], acc, _ => by simp [lcL]
  | x :: ws, acc, h => by
    obtain ⟨s', h1, h2, h3⟩ := h x List.mem_cons_self
    have ih := fun acc => lcL_pure (acc := acc) t f fun y hy => h y (List.mem_cons_of_mem _ hy)
    unfold lcL
    rw [h1]
    simp only [h2, R.bindN]
    cases q : t x with
    | true =>
      simp only [if_true, h3 q]
      rw [ih, List.filter_cons_of_pos q]
      simp
    | false =>
      simp only [Bool.false_eq_true, if_false]
      rw [ih, List.filter_cons_of_neg (by simp [q])]
theorem allD_nil : allD [] = some [] := rfl
theorem eqv_int (a b : Int) : PyData.eqv (.int a) (.int b) = (a == b) := by
  first
  | rfl
  | simp [PyData.eqv]
theorem shaped_int (a : Int) : SeqAt.shaped (.int a) = true := by
  first
  | rfl
  | simp [SeqAt.shaped]
theorem mul_ok {i j : Int} {M : Ms} (h : (-18446744073709551616 < i ∧ i < 18446744073709551616) ∨ (-18446744073709551616 < j ∧ j < 18446744073709551616)) : gMulI (.d (.int i)) (.d (.int j)) M = .ok (.d (.int (i * j))) M := by
  unfold gMulI gInt
  simp only
  rw [if_pos (by simpa using h)]
theorem div_ok {i j : Int} {M : Ms} (h : j ≠ 0) (h2 : j.natAbs < 1073741824) : gDivI (.d (.int i)) (.d (.int j)) M = .ok (.d (.int (i.fdiv j))) M := by
  unfold gDivI gInt
  simp only
  rw [if_pos ⟨h, h2⟩]
theorem mod_ok {i j : Int} {M : Ms} (h : j ≠ 0) : gModI (.d (.int i)) (.d (.int j)) M = .ok (.d (.int (i.fmod j))) M := by
  unfold gModI gInt
  simp only
  rw [if_pos h]
theorem pow10_ok {j : Nat} {M : Ms} (h : j ≤ 1000000) : gPowI (.d (.int 10)) (.d (.int j)) M = .ok (.d (.int (10 ^ j))) M := by
  unfold gPowI gInt
  simp only
  rw [if_pos ⟨by omega, by omega, by decide⟩]
  simp
theorem allD_ints (ns : List Int) : allD (List.map (W.d ∘ PyData.int) ns) = some (ns.map .int) := by
  rw [← List.map_map]
  exact allD_map _
end Z

set_option linter.all false
set_option autoImplicit false
set_option maxRecDepth 100000
set_option maxHeartbeats 4000000
namespace Z
open PySem PySem.Spec PyProof.Rows L2 L2H
def wi (n : Int) : W := .d (.int n)
theorem allD_wi : ∀ l : List Int, allD (l.map wi) = some (l.map .int)
  | [] => rfl
  | n :: l => by
    show (allD (l.map wi)).map (PyData.int n :: ·) = _
    rw [allD_wi l]
    rfl
theorem atI_nat {α : Type} {xs : List α} {i : Nat} : atI xs (i : Int) = xs[i]? := by
  unfold atI ixN
  rw [if_pos (by omega)]
  by_cases h : i < xs.length
  · rw [if_pos (by omega)]
    simp
  · rw [if_neg (by omega), List.getElem?_eq_none (by omega)]
    rfl
theorem ixN_nat {n i : Nat} (h : i < n) : ixN n (i : Int) = some i := by
  unfold ixN
  rw [if_pos (by omega), if_pos (by omega)]
  simp
def incrAt (l : List Int) (d : PyData) : List Int := match d with
  | .tuple [_, .int i] => l.set i.toNat (l.getD i.toNat 0 + 1)
  | _ => l
theorem incrAt_len (l : List Int) (d : PyData) : (incrAt l d).length = l.length := by
  unfold incrAt
  split
  · exact List.length_set
  · rfl
def incB (f a : Nat) : PSx := pSub (pOp gAddI (pOp gIx (pVar f) (pVar a)) (pC (.int 1))) (pVar f) (pVar a)
def incG (r a : Nat) : PGx := qTup 2 (qCons (qName r) (qCons (qName a) qNil))
theorem incB_ok {f a m i : Nat} {s : Sl} {M : Ms} {l : List Int} (hf : s[f]? = some (some (.r m))) (ha : s[a]? = some (some (wi i))) (hM : M[m]? = some (.lst (l.map wi))) (hi : i < l.length) :
    incB f a s M = .nx s (M.set m (.lst ((l.set i (l.getD i 0 + 1)).map wi))) := by
  have h1 : pVar f s M = .ok (.r m) M := by unfold pVar; rw [hf]
  have h2 : pVar a s M = .ok (wi i) M := by unfold pVar; rw [ha]
  have hl : (l.map wi)[i]? = some (wi l[i]) := by rw [List.getElem?_map, List.getElem?_eq_getElem hi]; rfl
  have hg : gIx (.r m) (wi i) M = .ok (wi l[i]) M := by
    unfold gIx wi itemsL
    simp only [hM]
    rw [atI_nat, show (l.map wi)[i]? = some (wi l[i]) from hl]
    rfl
  have hix : ixN (l.map wi).length (i : Int) = some i := ixN_nat (by rw [List.length_map]; exact hi)
  have hd : l.getD i 0 = l[i] := by rw [List.getD_eq_getElem?_getD, List.getElem?_eq_getElem hi]; rfl
  have hadd : gAddI (wi l[i]) (.d (.int 1)) M = .ok (wi (l[i] + 1)) M := rfl
  unfold incB pSub pOp pC
  simp only [h1, h2, R.bind, R.to, hg, hadd]
  show (match M[m]? with | some (.lst ws) => (match ixN ws.length (i : Int) with | some k => O.nx s (M.set m (.lst (ws.set k (wi (l[i] + 1))))) | none => .stuck) | _ => .stuck) = _
  rw [hM]
  show (match ixN (l.map wi).length (i : Int) with | some k => O.nx s (M.set m (.lst ((l.map wi).set k (wi (l[i] + 1))))) | none => .stuck) = _
  rw [hix, hd, List.map_set]
theorem incr_loop {f r a m : Nat} (h1 : f ≠ r) (h2 : f ≠ a) (h3 : r ≠ a) : ∀ (xs : List PyData) (s : Sl) (M : Ms) (l : List Int), s[f]? = some (some (.r m)) → r < s.length → a < s.length → M[m]? = some (.lst (l.map wi)) →
    (∀ d ∈ xs, ∃ (z : Int) (i : Nat), d = .tuple [.int z, .int i] ∧ i < l.length) → ∃ s', forL (incG r a) (incB f a) (xs.map .d) s M = .nx s' (M.set m (.lst ((xs.foldl incrAt l).map wi))) ∧ s'.length = s.length ∧ ∀ j, j ≠ r → j ≠ a → s'[j]? = s[j]?
  | [], s, M, l, _, _, _, hM, _ => ⟨s, by rw [List.map_nil, forL, List.foldl_nil, set_same hM], rfl, fun _ _ _ => rfl⟩
  | d :: xs, s, M, l, hf, hr, ha, hM, hd => by
    obtain ⟨z, i, rfl, hi⟩ := hd d List.mem_cons_self
    have hg : incG r a (.d (.tuple [.int z, .int i])) s M = some ((s.set r (some (wi z))).set a (some (wi i))) := by
      simp [incG, qTup, itemsT, qCons, qName, qNil, wi]
    have hs1 : ((s.set r (some (wi z))).set a (some (wi i)))[f]? = some (some (.r m)) := by
      rw [List.getElem?_set_ne (Ne.symm h2), List.getElem?_set_ne (Ne.symm h1)]; exact hf
    have hs2 : ((s.set r (some (wi z))).set a (some (wi i)))[a]? = some (some (wi i)) := List.getElem?_set_self (by simpa using ha)
    have hb := incB_ok hs1 hs2 hM hi
    have hM' : (M.set m (.lst ((l.set i (l.getD i 0 + 1)).map wi)))[m]? = some (.lst ((l.set i (l.getD i 0 + 1)).map wi)) := List.getElem?_set_self (List.getElem?_eq_some_iff.mp hM).1
    obtain ⟨s', q1, q2, q3⟩ := incr_loop h1 h2 h3 xs _ _ (l.set i (l.getD i 0 + 1)) hs1 (by simpa using hr) (by simpa using ha) hM' fun d' hd' => by
      obtain ⟨z', i', e, hi'⟩ := hd d' (List.mem_cons_of_mem _ hd')
      exact ⟨z', i', e, by rw [List.length_set]; exact hi'⟩
    refine ⟨s', ?_, by rw [q2]; simp, fun j j1 j2 => ?_⟩
    · rw [List.map_cons, forL, hg]
      simp only [hb]
      rw [q1, List.set_set]
      rfl
    · rw [q3 j j1 j2, List.getElem?_set_ne (Ne.symm j2), List.getElem?_set_ne (Ne.symm j1)]

/-! ### shares -/
def floorsL (n : Int) (ns : List Int) : List Int := ns.map fun w => (n * w).fdiv ns.sum
def restD (n : Int) (ns : List Int) (i : Nat) : PyData := .tuple [.int (-((n * ns.getD i 0).fmod ns.sum)), .int i]
def restsL (n : Int) (ns : List Int) : List PyData := (List.range ns.length).map (restD n ns)
def sharesL (n : Int) (ns : List Int) : List Int := (cutW (sortD (restsL n ns)) none (some (n - (floorsL n ns).sum))).foldl incrAt (floorsL n ns)
theorem foldl_len (xs : List PyData) (l : List Int) : (xs.foldl incrAt l).length = l.length := by
  induction xs generalizing l with
  | nil => rfl
  | cons x xs ih => rw [List.foldl_cons, ih, incrAt_len]
theorem sharesL_len (n : Int) (ns : List Int) : (sharesL n ns).length = ns.length := by
  unfold sharesL
  rw [foldl_len, floorsL, List.length_map]
theorem alike2 (a b c d : Int) : PySem.W.alike (.tuple [.int a, .int b]) (.tuple [.int c, .int d]) = true := by
  first
  | rfl
  | simp [PySem.W.alike, PySem.W.alikeAll]
theorem sortable_rests (n : Int) (ns : List Int) : sortable (restsL n ns) = true := by
  unfold sortable allAlike restsL
  simp only [Bool.and_eq_true, Bool.or_eq_true, List.all_eq_true]
  refine ⟨⟨fun d hd e he => ?_, .inl fun d hd => ?_⟩, fun d hd => ?_⟩
  · obtain ⟨i, _, rfl⟩ := List.mem_map.mp hd
    obtain ⟨j, _, rfl⟩ := List.mem_map.mp he
    exact alike2 ..
  · obtain ⟨i, _, rfl⟩ := List.mem_map.mp hd
    rfl
  · obtain ⟨i, _, rfl⟩ := List.mem_map.mp hd
    simp [restD, PyData.depth, PyData.depthAll]
theorem cutW_mem {α : Type} {xs : List α} {lo hi : Option Int} {x : α} (h : x ∈ cutW xs lo hi) : x ∈ xs := List.mem_of_mem_drop (List.mem_of_mem_take h)
theorem sortD_mem {xs : List PyData} {x : PyData} (h : x ∈ sortD xs) : x ∈ xs := (List.mergeSort_perm _ _).mem_iff.mp h
theorem rests_at {n : Int} {ns : List Int} {hi : Option Int} : ∀ d ∈ cutW (sortD (restsL n ns)) none hi, ∃ (z : Int) (i : Nat), d = .tuple [.int z, .int i] ∧ i < (floorsL n ns).length := fun d hd => by
  obtain ⟨i, hi, rfl⟩ := List.mem_map.mp (sortD_mem (cutW_mem hd))
  exact ⟨_, i, rfl, by rw [floorsL, List.length_map]; exact List.mem_range.mp hi⟩
theorem gIx_ints {ns : List Int} {i : Nat} {M : Ms} (h : i < ns.length) : gIx (.d (.list (ns.map .int))) (.d (.int i)) M = .ok (wi (ns.getD i 0)) M := by
  unfold gIx itemsL
  simp only
  rw [atI_nat, List.getElem?_map, List.getElem?_map, List.getElem?_eq_getElem h, List.getD_eq_getElem?_getD, List.getElem?_eq_getElem h]
  rfl

/-- a comprehension without test -/
theorem lcL_all {g : PGx} {te : PEx} {s : Sl} {M : Ms} (f : W → W) {ws acc : List W} (h : ∀ x ∈ ws, ∃ s', g x s M = some s' ∧ te s' M = .ok (f x) M) : lcL g pYes te s ws acc M = .ok (acc ++ ws.map f) M := by
  have z := lcL_pure (g := g) (tt := pYes) (te := te) (s := s) (M := M) (acc := acc) (fun _ => true) f (ws := ws) fun x hx => let ⟨s', h1, h2⟩ := h x hx; ⟨s', h1, rfl, fun _ => h2⟩
  rw [z]
  have e : ws.filter (fun _ => true) = ws := List.filter_eq_self.mpr fun _ _ => rfl
  rw [e]
theorem rng1_okI {p : PEx} {s : Sl} {M : Ms} {j : Int} (h : p s M = .ok (.d (.int j)) M) (hc : -(2 ^ 62) ≤ j ∧ j < 2 ^ 62) : pRng1 p s M = .ok (rngW 0 j.toNat) M := by
  show (p s M).bind _ = _
  rw [h]
  exact if_pos hc
theorem small62 {j : Int} (h1 : 0 ≤ j) (h2 : j ≤ 1000000) : -(2 ^ 62) ≤ j ∧ j < 2 ^ 62 := by
  have e : (2 : Int) ^ 62 = 4611686018427387904 := by simp
  rw [e]
  omega
theorem rng1_ok {p : PEx} {s : Sl} {M : Ms} {n : Nat} (h : p s M = .ok (.d (.int n)) M) (hn : n ≤ 1000000) : pRng1 p s M = .ok (rngW 0 n) M := by
  have z := rng1_okI h (small62 (by omega) (by omega))
  rw [Int.toNat_natCast] at z
  exact z
theorem len_list {i : Nat} {s : Sl} {M : Ms} {ds : List PyData} (h : s[i]? = some (some (.d (.list ds)))) : pCall gLen (pCons (pVar i) pNil) s M = .ok (.d (.int ds.length)) M := by
  unfold pCall pCons pVar pNil
  simp only [h, R.bind, gLen, lenW, itemsL, List.length_map]

/-! ### step by step -/
section
variable {s s' : Sl} {M M' : Ms} {p q : PSx} {pe : PEx} {pl : PAx} {c : PTx} {x : W} {ws : List W} {i : Nat} {e : Exn}
theorem seq_nx (h : p s M = .nx s' M') : pSeq p q s M = q s' M' := by unfold pSeq; rw [h]
theorem seq_rt (h : p s M = .rt x M') : pSeq p q s M = .rt x M' := by unfold pSeq; rw [h]
theorem seq_exc (h : p s M = .exc e s' M') : pSeq p q s M = .exc e s' M' := by unfold pSeq; rw [h]
theorem set_ok (h : pe s M = .ok x M') : pSet i pe s M = .nx (s.set i (some x)) M' := by unfold pSet; rw [h]; rfl
theorem drop_ok (h : pe s M = .ok x M') : pDrop pe s M = .nx s M' := by unfold pDrop; rw [h]; rfl
theorem ret_ok (h : pe s M = .ok x M') : pRet pe s M = .rt x M' := by unfold pRet; rw [h]; rfl
theorem if_tt (h : c s M = .ok true M') : pIf c p q s M = p s M' := by unfold pIf; rw [h]; rfl
theorem if_ff (h : c s M = .ok false M') : pIf c p q s M = q s M' := by unfold pIf; rw [h]; rfl
theorem for_ok {g : PGx} (h : pl s M = .ok ws M') : pFor pl g p s M = forL g p ws s M' := by unfold pFor; rw [h]; rfl
theorem dat_ok {ds : List PyData} (h : pl s M = .ok ws M') (h2 : allD ws = some ds) : pDat pl s M = .ok (.d (.list ds)) M' := by unfold pDat; rw [h]; simp only [R.bind, h2]
theorem mut_ok (h : pl s M = .ok ws M') : pMut pl s M = .ok (.r M'.length) (M' ++ [.lst ws]) := by unfold pMut; rw [h]; rfl
theorem var_ok (h : s[i]? = some (some x)) : pVar i s M = .ok x M := by unfold pVar; rw [h]
end
theorem cutW_map {α β : Type} (f : α → β) (xs : List α) (lo hi : Option Int) : cutW (xs.map f) lo hi = (cutW xs lo hi).map f := by
  unfold cutW
  rw [List.length_map, List.map_take, List.map_drop]

/-! ### what a judge sees -/
def offL (n : Int) (ns ms : List Int) : List Int := (List.range ns.length).map fun i => ms.getD i 0 * ns.sum - n * ns.getD i 0
def maxL (l : List Int) : Int := match l with
  | [] => 0
  | x :: xs => xs.foldl max x
def minL (l : List Int) : Int := match l with
  | [] => 0
  | x :: xs => xs.foldl min x
def goodB (n : Int) (ns ms : List Int) : Bool := decide (ms.length = ns.length) && (decide (ms.sum = n) && (decide (maxL (offL n ns ms) < ns.sum) && (decide (-ns.sum < minL (offL n ns ms)) && decide (maxL (offL n ns ms) - minL (offL n ns ms) ≤ ns.sum))))
theorem maxL_mem {l : List Int} (h : l ≠ []) : maxL l ∈ l ∧ ∀ y ∈ l, y ≤ maxL l := by
  cases l with
  | nil => exact absurd rfl h
  | cons x xs => exact foldl_max_mem xs x
theorem minL_mem {l : List Int} (h : l ≠ []) : minL l ∈ l ∧ ∀ y ∈ l, minL l ≤ y := by
  cases l with
  | nil => exact absurd rfl h
  | cons x xs => exact foldl_min_mem xs x
theorem offL_ne {n : Int} {ns ms : List Int} (h : 1 ≤ ns.length) : offL n ns ms ≠ [] := by
  intro z
  have := congrArg List.length z
  rw [offL, List.length_map, List.length_range, List.length_nil] at this
  omega
theorem getD_mem {l : List Int} {i : Nat} (h : i < l.length) : l.getD i 0 ∈ l := by
  rw [List.getD_eq_getElem?_getD, List.getElem?_eq_getElem h]
  exact List.getElem_mem h
theorem le_sum {ns : List Int} (h : ∀ n ∈ ns, 0 ≤ n) : 0 ≤ ns.sum ∧ ∀ w ∈ ns, w ≤ ns.sum := by
  induction ns with
  | nil => simp
  | cons a l ih =>
    obtain ⟨i1, i2⟩ := ih fun n hn => h n (List.mem_cons_of_mem _ hn)
    have ha := h a List.mem_cons_self
    rw [List.sum_cons]
    refine ⟨by omega, fun w hw => ?_⟩
    rcases List.mem_cons.mp hw with e | hw
    · omega
    · have := i2 w hw
      omega
/-- nobody gets less than nothing, or more than all -/
theorem off_amount {n w m e : Int} (hn : 0 ≤ n) (hw : 0 ≤ w) (hwe : w ≤ e) (he : 0 < e) (h1 : m * e - n * w < e) (h2 : -e < m * e - n * w) : 0 ≤ m ∧ m ≤ n := by
  have a1 : 0 ≤ n * w := Int.mul_nonneg hn hw
  have a2 : n * w ≤ n * e := Int.mul_le_mul_of_nonneg_left hwe hn
  constructor
  · rcases Int.lt_or_le m 0 with h | h
    · have : m * e ≤ (-1) * e := Int.mul_le_mul_of_nonneg_right (by omega) (Int.le_of_lt he)
      omega
    · exact h
  · rcases Int.lt_or_le n m with h | h
    · have : (n + 1) * e ≤ m * e := Int.mul_le_mul_of_nonneg_right (by omega) (Int.le_of_lt he)
      rw [Int.add_mul] at this
      omega
    · exact h
theorem mem_getD {l : List Int} {m : Int} (h : m ∈ l) : ∃ i, i < l.length ∧ l.getD i 0 = m := by
  obtain ⟨i, hi, e⟩ := List.getElem_of_mem h
  exact ⟨i, hi, by rw [List.getD_eq_getElem?_getD, List.getElem?_eq_getElem hi]; exact e⟩
theorem good_amounts {n : Int} {ns ms : List Int} (hn : 0 ≤ n) (h1 : 1 ≤ ns.length) (hw : ∀ w ∈ ns, 0 ≤ w) (hz : ns.sum ≠ 0) (g : goodB n ns ms = true) : ∀ m ∈ ms, 0 ≤ m ∧ m ≤ n := by
  unfold goodB at g
  simp only [Bool.and_eq_true, decide_eq_true_eq] at g
  obtain ⟨gl, gs, g1, g2, g3⟩ := g
  obtain ⟨z0, zl⟩ := le_sum hw
  have mx := (maxL_mem (offL_ne (n := n) (ms := ms) h1)).2
  have mn := (minL_mem (offL_ne (n := n) (ms := ms) h1)).2
  intro m hm
  obtain ⟨i, hi, rfl⟩ := mem_getD hm
  have hi' : i < ns.length := by omega
  have ho : ms.getD i 0 * ns.sum - n * ns.getD i 0 ∈ offL n ns ms := List.mem_map.mpr ⟨i, List.mem_range.mpr hi', rfl⟩
  have b1 := mx _ ho
  have b2 := mn _ ho
  exact off_amount hn (hw _ (getD_mem hi')) (zl _ (getD_mem hi')) (by omega) (by omega) (by omega)
theorem intsOf_wi (l : List Int) : intsOf (l.map PyData.int) = some l := intsOf_map l
theorem nil_ok {s : Sl} {M : Ms} : pNil s M = .ok [] M := rfl
theorem cons_ok {a : PEx} {r : PAx} {s : Sl} {M M1 M2 : Ms} {x : W} {xs : List W} (ha : a s M = .ok x M1) (hr : r s M1 = .ok xs M2) : pCons a r s M = .ok (x :: xs) M2 := by
  unfold pCons
  rw [ha]
  simp only [R.bind]
  rw [hr]
theorem op_ok {g : W → W → Ms → R W} {a b : PEx} {s : Sl} {M M' M'' : Ms} {x y : W} (ha : a s M = .ok x M') (hb : b s M' = .ok y M'') : pOp g a b s M = g x y M'' := by
  unfold pOp
  rw [ha]
  simp only [R.bind]
  rw [hb]
theorem call1 {g : List W → Ms → R W} {p : PEx} {s : Sl} {M M' : Ms} {x : W} (h : p s M = .ok x M') : pCall g (pCons p pNil) s M = g [x] M' := by
  unfold pCall
  rw [cons_ok h nil_ok]
  rfl
theorem callL1 {g : List W → Ms → R (List W)} {p : PEx} {s : Sl} {M M' : Ms} {x : W} (h : p s M = .ok x M') : pCallL g (pCons p pNil) s M = g [x] M' := by
  unfold pCallL
  rw [cons_ok h nil_ok]
  rfl
end Z

set_option linter.all false
set_option autoImplicit false
set_option maxRecDepth 100000
set_option maxHeartbeats 4000000
/-! Z20: texts: split, join, startswith, str(n), int(text); append; x in a tuple; bool(list). -/
namespace Z
open PySem PySem.Spec PyProof.Rows L2 L2H
/-! ### split -/
theorem sub_short (x : Str) (i j : Nat) : (Builtin.Str.strSub x i j).length ≤ x.length := by
  rw [TL.len_tl (Builtin.Str.strSub x i j), TL.len_tl x, TL.tl_strSub, List.length_take, List.length_drop]
  omega
theorem parts_short (x : Str) (n : Nat) : ∀ (cuts : List Nat) (a : Nat), ∀ z ∈ StrLaws.partsFrom x n a cuts, z.length ≤ x.length
  | [], a, z, h => by
    rcases List.mem_singleton.mp (show z ∈ [Builtin.Str.strSub x a x.length] from h) with rfl
    exact sub_short x _ _
  | c :: r, a, z, h => by
    rcases List.mem_cons.mp (show z ∈ Builtin.Str.strSub x a c :: StrLaws.partsFrom x n (c + n) r from h) with rfl | h
    · exact sub_short x _ _
    · exact parts_short x n r _ z h
theorem split_short (x y : Str) : ∀ z ∈ Txt.split x y, z.length ≤ x.length := by
  intro z h
  unfold Txt.split at h
  split at h
  · rcases List.mem_singleton.mp h with rfl; exact Nat.le_refl _
  · split at h
    · rcases List.mem_singleton.mp h with rfl; exact Nat.le_refl _
    · rw [StrLaws.partsBetween_eq] at h
      exact parts_short x _ _ _ z h
def strsW (ys : List Str) : List W := ys.map fun y => .d (.str y)
theorem wrs_strs {K : PySem.W.Frag} {as : List Addr} {Hb : Hp} : ∀ {ys : List Str}, (∀ z ∈ ys, z.length ≤ sizeLine) → WRs K as Hb (ys.map V.str) (strsW ys)
  | [], _ => .nil
  | y :: ys, h => .cons (wr_str (h y List.mem_cons_self)) (wrs_strs fun z hz => h z (List.mem_cons_of_mem _ hz))
def pSplit (o e : PEx) : PAx := fun s M => (o s M).bind fun x M1 => match x with
  | .d (.str a) => (e s M1).bind fun y M2 => (match y with
    | .d (.str b) => if b.length ≠ 0 ∧ a.length + 2 ≤ sizeLine then .ok (strsW (Txt.split a b)) M2 else .stuck
    | _ => .stuck)
  | _ => .stuck
section
variable {X : Cx} {w : WX} {o e : Expr} {po pe : PEx} {apos pos : Pos}
theorem jl_split (ho : JE X w o po) (he : JE X w e pe) (hs : starEach [e] X.env = [(false, eval e X.env)] := by rfl) (hbase : attributeBase o "split" X.env (eval o X.env) = eval o X.env := by rfl) (hline : (apos.endLine == pos.line) = true := by rfl) :
    JL X w (.Call (.Attribute o "split" apos) [e] [] pos) (pSplit po pe) := by
  obtain ⟨t, e1, s1⟩ := ho
  obtain ⟨u, e2, s2⟩ := he
  refine ⟨_, pe_split e1 e2 hs hbase hline, fun H0 Hb0 as Hb H M σ s r S Q g => ?_⟩
  refine Good.bind s1 r S g fun v x as1 Hb1 H1 M1 r1 f1 S1 w1 g1 => ?_
  cases x with
  | d x =>
    cases x with
    | str a =>
      obtain ⟨rfl, la⟩ := wr_str_of w1
      refine ⟨⟨a, rfl⟩, ?_⟩
      refine Good.bind s2 r1 S1 g1 fun v x as2 Hb2 H2 M2 r2 f2 S2 w2 g2 => ?_
      cases x with
      | d x =>
        cases x with
        | str b =>
          obtain ⟨rfl, lb⟩ := wr_str_of w2
          by_cases hc : b.length ≠ 0 ∧ a.length + 2 ≤ sizeLine
          · simp only [hc, if_true] at g2
            refine ⟨a, b, rfl, rfl, by simpa using hc.1, hc.2, fun p hp => ?_⟩
            have hl : (Txt.split a b).length ≤ sizeLine := Nat.le_trans (PyProof.Rows.split_le a b) hc.2
            have g3 : Good (repL X.K) X.K X.mg w H0 Hb0 as2 Hb2 σ Q (.ok (strsW (Txt.split a b)) M2) := by simpa [hc] using g2
            exact Good.ok g3 (r2.newAny hp) ⟨p, _, rfl, upd_same, by simpa [strsW] using hl, wrs_strs fun z hz => Nat.le_trans (split_short a b z hz) la, fun hm => r2.al p hm hp, r2.hbn hp, r2.h0n hp⟩
          · simp only [hc, if_false] at g2
            exact (show False from g2).elim
        | _ => exact (show False from g2).elim
      | r i => exact (show False from g2).elim
      | k u => exact (show False from g2).elim
    | _ => exact (show False from g1).elim
  | r i => exact (show False from g1).elim
  | k u => exact (show False from g1).elim
end
/-! ### a text's method of one text -/
def pM1 (f : Str → Str → Option PyData) (o e : PEx) : PEx := fun s M => (o s M).bind fun x M1 => match x with
  | .d (.str a) => (e s M1).bind fun y M2 => (match y with
    | .d (.str b) => (match f a b with
      | some d => .ok (.d d) M2
      | none => .stuck)
    | _ => .stuck)
  | _ => .stuck
section
variable {X : Cx} {w : WX} {o e : Expr} {po pe : PEx} {apos pos : Pos}
theorem sim_m1 {r : V → List V → Hp → VK → Prop} {f : Str → Str → Option PyData} {t u : TE} (s1 : Sim (repW X.K) X.K X.mg w t po) (s2 : Sim (repW X.K) X.K X.mg w u pe)
    (h : ∀ a b d, f a b = some d → a.length ≤ sizeLine → b.length ≤ sizeLine → ∀ (H : Hp) (Q : VK), (∀ v, Dt X.K (fun _ => none) v d → Q v H) → r (.str a) [.str b] H Q) (hf : ∀ a b d, f a b = some d → fits d) :
    Sim (repW X.K) X.K X.mg w (tM1 r t u) (pM1 f po pe) := by
  intro H0 Hb0 as Hb H M σ s r S Q g
  refine Good.bind s1 r S g fun v x as1 Hb1 H1 M1 r1 f1 S1 w1 g1 => ?_
  cases x with
  | d x =>
    cases x with
    | str a =>
      obtain ⟨rfl, la⟩ := wr_str_of w1
      refine ⟨⟨a, rfl⟩, ?_⟩
      refine Good.bind s2 r1 S1 g1 fun v x as2 Hb2 H2 M2 r2 f2 S2 w2 g2 => ?_
      cases x with
      | d x =>
        cases x with
        | str b =>
          obtain ⟨rfl, lb⟩ := wr_str_of w2
          cases hc : f a b with
          | none => simp only [hc] at g2; exact (show False from g2).elim
          | some d =>
            simp only [hc] at g2
            refine h a b d hc la lb H2 Q fun v hv => ?_
            exact Good.ok g2 r2 (⟨Dt.mono (fun _ _ z => by cases z) d v hv, hf a b d hc⟩ : Dz X.K Hb2 v d)
        | _ => exact (show False from g2).elim
      | r i => exact (show False from g2).elim
      | k u => exact (show False from g2).elim
    | _ => exact (show False from g1).elim
  | r i => exact (show False from g1).elim
  | k u => exact (show False from g1).elim
def fStarts (a b : Str) : Option PyData := some (.bool (Txt.startswith a b))
theorem je_startswith (ho : JE X w o po) (he : JE X w e pe) (hs : starEach [e] X.env = [(false, eval e X.env)] := by rfl) (hbase : attributeBase o "startswith" X.env (eval o X.env) = eval o X.env := by rfl) (hline : (apos.endLine == pos.line) = true := by rfl) :
    JE X w (.Call (.Attribute o "startswith" apos) [e] [] pos) (pM1 fStarts po pe) := by
  obtain ⟨t, e1, s1⟩ := ho
  obtain ⟨u, e2, s2⟩ := he
  refine ⟨_, pe_m1 F.slot_str_startswith F.type_str_startswith mt_startswith e1 e2 hs hbase hline, sim_m1 s1 s2 (fun a b d h _ _ H Q q => ?_) fun a b d h => ?_⟩
  · cases h; exact ⟨a, b, rfl, rfl, q _ (.bl _)⟩
  · cases h; trivial
end
/-! ### join -/
def strsOf : List PyData → Option (List Str)
  | [] => some []
  | .str x :: ds => (strsOf ds).map (x :: ·)
  | _ :: _ => none
theorem strsOf_map : ∀ ys : List Str, strsOf (ys.map .str) = some ys
  | [] => rfl
  | y :: ys => by simp [strsOf, strsOf_map ys]
theorem strs_vs {K : PySem.W.Frag} {H : Hp} : ∀ {ds : List PyData} {vs : List V} {ys : List Str}, DtAll K H vs ds → strsOf ds = some ys → vs = ys.map V.str
  | [], _, _, h, e => by cases h; simp [strsOf] at e; subst e; rfl
  | d :: ds, _, ys, h, e => by
    cases d with
    | str x =>
      cases h with
      | cons h1 h2 =>
        simp only [strsOf, Option.map_eq_some_iff] at e
        obtain ⟨r, e1, rfl⟩ := e
        cases h1
        rw [strs_vs h2 e1]
        rfl
    | _ => simp [strsOf] at e
def joinLen (a : Str) (ys : List Str) : Nat := (ys.map (·.length)).sum + ys.length * a.length
def pJoin (o e : PEx) : PEx := fun s M => (o s M).bind fun x M1 => match x with
  | .d (.str a) => (e s M1).bind fun y M2 => (match view M2 y with
    | some (.list ds) => (match strsOf ds with
      | some ys => if joinLen a ys ≤ 16777216 then .ok (.d (.str (Txt.join a ys))) M2 else .stuck
      | none => .stuck)
    | _ => .stuck)
  | _ => .stuck
section
variable {X : Cx} {w : WX} {o e : Expr} {po pe : PEx} {apos pos : Pos}
theorem je_join (ho : JE X w o po) (he : JE X w e pe) (hs : starEach [e] X.env = [(false, eval e X.env)] := by rfl) (hbase : attributeBase o "join" X.env (eval o X.env) = eval o X.env := by rfl) (hline : (apos.endLine == pos.line) = true := by rfl) :
    JE X w (.Call (.Attribute o "join" apos) [e] [] pos) (pJoin po pe) := by
  obtain ⟨t, e1, s1⟩ := ho
  obtain ⟨u, e2, s2⟩ := he
  refine ⟨_, pe_join e1 e2 hs hbase hline, fun H0 Hb0 as Hb H M σ s r S Q g => ?_⟩
  refine Good.bind s1 r S g fun v x as1 Hb1 H1 M1 r1 f1 S1 w1 g1 => ?_
  cases x with
  | d x =>
    cases x with
    | str a =>
      obtain ⟨rfl, la⟩ := wr_str_of w1
      refine ⟨⟨a, rfl⟩, ?_⟩
      refine Good.bind s2 r1 S1 g1 fun v x as2 Hb2 H2 M2 r2 f2 S2 w2 g2 => ?_
      cases hv : view M2 x with
      | none => simp only [hv] at g2; exact (show False from g2).elim
      | some d =>
        cases d with
        | list ds =>
          simp only [hv] at g2
          cases hd : strsOf ds with
          | none => simp only [hd] at g2; exact (show False from g2).elim
          | some ys =>
            simp only [hd] at g2
            by_cases hc : joinLen a ys ≤ 16777216
            · rw [if_pos hc] at g2
              obtain ⟨p, vs, rfl, h1, dz, z⟩ := viewL_ok r2 w2 hv
              have ev := strs_vs (of_dzAll dz).1 hd
              subst ev
              refine ⟨a, p, ys, rfl, rfl, .inl (SqL.of h1), hc, ?_⟩
              refine Good.ok g2 r2 (wr_str ?_)
              have hj := StrLaws.join_length_le a ys
              rw [show Txt.join a ys = Str.join a ys from StrLaws.glued_eq_join a ys]
              have e : (16777216 : Nat) ≤ sizeLine := by decide
              unfold joinLen at hc
              omega
            · rw [if_neg hc] at g2
              exact (show False from g2).elim
        | _ => simp only [hv] at g2; exact (show False from g2).elim
    | _ => exact (show False from g1).elim
  | r i => exact (show False from g1).elim
  | k u => exact (show False from g1).elim
end
/-! ### str(n), int(text), bool(list) -/
def gStrI : List W → Ms → R W := fun ws M => match ws with
  | [x] => (match x with
    | .d (.int i) => if i.natAbs.log2 < 1920 ∧ (toString i : Str).length ≤ sizeLine then .ok (.d (.str (toString i))) M else .stuck
    | _ => .stuck)
  | _ => .stuck
def gIntS : List W → Ms → R W := fun ws M => match ws with
  | [x] => (match x with
    | .d (.str a) => (match PySem.intText? a with
      | some n => if a.length ≤ 640 then .ok (.d (.int n)) M else .stuck
      | none => .stuck)
    | _ => .stuck)
  | _ => .stuck
def gBoolL : List W → Ms → R W := fun ws M => match ws with
  | [x] => (match itemsL M x with
    | some us => .ok (.d (.bool (!us.isEmpty))) M
    | none => .stuck)
  | _ => .stuck
section
variable {K : PySem.W.Frag} {mg : Str → Option Value}
theorem s_strI : SimC K mg (fun xs H Q => ∃ i, xs = [.int i] ∧ i.natAbs.log2 < 1920 ∧ Q (.str (toString i)) H) gStrI := by
  intro w H0 Hb0 as Hb H M σ ws vs r wr Q gd
  match ws, gd with
  | [], gd => exact gd.elim
  | _ :: _ :: _, gd => exact gd.elim
  | [x], gd =>
    obtain ⟨v, rfl, wx⟩ := one_arg_of wr
    cases x with
    | d x =>
      cases x with
      | int i =>
        obtain rfl := wr_int_of wx
        unfold gStrI at gd
        by_cases hc : i.natAbs.log2 < 1920 ∧ (toString i : Str).length ≤ sizeLine
        · simp only [hc, and_self, if_true] at gd
          exact ⟨i, rfl, hc.1, Good.ok gd r (wr_str hc.2)⟩
        · simp only [hc, if_false] at gd
          exact (show False from gd).elim
      | _ => exact gd.elim
    | r i => exact gd.elim
    | k u => exact gd.elim
theorem s_intS : SimC K mg (fun xs H Q => ∃ a n, xs = [.str a] ∧ PySem.intText? a = some n ∧ a.length ≤ 640 ∧ Q (.int n) H) gIntS := by
  intro w H0 Hb0 as Hb H M σ ws vs r wr Q gd
  match ws, gd with
  | [], gd => exact gd.elim
  | _ :: _ :: _, gd => exact gd.elim
  | [x], gd =>
    obtain ⟨v, rfl, wx⟩ := one_arg_of wr
    cases x with
    | d x =>
      cases x with
      | str a =>
        obtain ⟨rfl, la⟩ := wr_str_of wx
        unfold gIntS at gd
        cases hi : PySem.intText? a with
        | none => simp only [hi] at gd; exact (show False from gd).elim
        | some n =>
          simp only [hi] at gd
          by_cases hc : a.length ≤ 640
          · rw [if_pos hc] at gd
            exact ⟨a, n, rfl, hi, hc, Good.ok gd r (wr_int n)⟩
          · rw [if_neg hc] at gd
            exact (show False from gd).elim
      | _ => exact gd.elim
    | r i => exact gd.elim
    | k u => exact gd.elim
theorem s_boolL : SimC K mg (fun xs H Q => ∃ (a : Addr) (zs : List V), xs = [.ref a] ∧ SqL K H a zs ∧ Q (.bl (!zs.isEmpty)) H) gBoolL := by
  intro w H0 Hb0 as Hb H M σ ws vs r wr Q gd
  match ws, gd with
  | [], gd => exact gd.elim
  | _ :: _ :: _, gd => exact gd.elim
  | [x], gd =>
    obtain ⟨v, rfl, wx⟩ := one_arg_of wr
    unfold gBoolL at gd
    cases e1 : itemsL M x with
    | none => simp only [e1] at gd; exact (show False from gd).elim
    | some us =>
      simp only [e1] at gd
      obtain ⟨a, xs, rfl, h1, r1, z1⟩ := itemsL_ok r wx e1
      exact ⟨a, xs, rfl, SqL.of h1, Good.ok gd r (by rw [emp_of r1]; exact wr_bl _)⟩
end
/-! ### append -/
def pApp (o e : PEx) : PSx := fun s M => (o s M).to s fun x M1 => match x with
  | .r i => (match M1[i]? with
    | some (.lst _) => (e s M1).to s fun y M2 => (match M2[i]? with
      | some (.lst ws) => if ws.length < sizeLine then .nx s (M2.set i (.lst (ws ++ [y]))) else .stuck
      | _ => .stuck)
    | _ => .stuck)
  | _ => .stuck
section
variable {X : Cx} {w : WX} {o e : Expr} {po pe : PEx} {apos cpos pos : Pos}
theorem js_app (ho : JE X w o po) (he : JE X w e pe) (hbase : attributeBase o "append" X.env (eval o X.env) = eval o X.env := by rfl)
    (hfew : ((backTo cpos (starEach [e] X.env)).all (fun x => !x.1) && (backToKw cpos (keywordEach [] X.env)).all (fun x => x.1.isSome)
      && decide (([e] : List Expr).length + ([] : List Keyword).length + (if ([] : List Keyword).isEmpty then 0 else 1) < 30)) = true := by rfl)
    (hline : (apos.endLine == cpos.line) = true := by rfl) (hs : starEach [e] X.env = (false, eval e X.env) :: starEach [] X.env := by rfl) (hplain : (backTo cpos (starEach [] X.env)).any (·.1) = false := by rfl)
    (hsw : swapsWith (.Call (.Attribute o "append" apos) [e] [] cpos) none pos.line X.env = pure false := by rfl) :
    JS X w (.Expr (.Call (.Attribute o "append" apos) [e] [] cpos) pos) (pApp po pe) := by
  obtain ⟨t, e1, s1⟩ := ho
  obtain ⟨u, e2, s2⟩ := he
  refine ⟨_, ps_expr (pe_bm PySem.F.plainAttrs_list PySem.F.slot_list_append PySem.F.type_list_append mt_append e1 (pa_cons e2 pa_nil hs) hbase hfew hline hs hplain) hsw, fun H0 Hb0 as Hb H M σ s r S D g => ?_⟩
  refine GoodS.bind s1 r S g fun v x as1 Hb1 H1 M1 r1 f1 S1 w1 g1 => ?_
  cases x with
  | d x => exact (show False from g1).elim
  | k u => exact (show False from g1).elim
  | r i =>
    obtain ⟨a, ha, rfl⟩ := w1
    cases hm : M1[i]? with
    | none => simp only [hm] at g1; exact (show False from g1).elim
    | some m =>
      cases m with
      | ins C fs => simp only [hm] at g1; exact (show False from g1).elim
      | dic _ _ => simp only [hm] at g1; exact (show False from g1).elim
      | dlk _ _ => simp only [hm] at g1; exact (show False from g1).elim
      | gone => simp only [hm] at g1; exact (show False from g1).elim
      | lst ws0 =>
        simp only [hm] at g1
        obtain ⟨z0, vs0, hH, _⟩ := r1.at' i a _ ha hm
        refine ⟨.inl ⟨rfl, _, SqL.of hH⟩, ?_⟩
        refine GoodS.bind s2 r1 S1 g1 fun v x as2 Hb2 H2 M2 r2 f2 S2 w2 g2 => ?_
        have ha2 := f2.idx ha
        cases hm2 : M2[i]? with
        | none => simp only [hm2] at g2; exact (show False from g2).elim
        | some m =>
          cases m with
          | ins C fs => simp only [hm2] at g2; exact (show False from g2).elim
          | dic _ _ => simp only [hm2] at g2; exact (show False from g2).elim
          | dlk _ _ => simp only [hm2] at g2; exact (show False from g2).elim
          | gone => simp only [hm2] at g2; exact (show False from g2).elim
          | lst ws =>
            simp only [hm2] at g2
            obtain ⟨z, vs, hH2, hp⟩ := r2.at' i a _ ha2 hm2
            by_cases hc : ws.length < sizeLine
            · rw [if_pos hc] at g2
              have hl : vs.length = ws.length := Paired.len hp
              refine ⟨a, vs, v, rfl, rfl, hH2, by rw [hl]; exact hc, ?_⟩
              exact GoodS.nx g2 (r2.setMut ha2 hm2 rfl ⟨by rw [List.length_append]; exact hc, vs ++ [v], upd_same, Paired.app hp (.cons w2 .nil)⟩) S2
            · rw [if_neg hc] at g2
              exact (show False from g2).elim
end
/-! ### x in a tuple of flat things -/
def flatD : PyData → Bool
  | .none => true | .bool _ => true | .int _ => true | .str _ => true | _ => false
def eqF : PyData → PyData → Bool
  | .none, .none => true
  | .bool a, .bool b => a == b
  | .bool a, .int b => (if a then 1 else 0) == b
  | .int a, .bool b => a == (if b then 1 else 0)
  | .int a, .int b => a == b
  | .str a, .str b => a == b
  | _, _ => false
theorem eqF_ok {K : PySem.W.Frag} {H : Hp} {v u : V} {d e : PyData} (h1 : Dt K H v d) (h2 : Dt K H u e) (f1 : flatD d = true) (f2 : flatD e = true) : eqV v u = eqF d e ∧ flatV v = true := by
  cases h1 <;> first
    | (cases f1; done)
    | (cases h2 <;> first | (cases f2; done) | exact ⟨rfl, rfl⟩)
def gInT (neg : Bool) : W → W → Ms → R W := fun x y M => match x, y with
  | .d d, .d (.tuple ds) => if flatD d = true ∧ ds.all flatD = true then .ok (.d (.bool (xor neg (ds.any fun z => eqF z d)))) M else .stuck
  | _, _ => .stuck
theorem inV_ok {K : PySem.W.Frag} {H : Hp} {v : V} {d : PyData} (h : Dt K H v d) (f : flatD d = true) : ∀ {vs : List V} {ds : List PyData}, DtAll K H vs ds → ds.all flatD = true → inV v vs = (ds.any fun z => eqF z d) ∧ vs.all flatV = true
  | _, [], hd, _ => by cases hd; exact ⟨rfl, rfl⟩
  | _, e :: ds, hd, hf => by
    cases hd with
    | @cons u us _ _ h1 h2 =>
      simp only [List.all_cons, Bool.and_eq_true] at hf
      obtain ⟨i1, i2⟩ := inV_ok h f h2 hf.2
      obtain ⟨j1, j2⟩ := eqF_ok h1 h hf.1 f
      refine ⟨?_, by simp [j2, i2]⟩
      unfold inV at i1 ⊢
      rw [List.any_cons, List.any_cons, i1, j1]
theorem sim_inT {K : PySem.W.Frag} {mg : Str → Option Value} (neg : Bool) : Sim2 K mg (rIn K neg) (gInT neg) := by
  intro w H0 Hb0 as Hb H M σ x y xv yv R1 wx wy Q gd
  cases x with
  | r i => exact (show False from gd).elim
  | k u => exact (show False from gd).elim
  | d d =>
    cases y with
    | r i => exact (show False from gd).elim
    | k u => exact (show False from gd).elim
    | d e =>
      cases e with
      | tuple ds =>
        unfold gInT at gd
        by_cases hc : flatD d = true ∧ ds.all flatD = true
        · simp only [hc, and_self, if_true] at gd
          obtain ⟨ht, hfit⟩ := wy
          cases ht with
          | tup hs ha =>
            obtain ⟨i1, i2⟩ := inV_ok wx.1 hc.1 ha hc.2
            obtain ⟨_, j2⟩ := eqF_ok wx.1 wx.1 hc.1 hc.1
            refine ⟨_, _, rfl, .inr (same_t R1.sub hs), j2, i2, ?_⟩
            refine Good.ok gd R1 ?_
            rw [i1, show (if neg = true then !(ds.any fun z => eqF z d) else ds.any fun z => eqF z d) = xor neg (ds.any fun z => eqF z d) by cases neg <;> simp]
            exact wr_bl _
        · simp only [hc, if_false] at gd
          exact (show False from gd).elim
      | _ => exact (show False from gd).elim
end Z

set_option linter.all false
set_option autoImplicit false
set_option maxRecDepth 100000
set_option maxHeartbeats 4000000
/-! Z21: dicts: keys that are numbers or texts. -/
namespace Z
open PySem PySem.Spec PyProof.Rows L2 L2H
/-! ### keys -/
def eqK : PyData → PyData → Bool
  | .int a, .int b => decide (a = b)
  | .str a, .str b => decide (a = b)
  | _, _ => false
theorem eqK_key (k l : Key) : eqK (keyD k) (keyD l) = decide (k = l) := by
  cases k <;> cases l <;> simp [eqK, keyD]
def isKey : PyData → Bool
  | .int _ => true | .str _ => true | _ => false
theorem isKey_ok {d : PyData} (h : isKey d = true) : ∃ k, d = keyD k := by
  cases d with
  | int i => exact ⟨.inl i, rfl⟩
  | str s => exact ⟨.inr s, rfl⟩
  | _ => cases h
theorem wr_key {K : PySem.W.Frag} {as : List Addr} {Hb : Hp} {v : V} {k : Key} (h : WR K as Hb v (.d (keyD k))) : v = kV k ∧ fits (keyD k) := by
  cases k with
  | inl i => exact ⟨wr_int_of h, trivial⟩
  | inr s => obtain ⟨e, l⟩ := wr_str_of h; exact ⟨e, l⟩
theorem wr_of_key {K : PySem.W.Frag} {as : List Addr} {Hb : Hp} {k : Key} (h : fits (keyD k)) : WR K as Hb (kV k) (.d (keyD k)) := by
  cases k with
  | inl i => exact wr_int i
  | inr s => exact wr_str h
def valP (kvs : List (PyData × W)) (d : PyData) : Option W := (kvs.find? fun p => eqK p.1 d).map (·.2)
def putP (kvs : List (PyData × W)) (d : PyData) (x : W) : List (PyData × W) :=
  if (kvs.any fun p => eqK p.1 d) = true then kvs.map (fun p => if eqK p.1 d = true then (p.1, x) else p) else kvs ++ [(d, x)]
abbrev PairK (K : PySem.W.Frag) (as : List Addr) (Hb : Hp) : List (Key × V) → List (PyData × W) → Prop := Paired fun (p : Key × V) (q : PyData × W) => q.1 = keyD p.1 ∧ fits q.1 ∧ WR K as Hb p.2 q.2
section
variable {K : PySem.W.Frag} {as : List Addr} {Hb : Hp}
theorem valP_ok {kv : List (Key × V)} {kvs : List (PyData × W)} (k : Key) (h : PairK K as Hb kv kvs) : (∀ x, valP kvs (keyD k) = some x → ∃ v, valV kv k = some v ∧ WR K as Hb v x) ∧ (valP kvs (keyD k) = none → valV kv k = none) := by
  induction h with
  | nil => exact ⟨fun x e => by simp [valP] at e, fun _ => rfl⟩
  | @cons p q l m h1 h2 ih =>
    obtain ⟨p1, p2⟩ := p
    obtain ⟨q1, q2⟩ := q
    obtain ⟨e1, _, w1⟩ := h1
    dsimp only at e1 w1
    subst e1
    by_cases c : p1 = k
    · subst c
      have e : valP ((keyD p1, q2) :: m) (keyD p1) = some q2 := by simp [valP, List.find?_cons, eqK_key]
      refine ⟨fun x hx => ?_, fun hx => ?_⟩
      · rw [e] at hx; cases hx
        exact ⟨p2, valV_pos rfl, w1⟩
      · rw [e] at hx; cases hx
    · have e : valP ((keyD p1, q2) :: m) (keyD k) = valP m (keyD k) := by simp [valP, List.find?_cons, eqK_key, c]
      rw [e, valV_neg (p := (p1, p2)) c]
      exact ih
theorem anyP_ok {kv : List (Key × V)} {kvs : List (PyData × W)} (k : Key) (h : PairK K as Hb kv kvs) : (kvs.any fun p => eqK p.1 (keyD k)) = (kv.any fun p => decide (p.1 = k)) := by
  induction h with
  | nil => rfl
  | @cons p q l m h1 h2 ih =>
    obtain ⟨e1, _, w1⟩ := h1
    rw [List.any_cons, List.any_cons, ih, e1, eqK_key]
theorem putMap_ok {kv : List (Key × V)} {kvs : List (PyData × W)} {k : Key} {v : V} {x : W} (hx : WR K as Hb v x) (h : PairK K as Hb kv kvs) : PairK K as Hb (kv.map fun p => if p.1 = k then (p.1, v) else p) (kvs.map fun p => if eqK p.1 (keyD k) = true then (p.1, x) else p) := by
  induction h with
  | nil => exact .nil
  | @cons p q l m h1 h2 ih =>
    obtain ⟨e1, f1, w1⟩ := h1
    rw [List.map_cons, List.map_cons]
    refine .cons ?_ ih
    rw [e1, eqK_key]
    by_cases c : p.1 = k
    · rw [if_pos c, if_pos (by simpa using c)]; exact ⟨rfl, by rw [← e1]; exact f1, hx⟩
    · rw [if_neg c, if_neg (by simpa using c)]; exact ⟨e1, f1, w1⟩
theorem putP_ok {kv : List (Key × V)} {kvs : List (PyData × W)} {k : Key} {v : V} {x : W} (hf : fits (keyD k)) (hx : WR K as Hb v x) (h : PairK K as Hb kv kvs) : PairK K as Hb (putK kv k v) (putP kvs (keyD k) x) := by
  unfold putK putP
  rw [anyP_ok k h]
  split
  · exact putMap_ok hx h
  · exact Paired.app h (.cons ⟨rfl, hf, hx⟩ .nil)
theorem putP_len (kvs : List (PyData × W)) (d : PyData) (x : W) : (putP kvs d x).length ≤ kvs.length + 1 := by
  unfold putP
  split
  · rw [List.length_map]; omega
  · rw [List.length_append]; simp
end
/-- the dict that a name holds -/
def dicOf (M : Ms) : W → Option (Nat × List (PyData × W))
  | .r i => match M[i]? with
    | some (.dic false kvs) => some (i, kvs)
    | some (.dlk false kvs) => some (i, kvs)
    | _ => none
  | _ => none
/-- .. that may be changed -/
def dicM (M : Ms) : W → Option (Nat × List (PyData × W))
  | .r i => match M[i]? with
    | some (.dic false kvs) => some (i, kvs)
    | _ => none
  | _ => none
section
variable {K : PySem.W.Frag} {H0 Hb0 Hb H : Hp} {as : List Addr} {M : Ms} {x : W} {v : V}
theorem dicOf_ok (r : Rel K H0 Hb0 as Hb H M) (h : WR K as Hb v x) {i : Nat} {kvs : List (PyData × W)} (e : dicOf M x = some (i, kvs)) : ∃ a kv, v = .ref a ∧ Rd H a (.dK kv) ∧ PairK K as Hb kv kvs ∧ kvs.length ≤ sizeLine := by
  cases x with
  | d y => simp [dicOf] at e
  | k u => simp [dicOf] at e
  | r j =>
    obtain ⟨a, h1, rfl⟩ := h
    unfold dicOf at e
    cases hm : M[j]? with
    | none => simp [hm] at e
    | some o =>
      cases o with
      | lst _ => simp [hm] at e
      | ins _ _ => simp [hm] at e
      | gone => simp [hm] at e
      | dic t kvs' =>
        cases t with
        | true => simp [hm] at e
        | false =>
          simp only [hm, Option.some.injEq, Prod.mk.injEq] at e
          obtain ⟨rfl, rfl⟩ := e
          obtain ⟨z, u, h2, kv, rfl, h3⟩ := r.at' j a _ h1 hm
          exact ⟨a, kv, rfl, .inl h2, h3, z⟩
      | dlk t kvs' =>
        cases t with
        | true => simp [hm] at e
        | false =>
          simp only [hm, Option.some.injEq, Prod.mk.injEq] at e
          obtain ⟨rfl, rfl⟩ := e
          obtain ⟨z, od, u, _, h2, kv, rfl, h3⟩ := r.at' j a _ h1 hm
          exact ⟨a, kv, rfl, .inr ⟨od, h2⟩, h3, z⟩
theorem dicM_ok (r : Rel K H0 Hb0 as Hb H M) (h : WR K as Hb v x) {i : Nat} {kvs : List (PyData × W)} (e : dicM M x = some (i, kvs)) : ∃ a kv, x = .r i ∧ as[i]? = some a ∧ v = .ref a ∧ H a = some (.dK kv) ∧ PairK K as Hb kv kvs ∧ kvs.length ≤ sizeLine ∧ M[i]? = some (.dic false kvs) := by
  cases x with
  | d y => simp [dicM] at e
  | k u => simp [dicM] at e
  | r j =>
    obtain ⟨a, h1, rfl⟩ := h
    unfold dicM at e
    cases hm : M[j]? with
    | none => simp [hm] at e
    | some o =>
      cases o with
      | lst _ => simp [hm] at e
      | ins _ _ => simp [hm] at e
      | gone => simp [hm] at e
      | dlk _ _ => simp [hm] at e
      | dic t kvs' =>
        cases t with
        | true => simp [hm] at e
        | false =>
          simp only [hm, Option.some.injEq, Prod.mk.injEq] at e
          obtain ⟨rfl, rfl⟩ := e
          obtain ⟨z, u, h2, kv, rfl, h3⟩ := r.at' j a _ h1 hm
          exact ⟨a, kv, rfl, h1, rfl, h2, h3, z, hm⟩
theorem dget_rd {H : Hp} {a : Addr} {kv : List (Key × V)} {k : Key} (h : Rd H a (.dK kv)) : DGet H a (kV k) (valV kv k) := .inl ⟨kv, k, h, rfl, rfl⟩
end
/-! ### {}, in, [], len, put -/
def pNewD : PEx := fun _ M => .ok (.r M.length) (M ++ [.dic false []])
def pDin (neg : Bool) (pk pd : PEx) : PEx := fun s M => (pk s M).bind fun y M1 => (pd s M1).bind fun x M2 => match y, dicOf M2 x with
  | .d d, some (_, kvs) => if isKey d = true then .ok (.d (.bool (xor neg (valP kvs d).isSome))) M2 else .stuck
  | _, _ => .stuck
def pGetD (pd pk : PEx) : PEx := fun s M => (pd s M).bind fun x M1 => (pk s M1).bind fun y M2 => match y, dicOf M2 x with
  | .d d, some (_, kvs) => if isKey d = true then (match valP kvs d with
    | some z => .ok z M2
    | none => .stuck) else .stuck
  | _, _ => .stuck
def pPutD (pv pd pk : PEx) : PSx := fun s M => (pv s M).to s fun z M1 => (pd s M1).to s fun x M2 => (pk s M2).to s fun y M3 => match y, dicM M3 x with
  | .d d, some (i, kvs) => if isKey d = true ∧ kvs.length < sizeLine then .nx s (M3.set i (.dic false (putP kvs d z))) else .stuck
  | _, _ => .stuck
def gLenD : List W → Ms → R W := fun ws M => match ws with
  | [x] => (match dicM M x with
    | some (_, kvs) => .ok (.d (.int kvs.length)) M
    | none => .stuck)
  | _ => .stuck
section
variable {X : Cx} {w : WX} {o e value : Expr} {pd pk pv : PEx} {pos pos' : Pos}
theorem je_newD : JE X w (.Dict [] [] pos) pNewD := by
  refine ⟨_, pe_dnewK, fun H0 Hb0 as Hb H M σ s r S Q g p hp => ?_⟩
  have r1 := r.newAny (o := .dK []) hp
  have hm : p ∉ as := fun hm => r.al p hm hp
  have r2 := r1.newMut (p := p) (m := .dic false []) (by rw [upd_same]; simp) (r.hbn hp) (r.h0n hp) hm ⟨Nat.zero_le _, _, upd_same, [], rfl, .nil⟩
  exact Good.ok (Good.mono ⟨Same.refl _, [p], rfl⟩ g) r2 ⟨p, by rw [← r.len]; simp, rfl⟩
theorem sim_din {ty td : TE} (neg : Bool) (s1 : Sim (repW X.K) X.K X.mg w ty pk) (s2 : Sim (repW X.K) X.K X.mg w td pd) :
    Sim (repW X.K) X.K X.mg w (fun σ H Q => ty σ H fun y H1 => td σ H1 fun x H2 => ∃ a o, x = .ref a ∧ DGet H2 a y o ∧ Q (.bl (xor neg o.isSome)) H2) (pDin neg pk pd) := by
  intro H0 Hb0 as Hb H M σ s r S Q g
  refine Good.bind s1 r S g fun v y as1 Hb1 H1 M1 r1 f1 S1 w1 g1 => ?_
  refine Good.bind s2 r1 S1 g1 fun u x as2 Hb2 H2 M2 r2 f2 S2 w2 g2 => ?_
  cases y with
  | r i => exact (show False from g2).elim
  | k i => exact (show False from g2).elim
  | d d =>
    cases hd : dicOf M2 x with
    | none => simp only [hd] at g2; exact (show False from g2).elim
    | some p =>
      obtain ⟨i, kvs⟩ := p
      simp only [hd] at g2
      by_cases hk : isKey d = true
      · rw [if_pos hk] at g2
        obtain ⟨k, rfl⟩ := isKey_ok hk
        obtain ⟨a, kv, rfl, hr, hp, hz⟩ := dicOf_ok r2 w2 hd
        obtain ⟨rfl, _⟩ := wr_key w1
        refine ⟨a, valV kv k, rfl, dget_rd hr, ?_⟩
        have e : (valV kv k).isSome = (valP kvs (keyD k)).isSome := by
          obtain ⟨h1, h2⟩ := valP_ok k hp
          cases q : valP kvs (keyD k) with
          | none => rw [h2 q]; rfl
          | some z => obtain ⟨v, e, _⟩ := h1 z q; rw [e]; rfl
        rw [e]
        exact Good.ok g2 r2 (wr_bl _)
      · rw [if_neg hk] at g2
        exact (show False from g2).elim
theorem je_din (hu : X.A.units + 1 < cLine) (hk : JE X w e pk) (hd : JE X w o pd) (hm : behindInMarks .In o = false := by rfl) : JE X w (.Compare e [.In] [o] pos) (pDin false pk pd) := by
  obtain ⟨t, e1, s1⟩ := hk
  obtain ⟨u, e2, s2⟩ := hd
  refine ⟨_, pe_cmp (pc_din hu e1 e2) hm, fun H0 Hb0 as Hb H M σ s r S Q g => ?_⟩
  have z := sim_din false s1 s2 H0 Hb0 as Hb H M σ s r S Q g
  simpa [tTest, tB, tDIn] using z
theorem je_dnin (hu : X.A.units + 1 < cLine) (hk : JE X w e pk) (hd : JE X w o pd) (hm : behindInMarks .NotIn o = false := by rfl) : JE X w (.Compare e [.NotIn] [o] pos) (pDin true pk pd) := by
  obtain ⟨t, e1, s1⟩ := hk
  obtain ⟨u, e2, s2⟩ := hd
  refine ⟨_, pe_cmp (pc_dnotin hu e1 e2) hm, fun H0 Hb0 as Hb H M σ s r S Q g => ?_⟩
  have z := sim_din true s1 s2 H0 Hb0 as Hb H M σ s r S Q g
  simpa [tTest, tB, tDNotIn] using z
theorem jt_din (hu : X.A.units + 1 < cLine) (hk : JE X w e pk) (hd : JE X w o pd) (hm : behindInMarks .In o = false := by rfl) : JT X w (.Compare e [.In] [o] pos) (pB (pDin false pk pd)) := by
  obtain ⟨t, e1, s1⟩ := hk
  obtain ⟨u, e2, s2⟩ := hd
  refine ⟨_, pt_cmp (pc_din hu e1 e2) hm, fun H0 Hb0 as Hb H M σ s r S Q g => ?_⟩
  have z := sim_test (sim_din false s1 s2) H0 Hb0 as Hb H M σ s r S Q g
  simpa [tTest, tB, tDIn] using z
theorem jt_dnin (hu : X.A.units + 1 < cLine) (hk : JE X w e pk) (hd : JE X w o pd) (hm : behindInMarks .NotIn o = false := by rfl) : JT X w (.Compare e [.NotIn] [o] pos) (pB (pDin true pk pd)) := by
  obtain ⟨t, e1, s1⟩ := hk
  obtain ⟨u, e2, s2⟩ := hd
  refine ⟨_, pt_cmp (pc_dnotin hu e1 e2) hm, fun H0 Hb0 as Hb H M σ s r S Q g => ?_⟩
  have z := sim_test (sim_din true s1 s2) H0 Hb0 as Hb H M σ s r S Q g
  simpa [tTest, tB, tDNotIn] using z
theorem je_getD (hu : X.A.units + 1 < cLine) (hd : JE X w o pd) (hk : JE X w e pk) (hs : NoSl e := by intro _ _; rfl) : JE X w (.Subscript o e pos) (pGetD pd pk) := by
  obtain ⟨t, e1, s1⟩ := hd
  obtain ⟨u, e2, s2⟩ := hk
  refine ⟨_, pe_dget hu e1 e2 hs, fun H0 Hb0 as Hb H M σ s r S Q g => ?_⟩
  refine Good.bind s1 r S g fun v x as1 Hb1 H1 M1 r1 f1 S1 w1 g1 => ?_
  refine Good.bind s2 r1 S1 g1 fun u y as2 Hb2 H2 M2 r2 f2 S2 w2 g2 => ?_
  cases y with
  | r i => exact (show False from g2).elim
  | k i => exact (show False from g2).elim
  | d d =>
    cases hd : dicOf M2 x with
    | none => simp only [hd] at g2; exact (show False from g2).elim
    | some p =>
      obtain ⟨i, kvs⟩ := p
      simp only [hd] at g2
      by_cases hk : isKey d = true
      · rw [if_pos hk] at g2
        obtain ⟨k, rfl⟩ := isKey_ok hk
        obtain ⟨a, kv, rfl, hr, hp, hz⟩ := dicOf_ok r2 (w1.mono f2) hd
        obtain ⟨rfl, _⟩ := wr_key w2
        cases q : valP kvs (keyD k) with
        | none => simp only [q] at g2; exact (show False from g2).elim
        | some z =>
          simp only [q] at g2
          obtain ⟨v, e, wv⟩ := (valP_ok k hp).1 z q
          exact ⟨a, v, rfl, e ▸ dget_rd hr, Good.ok g2 r2 wv⟩
      · rw [if_neg hk] at g2
        exact (show False from g2).elim
theorem js_putD (hu : X.A.units + 1 < cLine) (hv : JE X w value pv) (hd : JE X w o pd) (hk : JE X w e pk) (hs : swapsWith value (some (.Subscript o e pos')) pos.line X.env = pure false := by rfl) :
    JS X w (.Assign [.Subscript o e pos'] value pos) (pPutD pv pd pk) := by
  obtain ⟨t0, e0, s0⟩ := hv
  obtain ⟨t, e1, s1⟩ := hd
  obtain ⟨u, e2, s2⟩ := hk
  refine ⟨_, ps_dput hu e1 e2 e0 hs, fun H0 Hb0 as Hb H M σ s r S D g => ?_⟩
  refine GoodS.bind s0 r S g fun vv z as0 Hbb H0' M0 r0 f0 S0 w0 g0 => ?_
  refine GoodS.bind s1 r0 S0 g0 fun v x as1 Hb1 H1 M1 r1 f1 S1 w1 g1 => ?_
  refine GoodS.bind s2 r1 S1 g1 fun u y as2 Hb2 H2 M2 r2 f2 S2 w2 g2 => ?_
  cases y with
  | r i => exact (show False from g2).elim
  | k i => exact (show False from g2).elim
  | d d =>
    cases hd : dicM M2 x with
    | none => simp only [hd] at g2; exact (show False from g2).elim
    | some p =>
      obtain ⟨i, kvs⟩ := p
      simp only [hd] at g2
      by_cases hk : isKey d = true ∧ kvs.length < sizeLine
      · rw [if_pos hk] at g2
        obtain ⟨k, rfl⟩ := isKey_ok hk.1
        obtain ⟨a, kv, rfl, ha, rfl, hr, hp, hz, hm⟩ := dicM_ok r2 (w1.mono f2) hd
        obtain ⟨rfl, hf⟩ := wr_key w2
        have hl : kv.length = kvs.length := Paired.len hp
        have wz := w0.mono (f1.trans f2)
        refine ⟨a, _, rfl, DPut.k hr (by rw [hl]; exact hk.2), ?_⟩
        exact GoodS.nx g2 (r2.setMut ha hm rfl ⟨Nat.le_trans (putP_len ..) hk.2, _, upd_same, _, rfl, putP_ok hf wz hp⟩) S2
      · rw [if_neg hk] at g2
        exact (show False from g2).elim
end
theorem s_lenD {K : PySem.W.Frag} {mg : Str → Option Value} : SimC K mg (fun xs H Q => ∃ a kvs, xs = [V.ref a] ∧ H a = some (.dK kvs) ∧ Q (.int kvs.length) H) gLenD := by
  intro w H0 Hb0 as Hb H M σ ws vs r wr Q gd
  match ws, gd with
  | [], gd => exact gd.elim
  | _ :: _ :: _, gd => exact gd.elim
  | [x], gd =>
    obtain ⟨v, rfl, wx⟩ := one_arg_of wr
    unfold gLenD at gd
    cases e1 : dicM M x with
    | none => simp only [e1] at gd; exact (show False from gd).elim
    | some p =>
      obtain ⟨i, kvs⟩ := p
      simp only [e1] at gd
      obtain ⟨a, kv, rfl, ha, rfl, hH, hp, hz, hm⟩ := dicM_ok r wx e1
      have hl : kv.length = kvs.length := Paired.len hp
      exact ⟨a, kv, rfl, hH, by rw [hl]; exact Good.ok gd r (wr_int _)⟩
/-! ### locked -/
def drp (Hb : Hp) (d : Addr) : Hp := fun a => if a = d then none else Hb a
theorem drp_ne {Hb : Hp} {d a : Addr} (h : a ≠ d) : drp Hb d a = Hb a := if_neg h
theorem drp_same {Hb : Hp} {d : Addr} : drp Hb d d = none := if_pos rfl
def IsDic (u : HO) : Prop := (∃ kv, u = .dK kv) ∨ ∃ kv, u = .dT kv
mutual
theorem Dt.drp {K : PySem.W.Frag} {Hb : Hp} {d : Addr} {od : Obj} {u : HO} (hd : Hb d = some (.frz od u)) (hu : IsDic u) : ∀ (x : PyData) (v : V), Dt K Hb v x → Dt K (Z.drp Hb d) v x
  | .none, _, h => by cases h; exact .non
  | .bool b, _, h => by cases h; exact .bl b
  | .int i, _, h => by cases h; exact .int i
  | .str x, _, h => by cases h; exact .str x
  | .list ds, _, h => by
    cases h with
    | @lst a xs _ hs ha =>
      have ne : a ≠ d := fun z => by subst z; rw [hd] at hs; cases hs
      exact .lst (by rw [drp_ne ne]; exact hs) (DtAll.drp hd hu ds _ ha)
  | .tuple ds, _, h => by
    cases h with
    | @tup a xs _ hs ha =>
      refine .tup ?_ (DtAll.drp hd hu ds _ ha)
      rcases hs with (hs | ⟨o, hs⟩) | hs
      · have ne : a ≠ d := fun z => by subst z; rw [hd] at hs; cases hs
        exact .inl (.inl (by rw [drp_ne ne]; exact hs))
      · have ne : a ≠ d := fun z => by
          subst z; rw [hd] at hs
          rcases hu with ⟨kv, rfl⟩ | ⟨kv, rfl⟩ <;> cases hs
        exact .inl (.inr ⟨o, by rw [drp_ne ne]; exact hs⟩)
      · exact .inr hs
  | .dict _, _, h => by cases h
theorem DtAll.drp {K : PySem.W.Frag} {Hb : Hp} {d : Addr} {od : Obj} {u : HO} (hd : Hb d = some (.frz od u)) (hu : IsDic u) : ∀ (ds : List PyData) (vs : List V), DtAll K Hb vs ds → DtAll K (Z.drp Hb d) vs ds
  | [], _, h => by cases h; exact .nil
  | x :: ds, _, h => by
    cases h with
    | cons h1 h2 => exact .cons (Dt.drp hd hu x _ h1) (DtAll.drp hd hu ds _ h2)
end
section
variable {K : PySem.W.Frag} {H0 Hb0 Hb H : Hp} {as : List Addr} {M : Ms} {d : Addr} {od : Obj} {u : HO}
theorem WR.drp {v : V} {x : W} (hd : Hb d = some (.frz od u)) (hu : IsDic u) (h : WR K as Hb v x) : WR K as (Z.drp Hb d) v x := by
  cases x with
  | d x => exact ⟨Dt.drp hd hu x v h.1, h.2⟩
  | r i => exact h
  | k u => exact h
theorem DicR.drp {t : Bool} {u' : HO} {kvs : List (PyData × W)} (hd : Hb d = some (.frz od u)) (hu : IsDic u) (h : DicR K as Hb t u' kvs) : DicR K as (Z.drp Hb d) t u' kvs := by
  cases t with
  | false => obtain ⟨kv, e, p⟩ := h; exact ⟨kv, e, Paired.imp (fun _ _ z => ⟨z.1, z.2.1, z.2.2.drp hd hu⟩) p⟩
  | true => obtain ⟨kv, e, p⟩ := h; exact ⟨kv, e, Paired.imp (fun _ _ z => ⟨z.1, z.2.1, z.2.2.drp hd hu⟩) p⟩
theorem DicR.dic {t : Bool} {kvs : List (PyData × W)} (h : DicR K as Hb t u kvs) : IsDic u := by
  cases t with
  | false => obtain ⟨kv, e, p⟩ := h; exact .inl ⟨kv, e⟩
  | true => obtain ⟨kv, e, p⟩ := h; exact .inr ⟨kv, e⟩
theorem Rel.lock (r : Rel K H0 Hb0 as Hb H M) {i : Nat} {t : Bool} {kvs : List (PyData × W)} (hi : as[i]? = some d) (hm : M[i]? = some (.dic t kvs)) (hH : H d = some u) :
    Rel K H0 Hb0 as (upd Hb d (.frz od u)) (upd H d (.frz od u)) (M.set i (.dlk t kvs)) := by
  have hb := r.off i d _ hi hm rfl
  have h0 := r.off0 d (List.mem_of_getElem? hi)
  have hil : i < M.length := (List.getElem?_eq_some_iff.mp hm).1
  have fu : Fut as Hb as (upd Hb d (.frz od u)) := ⟨same_new hb, [], by simp⟩
  refine ⟨fun b v e => ?_, fun b v e => ?_, by simp [r.len], r.nd, fun b hb' => ?_, fun j b v h1 h2 h3 => ?_, r.off0, r.b0.trans (same_new hb), fun j b v h1 h2 => ?_, fun a h1 h2 => ?_⟩
  · by_cases z : b = d
    · subst z; rw [upd_same] at e ⊢; exact e
    · rw [upd_ne z] at e ⊢; exact r.sub b v e
  · have z : b ≠ d := fun z => by subst z; rw [h0] at e; cases e
    rw [upd_ne z]; exact r.top b v e
  · by_cases z : b = d
    · subst z; rw [upd_same]; simp
    · rw [upd_ne z]; exact r.al b hb'
  · by_cases z : j = i
    · subst z
      rw [List.getElem?_set_self hil] at h2
      cases h2
      cases h3
    · rw [List.getElem?_set_ne (Ne.symm z)] at h2
      have zb : b ≠ d := fun e => z (nodup_idx r.nd (e ▸ h1) hi)
      rw [upd_ne zb]
      exact r.off j b v h1 h2 h3
  · by_cases z : j = i
    · subst z
      rw [hi] at h1; cases h1
      rw [List.getElem?_set_self hil] at h2
      cases h2
      obtain ⟨zz, u', hu', hp⟩ := r.at' j _ _ hi hm
      rw [hH] at hu'
      cases hu'
      exact ⟨zz, od, u, upd_same, upd_same, hp.mono fu⟩
    · rw [List.getElem?_set_ne (Ne.symm z)] at h2
      have zb : b ≠ d := fun e => z (nodup_idx r.nd (e ▸ h1) hi)
      exact (r.at' j b v h1 h2).fut fu (upd_ne zb)
  · by_cases z : a = d
    · subst z; exact h0
    · rw [upd_ne z] at h1; exact r.hb0 a h1 h2
theorem Rel.unlock (r : Rel K H0 Hb0 as Hb H M) {i : Nat} {t : Bool} {kvs : List (PyData × W)} (hi : as[i]? = some d) (hm : M[i]? = some (.dlk t kvs)) (hd : Hb d = some (.frz od u)) (hb0 : Hb0 d = none) :
    Rel K H0 Hb0 as (Z.drp Hb d) (upd H d u) (M.set i (.dic t kvs)) := by
  have h0 := r.off0 d (List.mem_of_getElem? hi)
  have hil : i < M.length := (List.getElem?_eq_some_iff.mp hm).1
  obtain ⟨zz, od', u', hb', hH', hp⟩ := r.at' i _ _ hi hm
  rw [hd] at hb'
  cases hb'
  have hu := hp.dic
  refine ⟨fun b v e => ?_, fun b v e => ?_, by simp [r.len], r.nd, fun b hb' => ?_, fun j b v h1 h2 h3 => ?_, r.off0, fun b v e => ?_, fun j b v h1 h2 => ?_, fun a h1 h2 => ?_⟩
  · have z : b ≠ d := fun z => by subst z; rw [drp_same] at e; cases e
    rw [drp_ne z] at e; rw [upd_ne z]; exact r.sub b v e
  · have z : b ≠ d := fun z => by subst z; rw [h0] at e; cases e
    rw [upd_ne z]; exact r.top b v e
  · by_cases z : b = d
    · subst z; rw [upd_same]; simp
    · rw [upd_ne z]; exact r.al b hb'
  · by_cases z : b = d
    · subst z; exact drp_same
    · rw [drp_ne z]
      have zj : j ≠ i := fun e => z (by subst e; rw [hi] at h1; cases h1; rfl)
      rw [List.getElem?_set_ne (Ne.symm zj)] at h2
      exact r.off j b v h1 h2 h3
  · have z : b ≠ d := fun z => by subst z; rw [hb0] at e; cases e
    rw [drp_ne z]
    exact r.b0 b v e
  · by_cases z : j = i
    · subst z
      rw [hi] at h1; cases h1
      rw [List.getElem?_set_self hil] at h2
      cases h2
      exact ⟨zz, u, upd_same, hp.drp hd hu⟩
    · rw [List.getElem?_set_ne (Ne.symm z)] at h2
      have zb : b ≠ d := fun e => z (nodup_idx r.nd (e ▸ h1) hi)
      have m := r.at' j b v h1 h2
      cases v with
      | lst xs => obtain ⟨z1, vs, e1, e2⟩ := m; exact ⟨z1, vs, by rw [upd_ne zb]; exact e1, Paired.imp (fun _ _ z => WR.drp hd hu z) e2⟩
      | ins C fs => obtain ⟨dx, fv, e1, e2⟩ := m; exact ⟨dx, fv, by rw [upd_ne zb]; exact e1, Paired.imp (fun _ _ z => ⟨z.1, WR.drp hd hu z.2⟩) e2⟩
      | dic t' kvs' => obtain ⟨z1, u1, e1, e2⟩ := m; exact ⟨z1, u1, by rw [upd_ne zb]; exact e1, e2.drp hd hu⟩
      | dlk t' kvs' => obtain ⟨z1, od1, u1, e0, e1, e2⟩ := m; exact ⟨z1, od1, u1, by rw [drp_ne zb]; exact e0, by rw [upd_ne zb]; exact e1, e2.drp hd hu⟩
      | gone => trivial
  · by_cases z : a = d
    · subst z; rw [drp_same] at h1; exact absurd rfl h1
    · rw [drp_ne z] at h1; exact r.hb0 a h1 h2
theorem fut_unlock {as' : List Addr} {Hb' : Hp} (hb : Hb d = none) (f : Fut as (upd Hb d (.frz od u)) as' Hb') : Fut as Hb as' (Z.drp Hb' d) := by
  refine ⟨fun b v e => ?_, f.pre⟩
  have z : b ≠ d := fun z => by subst z; rw [hb] at e; cases e
  rw [drp_ne z]
  exact f.ex b v (by rw [upd_ne z]; exact e)
end
/-- .. while the dict of a number is locked -/
def lockM (pick : Sl → Ms → Option Nat) (s : Sl) (M : Ms) : Option (Nat × Ms) := match pick s M with
  | some i => (match M[i]? with
    | some (.dic t kvs) => some (i, M.set i (.dlk t kvs))
    | _ => none)
  | none => none
def unlM (i : Nat) (M : Ms) : Option Ms := match M[i]? with
  | some (.dlk t kvs) => some (M.set i (.dic t kvs))
  | _ => none
def pLock {α : Type} (pick : Sl → Ms → Option Nat) (q : Sl → Ms → R α) : Sl → Ms → R α := fun s M => match lockM pick s M with
  | some (i, M1) => (match q s M1 with
    | .ok a M2 => (match unlM i M2 with
      | some M3 => .ok a M3
      | none => .stuck)
    | _ => .stuck)
  | none => .stuck
/-- where the dict of an expression is -/
def pickP (p : PEx) : Sl → Ms → Option Nat := fun s M => match p s M with
  | .ok (.r i) _ => some i
  | _ => none
section
variable {X : Cx} {w : WX} {e : Expr}
theorem lockM_ok {pick : Sl → Ms → Option Nat} {s : Sl} {M M1 : Ms} {i : Nat} (h : lockM pick s M = some (i, M1)) : ∃ t kvs, M[i]? = some (.dic t kvs) ∧ M1 = M.set i (.dlk t kvs) := by
  unfold lockM at h
  cases h1 : pick s M with
  | none => simp [h1] at h
  | some j =>
    simp only [h1] at h
    cases h2 : M[j]? with
    | none => simp [h2] at h
    | some o =>
      cases o with
      | dic t kvs =>
        simp only [h2, Option.some.injEq, Prod.mk.injEq] at h
        obtain ⟨rfl, rfl⟩ := h
        exact ⟨t, kvs, h2, rfl⟩
      | _ => simp [h2] at h
theorem unlM_ok {M M1 : Ms} {i : Nat} (h : unlM i M = some M1) : ∃ t kvs, M[i]? = some (.dlk t kvs) ∧ M1 = M.set i (.dic t kvs) := by
  unfold unlM at h
  cases h2 : M[i]? with
  | none => simp [h2] at h
  | some o =>
    cases o with
    | dlk t kvs => simp only [h2, Option.some.injEq] at h; exact ⟨t, kvs, rfl, h.symm⟩
    | _ => simp [h2] at h
theorem jl_lock {q : PAx} (pick : Sl → Ms → Option Nat) (h : JL X w e q) : JL X w e (pLock pick q) := by
  obtain ⟨t, e1, s1⟩ := h
  refine ⟨_, pe_lock e1, fun H0 Hb0 as Hb H M σ s r S Q g => ?_⟩
  unfold pLock at g
  cases hl : lockM pick s M with
  | none => simp only [hl] at g; exact (show False from g).elim
  | some p =>
    obtain ⟨i, M1⟩ := p
    simp only [hl] at g
    obtain ⟨tt, kvs, hm, rfl⟩ := lockM_ok hl
    obtain ⟨d, hi⟩ := r.idx hm
    obtain ⟨z, u, hH, hp⟩ := r.at' i d _ hi hm
    have hb := r.off i d _ hi hm rfl
    have hb0 : Hb0 d = none := r.b0.free hb
    refine ⟨d, u, hH, by rcases hp.dic with ⟨kv, rfl⟩ | ⟨kv, rfl⟩ <;> trivial, fun od => ?_⟩
    have r1 := r.lock (od := od) hi hm hH
    have f1 : Fut as Hb as (upd Hb d (.frz od u)) := ⟨same_new hb, [], by simp⟩
    refine s1 H0 Hb0 as _ _ _ σ s r1 (S.mono f1) _ ?_
    cases hq : q s (M.set i (.dlk tt kvs)) with
    | exc ex m => rw [hq] at g; exact (show False from g).elim
    | stuck => rw [hq] at g; exact (show False from g).elim
    | ok ws M2 =>
      rw [hq] at g
      simp only at g
      cases hun : unlM i M2 with
      | none => simp only [hun] at g; exact (show False from g).elim
      | some M3 =>
        simp only [hun] at g
        obtain ⟨t2, kvs2, hm2, rfl⟩ := unlM_ok hun
        intro v as' Hb' H' r' f' rp
        have hd : Hb' d = some (.frz od u) := f'.ex d _ upd_same
        have hi' := f'.idx hi
        have hu := hp.dic
        refine ⟨r'.sub d _ hd, ?_⟩
        have r2 := r'.unlock hi' hm2 hd hb0
        obtain ⟨p, vs, rfl, hpH, hz, wr, nq, hbn, h0n⟩ := rp
        have npd : p ≠ d := fun e => nq (e ▸ List.mem_of_getElem? hi')
        exact Good.ok (Good.mono (fut_unlock hb f') g) r2 ⟨p, vs, rfl, by rw [upd_ne npd]; exact hpH, hz, Paired.imp (fun _ _ z => WR.drp hd hu z) wr, nq, by rw [drp_ne npd]; exact hbn, h0n⟩
/-- the keys of a locked dict -/
def pKeys (p : PEx) : PAx := fun s M => (p s M).bind fun x M1 => match x with
  | .r i => (match M1[i]? with
    | some (.dlk false kvs) => .ok (kvs.map fun q => .d q.1) M1
    | _ => .stuck)
  | _ => .stuck
theorem ji_keys {tg l : Expr} {p : PEx} (h : JE X w l p) : JI X w tg l (pKeys p) := by
  obtain ⟨t, e1, s1⟩ := h
  refine ⟨_, pi_keys e1, fun H0 Hb0 as Hb H M σ s r S Q g => ?_⟩
  refine Good.bind s1 r S g fun v x as1 Hb1 H1 M1 r1 f1 S1 w1 g1 => ?_
  cases x with
  | d y => exact (show False from g1).elim
  | k y => exact (show False from g1).elim
  | r i =>
    obtain ⟨d, hi, rfl⟩ := w1
    cases hm : M1[i]? with
    | none => simp only [hm] at g1; exact (show False from g1).elim
    | some o =>
      cases o with
      | lst _ => simp only [hm] at g1; exact (show False from g1).elim
      | ins _ _ => simp only [hm] at g1; exact (show False from g1).elim
      | dic _ _ => simp only [hm] at g1; exact (show False from g1).elim
      | gone => simp only [hm] at g1; exact (show False from g1).elim
      | dlk tt kvs =>
        cases tt with
        | true => simp only [hm] at g1; exact (show False from g1).elim
        | false =>
          simp only [hm] at g1
          obtain ⟨z, od, u, hb, hH, kv, rfl, hp⟩ := r1.at' i d _ hi hm
          refine ⟨d, od, rfl, .inl ⟨kv, hH, ?_⟩⟩
          refine Good.ok g1 r1 ?_
          intro H0' Hb0' as' Hb' H' M' r' f' j
          have hd : H' d = some (.frz od (.dK kv)) := r'.sub d _ (f'.ex d _ hb)
          have hl : kv.length = kvs.length := Paired.len hp
          refine ⟨fun x hx => ?_, fun hx => ⟨hd, by rw [hl]; simpa using hx⟩⟩
          rw [List.getElem?_map, Option.map_eq_some_iff] at hx
          obtain ⟨q, hq, rfl⟩ := hx
          obtain ⟨pv, hpv, e1, e2, e3⟩ := Paired.at hp hq
          have hj : j < kv.length := (List.getElem?_eq_some_iff.mp hpv).1
          refine ⟨⟨hd, hj⟩, fun v H2 hy => ?_⟩
          obtain ⟨rfl, k, u, hk, rfl⟩ := hy
          rw [hpv] at hk
          cases hk
          exact ⟨Hb', r', Fut.refl, by rw [show q.1 = keyD k from e1] at e2 ⊢; exact wr_of_key e2⟩
end
end Z

set_option linter.all false
set_option autoImplicit false
set_option maxRecDepth 100000
set_option maxHeartbeats 4000000
/-! Z22: sorted(d), dict comprehensions, list(range(a, b, c)). -/
namespace Z
open PySem PySem.Spec PyProof.Rows L2 L2H
/-! ### sorted texts -/
theorem perm_uniq {α : Type} {le : α → α → Prop} : ∀ {l m : List α}, l.Perm m → l.Pairwise le → m.Pairwise le → (∀ a ∈ l, ∀ b ∈ l, le a b → le b a → a = b) → l = m
  | [], m, p, _, _, _ => p.nil_eq
  | a :: l, [], p, _, _, _ => absurd p.length_eq (by simp)
  | a :: l, b :: m, p, h1, h2, ha => by
    have hb : b ∈ a :: l := p.mem_iff.mpr List.mem_cons_self
    have ham : a ∈ b :: m := p.mem_iff.mp List.mem_cons_self
    have e : a = b := by
      rcases List.mem_cons.mp hb with e | hb'
      · exact e.symm
      · rcases List.mem_cons.mp ham with e | ham'
        · exact e
        · exact ha a List.mem_cons_self b hb (List.rel_of_pairwise_cons h1 hb') (List.rel_of_pairwise_cons h2 ham')
    subst e
    rw [perm_uniq p.cons_inv (List.Pairwise.of_cons h1) (List.Pairwise.of_cons h2) fun x hx y hy => ha x (List.mem_cons_of_mem _ hx) y (List.mem_cons_of_mem _ hy)]
def leS (a b : Str) : Prop := a.cps.toList ≤ b.cps.toList
theorem leS_anti {a b : Str} (h1 : leS a b) (h2 : leS b a) : a = b := by
  have e := List.le_antisymm h1 h2
  cases a; cases b
  simp only [Str.mk.injEq]
  exact Array.toList_inj.mp e
def sortS (ks : List Str) : List Str := ks.mergeSort (PySem.W.dataLe false PyData.str)
theorem sortS_map (ks : List Str) : sortD (ks.map .str) = (sortS ks).map .str := (PySem.W.sort_maps PyData.str fun _ _ _ _ => rfl).symm
theorem sortS_perm (ks : List Str) : (sortS ks).Perm ks := List.mergeSort_perm _ _
theorem sortS_pw (ks : List Str) : (sortS ks).Pairwise leS := by
  have h := PySem.W.sort_pairwise (le := PySem.W.dataLe false PyData.str) (PySem.W.sortLe_total _ _ _) ks
  refine List.Pairwise.imp ?_ h
  intro a b hab
  have e := PySem.W.dataLe_str (fun x : Str => x)
  have hab' : PySem.W.dataLe false (fun b : Str => PyData.str b) a b = true := hab
  rw [e] at hab'
  show a.cps.toList ≤ b.cps.toList
  exact of_decide_eq_true hab'
theorem sortS_uniq {ks ys : List Str} (p : ys.Perm ks) (h : ys.Pairwise leS) : ys = sortS ks :=
  perm_uniq (p.trans (sortS_perm ks).symm) h (sortS_pw ks) fun _ _ _ _ => leS_anti
theorem rising_pw : ∀ {r : List Str} {x : Str}, risingS x r = true → (x :: r).Pairwise leS
  | [], x, _ => List.pairwise_singleton _ _
  | y :: r, x, h => by
    unfold risingS at h
    simp only [Bool.and_eq_true, Bool.not_eq_true', ltCps_eq, decide_eq_false_iff_not] at h
    have ih := rising_pw h.2
    have hxy : leS x y := List.not_lt.mp h.1
    refine List.pairwise_cons.mpr ⟨fun z hz => ?_, ih⟩
    rcases List.mem_cons.mp hz with rfl | hz
    · exact hxy
    · exact List.le_trans hxy (List.rel_of_pairwise_cons ih hz)
theorem sortedS_pw {l : List Str} (h : sortedS l = true) : l.Pairwise leS := by
  cases l with
  | nil => exact List.Pairwise.nil
  | cons x r => exact rising_pw h
/-! ### sorted(d) -/
def keysS : List (PyData × W) → Option (List Str)
  | [] => some []
  | p :: r => match p.1 with
    | .str s => (keysS r).map (s :: ·)
    | _ => none
theorem keysS_ok {K : PySem.W.Frag} {as : List Addr} {Hb : Hp} {kv : List (Key × V)} {kvs : List (PyData × W)} (h : PairK K as Hb kv kvs) : ∀ {ks : List Str}, keysS kvs = some ks → kv.map (·.1) = ks.map Sum.inr ∧ ∀ k ∈ ks, k.length ≤ sizeLine := by
  induction h with
  | nil => intro ks e; simp [keysS] at e; subst e; exact ⟨rfl, fun _ h => by cases h⟩
  | @cons p q l m h1 h2 ih =>
    intro ks e
    obtain ⟨e1, f1, _⟩ := h1
    unfold keysS at e
    obtain ⟨q1, q2⟩ := q
    dsimp only at e1 e f1
    obtain ⟨p1, p2⟩ := p
    cases p1 with
    | inl i => simp only [keyD] at e1; subst e1; simp at e
    | inr s =>
      simp only [keyD] at e1
      subst e1
      simp only [Option.map_eq_some_iff] at e
      obtain ⟨r, e2, rfl⟩ := e
      obtain ⟨i1, i2⟩ := ih e2
      refine ⟨by simp [i1], fun k hk => ?_⟩
      rcases List.mem_cons.mp hk with rfl | hk
      · exact f1
      · exact i2 k hk
def gSortedK : List W → Ms → R (List W) := fun ws M => match ws with
  | [x] => (match dicOf M x with
    | some (_, kvs) => (match keysS kvs with
      | some ks => if ks.length < 64 then .ok (strsW (sortS ks)) M else .stuck
      | none => .stuck)
    | none => .stuck)
  | _ => .stuck
theorem s_sortedK {K : PySem.W.Frag} {mg : Str → Option Value} : SimCL K mg (fun xs H Q => ∃ (a : Addr) (kvs : List (Key × V)) (ks : List Str), xs = [.ref a] ∧ Rd H a (.dK kvs) ∧ kvs.map (·.1) = ks.map Sum.inr ∧ ks.length < 64 ∧ ∀ ys p, ys.Perm ks → sortedS ys = true → H p = none → Q (.ref p) (upd H p (.lst (ys.map V.str)))) gSortedK := by
  intro w H0 Hb0 as Hb H M σ ws vs r wr Q gd
  match ws, gd with
  | [], gd => exact gd.elim
  | _ :: _ :: _, gd => exact gd.elim
  | [x], gd =>
    obtain ⟨v, rfl, wx⟩ := one_arg_of wr
    unfold gSortedK at gd
    cases e1 : dicOf M x with
    | none => simp only [e1] at gd; exact (show False from gd).elim
    | some p =>
      obtain ⟨i, kvs⟩ := p
      simp only [e1] at gd
      cases e2 : keysS kvs with
      | none => simp only [e2] at gd; exact (show False from gd).elim
      | some ks =>
        simp only [e2] at gd
        by_cases hc : ks.length < 64
        · rw [if_pos hc] at gd
          obtain ⟨a, kv, rfl, hr, hp, hz⟩ := dicOf_ok r wx e1
          obtain ⟨k1, k2⟩ := keysS_ok hp e2
          refine ⟨a, kv, ks, rfl, hr, k1, hc, fun ys p hpm hs hpn => ?_⟩
          have e := sortS_uniq hpm (sortedS_pw hs)
          subst e
          have hl : (sortS ks).length = ks.length := (sortS_perm ks).length_eq
          have e64 : (64 : Nat) ≤ sizeLine := by decide
          exact Good.ok gd (r.newAny hpn) ⟨p, _, rfl, upd_same, by unfold strsW; rw [List.length_map, hl]; omega, wrs_strs fun z hz => k2 z ((sortS_perm ks).mem_iff.mp hz), fun hm => r.al p hm hpn, r.hbn hpn, r.h0n hpn⟩
        · rw [if_neg hc] at gd
          exact (show False from gd).elim
/-! ### a value that is made while a dict is locked -/
section
variable {X : Cx} {w : WX} {e : Expr}
theorem je_lock {q : PEx} (pick : Sl → Ms → Option Nat) (h : JE X w e q) : JE X w e (pLock pick q) := by
  obtain ⟨t, e1, s1⟩ := h
  refine ⟨_, pe_lock e1, fun H0 Hb0 as Hb H M σ s r S Q g => ?_⟩
  unfold pLock at g
  cases hl : lockM pick s M with
  | none => simp only [hl] at g; exact (show False from g).elim
  | some p =>
    obtain ⟨i, M1⟩ := p
    simp only [hl] at g
    obtain ⟨tt, kvs, hm, rfl⟩ := lockM_ok hl
    obtain ⟨d, hi⟩ := r.idx hm
    obtain ⟨z, u, hH, hp⟩ := r.at' i d _ hi hm
    have hb := r.off i d _ hi hm rfl
    have hb0 : Hb0 d = none := r.b0.free hb
    refine ⟨d, u, hH, by rcases hp.dic with ⟨kv, rfl⟩ | ⟨kv, rfl⟩ <;> trivial, fun od => ?_⟩
    have r1 := r.lock (od := od) hi hm hH
    have f1 : Fut as Hb as (upd Hb d (.frz od u)) := ⟨same_new hb, [], by simp⟩
    refine s1 H0 Hb0 as _ _ _ σ s r1 (S.mono f1) _ ?_
    cases hq : q s (M.set i (.dlk tt kvs)) with
    | exc ex m => rw [hq] at g; exact (show False from g).elim
    | stuck => rw [hq] at g; exact (show False from g).elim
    | ok x M2 =>
      rw [hq] at g
      simp only at g
      cases hun : unlM i M2 with
      | none => simp only [hun] at g; exact (show False from g).elim
      | some M3 =>
        simp only [hun] at g
        obtain ⟨t2, kvs2, hm2, rfl⟩ := unlM_ok hun
        intro v as' Hb' H' r' f' rp
        have hd : Hb' d = some (.frz od u) := f'.ex d _ upd_same
        have hi' := f'.idx hi
        refine ⟨r'.sub d _ hd, ?_⟩
        exact Good.ok (Good.mono (fut_unlock hb f') g) (r'.unlock hi' hm2 hd hb0) (WR.drp hd hp.dic rp)
end
/-! ### dict comprehensions -/
def dcL (g : PGx) (tt : PTx) (tk tv : PEx) (s : Sl) : List W → List (PyData × W) → Ms → R (List (PyData × W))
  | [], acc, M => .ok acc M
  | x :: ws, acc, M => match g x s M with
    | none => .stuck
    | some s1 => (tt s1 M).bindN fun b M1 => if b = true then (tk s1 M1).bindN fun y M2 => (tv s1 M2).bindN fun z M3 => match y with
      | .d d => if isKey d = true then dcL g tt tk tv s ws (putP acc d z) M3 else .stuck
      | _ => .stuck
      else dcL g tt tk tv s ws acc M1
def pDc (it : PAx) (g : PGx) (tt : PTx) (tk tv : PEx) (vs : List Nat) : PEx := fun s M => (it s M).bind fun ws M1 => if ws.length ≤ 1000000 then (dcL g tt tk tv (wipeS s vs) ws [] M1).bindN fun kvs M2 => .ok (.r M2.length) (M2 ++ [.dic false kvs]) else .stuck
theorem wipe_wipe {vs is : List Nat} (hv : ∀ i ∈ is, i ∈ vs) {σ σ3 : L2.St} (hw3 : ∀ us : List Nat, (∀ i ∈ is, i ∈ us) → wipe σ3 us = wipe (wipe σ vs) us) : wipe σ3 vs = wipe σ vs := by
  have z := hw3 vs hv
  rw [z]
  have ww : ∀ us : List Nat, (∀ u ∈ us, u ∈ vs) → ∀ τ : L2.St, wipe (wipe τ vs) us = wipe τ vs := by
    intro us
    induction us with
    | nil => intro _ τ; rfl
    | cons u us ih =>
      intro hu τ
      have hm := hu u List.mem_cons_self
      have e1 := ih (fun x hx => hu x (List.mem_cons_of_mem _ hx)) τ
      show (wipe (wipe τ vs) us).set u none = wipe τ vs
      rw [e1]
      have sn : ∀ (l : List Nat), u ∈ l → (wipe τ l).set u none = wipe τ l := by
        intro l
        induction l with
        | nil => intro h; cases h
        | cons y l ihl =>
          intro h
          show ((wipe τ l).set y none).set u none = (wipe τ l).set y none
          by_cases e : y = u
          · subst e; rw [List.set_set]
          · rw [List.set_comm _ _ e]
            rcases List.mem_cons.mp h with z | z
            · exact absurd z.symm e
            · rw [ihl z]
      exact sn vs hm
  exact ww vs (fun _ h => h) σ
section
variable {X : Cx} {w : WX}
theorem sim_dc {wi : TI} {it : PAx} {pg : PGx} {tt : PTx} {tk tv : PEx} {is vs : List Nat} (hv : ∀ i ∈ is, i ∈ vs) (si : Sim (repI X.K) X.K X.mg w wi it) :
    Sim (repW X.K) X.K X.mg w (tDc wi (canonG X.K pg is) (canon repB X.K X.mg wNone tt) (canon (repW X.K) X.K X.mg wNone tk) (canon (repW X.K) X.K X.mg wNone tv) vs) (pDc it pg tt tk tv vs) := by
  intro H0 Hb0 as Hb H M σ s r S Q g
  refine Good.bind si r S g fun J ws as1 Hb1 H1 M1 r1 f1 S1 io g1 => ?_
  intro D hD
  by_cases hz : ws.length ≤ 1000000
  · rw [if_pos hz] at g1
    have Sw := slots_wipe S1 vs
    refine ⟨fun i m H' => m = ws.length - i ∧ i ≤ ws.length ∧ ∃ as' Hb' M' acc av, Rel X.K (upd H0 D (.dK av)) Hb0 as' Hb' H' M' ∧ Fut as1 Hb1 as' Hb' ∧ PairK X.K as' Hb' av acc ∧ acc.length ≤ i ∧
        Good (repW X.K) X.K X.mg w H0 Hb0 as' Hb' σ Q ((dcL pg tt tk tv (wipeS s vs) (ws.drop i) acc M').bindN fun kvs M2 => .ok (.r M2.length) (M2 ++ [.dic false kvs])),
      ⟨ws.length, by simp, Nat.zero_le _, as1, Hb1, M1, [], [], ?_, Fut.refl, .nil, Nat.zero_le _, by simpa using g1⟩, ?_⟩
    · exact (r1.newAny hD).guard upd_same (r1.hbn hD) fun hm => r1.al D hm hD
    rintro i m H' ⟨rfl, hi, as', Hb', M', acc, av, r', f', wa, hal, g'⟩
    have h0D : H0 D = none := r1.h0n hD
    have hb0D : Hb0 D = none := r1.b0.free (r1.hbn hD)
    obtain ⟨ru, hHD, hbD, nD⟩ := r'.unguard h0D hb0D
    obtain ⟨io1, io2⟩ := io _ Hb0 as' Hb' H' M' r' f' i
    by_cases hlt : i < ws.length
    · have hx : ws[i]? = some ws[i] := List.getElem?_eq_getElem hlt
      obtain ⟨go, yl⟩ := io1 _ hx
      rw [List.drop_eq_getElem_cons hlt] at g'
      refine .inr ⟨go, fun H2 => ∃ as2 Hb2 M2 acc2 av2, Rel X.K (upd H0 D (.dK av2)) Hb0 as2 Hb2 H2 M2 ∧ Fut as1 Hb1 as2 Hb2 ∧ PairK X.K as2 Hb2 av2 acc2 ∧ acc2.length ≤ i + 1 ∧
        Good (repW X.K) X.K X.mg w H0 Hb0 as2 Hb2 σ Q ((dcL pg tt tk tv (wipeS s vs) (ws.drop (i + 1)) acc2 M2).bindN fun kvs M2 => .ok (.r M2.length) (M2 ++ [.dic false kvs])), fun H2 z => ⟨ws.length - (i + 1), by omega, rfl, hlt, z⟩, fun v H2 hy => ?_⟩
      obtain ⟨Hb2, r2, f2, w2⟩ := yl v H2 hy
      have S2 := Sw.mono (f'.trans f2)
      cases hg : pg ws[i] (wipeS s vs) M' with
      | none => rw [dcL, hg] at g'; exact g'.elim
      | some s1 =>
        rw [dcL, hg] at g'
        simp only at g'
        refine ⟨_, Hb0, as', Hb2, M', wipeS s vs, s1, ws[i], r2, S2, w2, hg, fun σ3 S3 hw3 => ?_⟩
        refine ⟨wipe_wipe hv hw3, ?_⟩
        refine ⟨_, Hb0, as', Hb2, M', s1, r2, S3, ?_⟩
        cases ht : tt s1 M' with
        | exc e m => rw [ht] at g'; exact g'.elim
        | stuck => rw [ht] at g'; exact g'.elim
        | ok b Mt =>
          rw [ht] at g'
          simp only [R.bindN] at g'
          intro b' as3 Hb3 H3 r3 f3 eb
          obtain rfl : b' = b := eb
          cases b' with
          | false =>
            simp only [Bool.false_eq_true, if_false] at g' ⊢
            refine ⟨as3, Hb3, Mt, acc, av, r3, (f'.trans f2).trans f3, Paired.imp (fun _ _ z => ⟨z.1, z.2.1, z.2.2.mono (f2.trans f3)⟩) wa, Nat.le_succ_of_le hal, ?_⟩
            exact Good.mono (f2.trans f3) g'
          | true =>
            simp only [if_true] at g' ⊢
            refine ⟨_, Hb0, as3, Hb3, Mt, s1, r3, S3.mono f3, ?_⟩
            cases hte : tk s1 Mt with
            | exc e m => rw [hte] at g'; exact g'.elim
            | stuck => rw [hte] at g'; exact g'.elim
            | ok y My =>
              rw [hte] at g'
              simp only at g'
              intro yv as4 Hb4 H4 r4 f4 wy
              refine ⟨_, Hb0, as4, Hb4, My, s1, r4, (S3.mono f3).mono f4, ?_⟩
              cases htv : tv s1 My with
              | exc e m => rw [htv] at g'; exact g'.elim
              | stuck => rw [htv] at g'; exact g'.elim
              | ok z Mz =>
                rw [htv] at g'
                simp only at g'
                intro zv as5 Hb5 H5 r5 f5 wz
                cases y with
                | r i => exact (show False from g').elim
                | k i => exact (show False from g').elim
                | d d =>
                  simp only at g'
                  by_cases hk : isKey d = true
                  · rw [if_pos hk] at g'
                    obtain ⟨k, rfl⟩ := isKey_ok hk
                    obtain ⟨rfl, hf⟩ := wr_key wy
                    obtain ⟨ru5, hHD5, hbD5, nD5⟩ := r5.unguard h0D hb0D
                    have ff := (((f2.trans f3).trans f4).trans f5)
                    have wa5 : PairK X.K as5 Hb5 av acc := Paired.imp (fun _ _ z => ⟨z.1, z.2.1, z.2.2.mono ff⟩) wa
                    have hl : av.length = acc.length := Paired.len wa
                    have e6 : (1000000 : Nat) < sizeLine := by decide
                    refine ⟨av, k, rfl, hHD5, by omega, as5, Hb5, Mz, putP acc (keyD k) z, putK av k zv, ?_, f'.trans ff, putP_ok hf wz wa5, Nat.le_trans (putP_len ..) (Nat.succ_le_succ hal), Good.mono ff g'⟩
                    exact (ru5.other (o := .dK (putK av k zv)) hbD5 h0D nD5).guard upd_same hbD5 nD5
                  · rw [if_neg hk] at g'
                    exact (show False from g').elim
    · have e : i = ws.length := by omega
      subst e
      have hn : ws[ws.length]? = none := List.getElem?_eq_none_iff.mpr (Nat.le_refl _)
      rw [List.drop_length, dcL] at g'
      simp only [R.bindN] at g'
      have e6 : (1000000 : Nat) ≤ sizeLine := by decide
      have r9 := ru.newMut (p := D) (m := .dic false acc) (by rw [hHD]; simp) hbD h0D nD ⟨by omega, _, hHD, av, rfl, Paired.imp (fun _ _ z => ⟨z.1, z.2.1, z.2.2.mono ⟨Same.refl _, [D], rfl⟩⟩) wa⟩
      exact .inl ⟨io2 hn, Good.ok (Good.mono ⟨Same.refl _, [D], rfl⟩ g') r9 ⟨D, by rw [← ru.len]; simp, rfl⟩⟩
  · rw [if_neg hz] at g1
    exact (show False from g1).elim
theorem je_dc {kx vx tg iter : Expr} {ifs : List Expr} {scope : Scope} {own : List (Str × Nat)} {pos : Pos} {it : PAx} {pg : PGx} {tt : PTx} {tk tv : PEx} {is : List Nat} (hc : X.calm = true) (hN : X.N.Nodup) (hi : JI X w tg iter it) (ok : BlkOk X.N X.env.scope scope own)
    (hg : ∀ (s : Shared) (H : Hp) (C : Addr) (cl : List (Str × Addr)) (fp : List Addr), JG (X.blk s H scope (compEnvC scope cl C X.env) fp) tg pg is) (ht : ∀ (s : Shared) (H : Hp) (C : Addr) (cl : List (Str × Addr)) (fp : List Addr), JTs (X.blk s H scope (compEnvC scope cl C X.env) fp) wNone ifs tt)
    (hk : ∀ (s : Shared) (H : Hp) (C : Addr) (cl : List (Str × Addr)) (fp : List Addr), JE (X.blk s H scope (compEnvC scope cl C X.env) fp) wNone kx tk)
    (he : ∀ (s : Shared) (H : Hp) (C : Addr) (cl : List (Str × Addr)) (fp : List Addr), JE (X.blk s H scope (compEnvC scope cl C X.env) fp) wNone vx tv) (hv : ∀ i ∈ is, i ∈ own.map (·.2) := by decide) (hs : ∀ x, foldedSetIterable iter X.env x = pure x := by intro _; rfl) :
    JE X w (.DictComp kx vx [⟨tg, iter, ifs, 0⟩] scope pos) (pDc it pg tt tk tv (own.map (·.2))) := by
  obtain ⟨wi, ei, si⟩ := hi
  exact ⟨_, pe_dc hc hN ei ok (fun s H C cl fp => (hg s H C cl fp).canon) (fun s H C cl fp => (ht s H C cl fp).canon) (fun s H C cl fp => (hk s H C cl fp).canon) (fun s H C cl fp => (he s H C cl fp).canon) hs, sim_dc hv si⟩
end
/-! ### list(range(a, b, c)) -/
def tRg3 (ta : TA) : TE := fun σ H Q => ta σ H fun vs H1 => ∃ (i j c : Int) (n : Nat), vs = [.int i, .int j, .int c] ∧ RgC i j c n ∧ n ≤ 2 ^ 24 ∧ ∀ q, H1 q = none → Q (.ref q) (upd H1 q (.lst ((List.range n).map fun k => V.int (i + (k : Nat) * c))))
section
variable {X : Cx} {w : WX}
theorem pe_listRg3 {a b c : Expr} {ta : TA} {p p2 pos pos2 : Pos} (hc : X.calm = true) (hg : Gl X "list") (hm : X.mg "list" = none) (hg2 : Gl X "range") (hm2 : X.mg "range" = none) (ha : PA X [a, b, c] ta)
    (na : starEach [.Call (.Name "range" p2) [a, b, c] [] pos2] X.env = (false, eval (.Call (.Name "range" p2) [a, b, c] [] pos2) X.env) :: starEach [] X.env := by rfl)
    (hs : starEach [a, b, c] X.env = (false, eval a X.env) :: starEach [b, c] X.env := by rfl) (hpl : (backTo pos2 (starEach [b, c] X.env)).any (·.1) = false := by rfl) :
    PE X (.Call (.Name "list" p) [.Call (.Name "range" p2) [a, b, c] [] pos2] [] pos) (tRg3 ta) := by
  refine ⟨fun pins s σ H Q I h => ?_⟩
  refine Call_ (ld_blt I hg hm boot_list (PyProof.Rows.callWith_type1 (args_cons ?_ na) na))
  refine Call_ (ld_blt I hg2 hm2 boot_range (PyProof.Rows.callWith_type1 (thn (ha.run pos2 pins s σ H _ I h) fun us s1 ⟨vs, H1, I1, r1, q1⟩ => ?_) hs hpl))
  obtain ⟨i, j, k, n, e, ⟨c0, c1, c2, c3⟩, hn, q⟩ := q1
  subst e
  cases r1 with
  | cons r rr =>
    cases rr with
    | cons r' rr =>
      cases rr with
      | cons r'' rr =>
        cases rr
        obtain ⟨t, rfl⟩ := r
        obtain ⟨t', rfl⟩ := r'
        obtain ⟨t'', rfl⟩ := r''
        refine call_range_3 c0 ?_ (.inl (PyProof.noPylong_small c1))
        refine args_nil ?_
        have I2 : Inv X pins σ H1 { s1 with heap := s1.heap.push { cls := .type "range", data := .fields #[.int i t, .int j t', .int k t''] } } := I1.kept (t' := s1.toks) fun b o e => Heap.get?_push_of_some _ e
        refine call_list_range (n := n) (I2.ok.hd hc) (IsRange.new ..) c2 c3 hn fun h' tk acc c' hk e' hi => ?_
        refine ⟨.ref _, _, I2.laid (o := .lst ((List.range n).map fun m => V.int (i + (m : Nat) * k))) hk (Nat.le_refl _) (show ObjOk X.prog X.w _ _ _ (.lst _) from ⟨?_, acc.toList, c', ?_, ?_⟩), rfl, q _ (I2.hok.fresh (Nat.le_refl _))⟩
        · rw [List.length_map, List.length_range, sizeLine_eq]; omega
        · have e : acc.toList.length = n := by rw [Array.length_toList]; exact hi.1
          rw [← e]
          refine vals_of_get acc.toList _ fun j u hj => ?_
          obtain ⟨t, rfl⟩ := hi.2 j u (by rw [← hj, Array.getElem?_toList])
          exact ⟨t, rfl⟩
        · rw [Array.toArray_toList]; exact e'
def pListRg3 (pa : PAx) : PAx := fun s M => (pa s M).bind fun ws M1 => match allD ws with
  | some [.int i, .int j, .int c] => if c ≠ 0 ∧ c.natAbs < 1073741824 ∧ Builtin.Range.small i j c = true ∧ 0 ≤ Builtin.Range.rangeSize i j c ∧ Builtin.Range.rangeSize i j c ≤ 1000000 then
      .ok ((List.range (Builtin.Range.rangeSize i j c).toNat).map fun k => .d (.int (i + (k : Nat) * c))) M1 else .stuck
  | _ => .stuck
theorem jl_listRg3 {a b c : Expr} {pa : PAx} {p p2 pos pos2 : Pos} (hc : X.calm = true) (hm : X.mg "list" = none) (hm2 : X.mg "range" = none) (ha : JA X w [a, b, c] pa) (hg : Gl X "list" := by rfl) (hg2 : Gl X "range" := by rfl)
    (na : starEach [.Call (.Name "range" p2) [a, b, c] [] pos2] X.env = (false, eval (.Call (.Name "range" p2) [a, b, c] [] pos2) X.env) :: starEach [] X.env := by rfl)
    (hs : starEach [a, b, c] X.env = (false, eval a X.env) :: starEach [b, c] X.env := by rfl) (hpl : (backTo pos2 (starEach [b, c] X.env)).any (·.1) = false := by rfl) :
    JL X w (.Call (.Name "list" p) [.Call (.Name "range" p2) [a, b, c] [] pos2] [] pos) (pListRg3 pa) := by
  obtain ⟨t, e1, s1⟩ := ha
  refine ⟨_, pe_listRg3 hc hg hm hg2 hm2 e1 na hs hpl, fun H0 Hb0 as Hb H M σ s r S Q g => ?_⟩
  refine Good.bind s1 r S g fun vs ws as1 Hb1 H1 M1 r1 f1 S1 w1 g1 => ?_
  cases hd : allD ws with
  | none => simp only [hd] at g1; exact (show False from g1).elim
  | some ds =>
    simp only [hd] at g1
    match ds, hd, g1 with
    | [.int i, .int j, .int c], hd, g1 =>
      simp only at g1
      by_cases hcond : c ≠ 0 ∧ c.natAbs < 1073741824 ∧ Builtin.Range.small i j c = true ∧ 0 ≤ Builtin.Range.rangeSize i j c ∧ Builtin.Range.rangeSize i j c ≤ 1000000
      · rw [if_pos hcond] at g1
        obtain ⟨c1, c2, c3, c4, c5⟩ := hcond
        have ev := ints_vs (ns := [i, j, c]) (of_dzAll (allD_ok w1 hd)).1 rfl
        subst ev
        have hn : (Builtin.Range.rangeSize i j c).toNat ≤ 1000000 := by omega
        refine ⟨i, j, c, (Builtin.Range.rangeSize i j c).toNat, rfl, ⟨c1, c2, c3, by omega⟩, by omega, fun q hq => ?_⟩
        have e6 : (1000000 : Nat) ≤ sizeLine := by decide
        refine Good.ok g1 (r1.newAny hq) ⟨q, _, rfl, upd_same, by rw [List.length_map, List.length_range]; omega, ?_, fun hm => r1.al q hm hq, r1.hbn hq, r1.h0n hq⟩
        generalize (Builtin.Range.rangeSize i j c).toNat = n
        have : ∀ l : List Nat, WRs X.K as1 Hb1 (l.map fun k => V.int (i + (k : Nat) * c)) (l.map fun k => W.d (.int (i + (k : Nat) * c))) := by
          intro l
          induction l with
          | nil => exact .nil
          | cons a l ih => exact .cons (wr_int _) ih
        exact this _
      · rw [if_neg hcond] at g1
        exact (show False from g1).elim
end
end Z

set_option linter.all false
set_option autoImplicit false
set_option maxRecDepth 100000
set_option maxHeartbeats 4000000
/-! Z23: sets of texts made by a comprehension: sorted({..}), len({..}). -/
namespace Z
open PySem PySem.Spec PyProof.Rows L2 L2H
def addU (l : List Str) (k : Str) : List Str := if k ∈ l then l else l ++ [k]
/-- the set of texts at a: its members as they were met, once each -/
def SetTx (P : Program) (w : World) (h : Heap) (a : Addr) (l : List Str) : Prop :=
  ∃ D : PySem.Froz.SD, h.get? a = some (PySem.Froz.sObj "set" D) ∧ PySem.Froz.TxOk P w D l ∧ l.Nodup ∧ l.length < 1000 ∧ Ris D.2.2.place.toList ∧ (w.params.followText "set-order" = true ∨ D.2.2.led = true)
theorem TxOk_perm {P : Program} {w : World} {D : PySem.Froz.SD} {l m : List Str} (p : l.Perm m) (F : PySem.Froz.TxOk P w D l) : PySem.Froz.TxOk P w D m :=
  ⟨F.el, fun k => p.mem_iff.symm.trans (F.mem k), F.sz.trans p.length_eq, F.fit⟩
theorem addTx_more (h : Int) (v : Value) (D : PySem.Froz.SD) (r : Ris D.2.2.place.toList) : Ris (PySem.Froz.addTx h v D).2.2.place.toList ∧ (PySem.Froz.addTx h v D).2.2.led = D.2.2.led := by
  have r1 := layNew_ris D.2.2 D.1 h v r
  have l1 := layNew_led D.2.2 D.1 h v
  unfold PySem.Froz.addTx
  generalize layNew D.2.2 D.1 h v = Zn at r1 l1 ⊢
  have r2 : Ris (if Zn.2.1.plain = true then { Zn.2.1 with plain := false } else Zn.2.1).place.toList := by split <;> exact r1
  have l2 : (if Zn.2.1.plain = true then { Zn.2.1 with plain := false } else Zn.2.1).led = D.2.2.led := by split <;> exact l1
  generalize (if Zn.2.1.plain = true then { Zn.2.1 with plain := false } else Zn.2.1) = t2 at r2 l2 ⊢
  unfold PySem.Froz.tailTx
  split
  · exact ⟨relayAll_ris _ _ _, (relayAll_led _ _ _).trans l2⟩
  · exact ⟨r2, l2⟩
section
variable {P : Program} {w : World} {A : Around} {E : Value → Shared → Prop} {s : Shared} {a : Addr} {l : List Str}
theorem SetTx.keep {h h' : Heap} (R : SetTx P w h a l) (k : ∀ o, h.get? a = some o → h'.get? a = some o) : SetTx P w h' a l := by
  obtain ⟨D, ho, r⟩ := R
  exact ⟨D, k _ ho, r⟩
theorem upd_but (h : Heap) (b : Addr) (f : Obj → Obj) : Heap.SameBut b h (h.update b f) := Heap.SameBut.update h b f
/-- it is there already -/
theorem add_there {D : PySem.Froz.SD} {k : Str} {tk : Tok} {Q : Bool → Shared → Prop} (ho : s.heap.get? a = some (PySem.Froz.sObj "set" D)) (F : PySem.Froz.TxOk P w D l) (hk : k ∈ l) (hb : l.length < scanBound) (h : Q false s) :
    wpAny (model P w) A (setAddHashed a (.str k tk) (hashStr w k)) Q E s := by
  obtain ⟨es, ep, t⟩ := D
  have hd : (PySem.Froz.sObj "set" (es, ep, t)).data = .set es ep t := rfl
  have hsz : es.size < scanBound := by
    have z : es.size = l.length := F.sz
    omega
  have key : (strKind P w).is k (.str k tk) = true := PySem.Froz.is_str k tk
  obtain ⟨e0, he0, hp0⟩ := (F.mem k).mp hk
  unfold setAddHashed setAddHashedIn
  refine wpAny_holding (wpAny_bind (wpAny_setState_of ho hd F.fit ?_))
  have hby : byScan (.str k tk) es = true := byScan_of rfl hsz F.el
  simp only [hby, if_true]
  unfold setAddByScan
  refine wpAny_bind (wpAny_bind (wpAny_rule (wpAny_bind (wpAny_setScan_of key ho hd F.fit F.el ?_))))
  cases hf : List.findIdx? (fun e => (strKind P w).is k e.2) es.toList with
  | none =>
    have z := List.findIdx?_eq_none_iff.mp hf e0 he0
    rw [hp0] at z
    cases z
  | some j => exact wpAny_pure (wpAny_pure h)
theorem setTx_add_hashed {k : Str} {tk : Tok} {Q : Bool → Shared → Prop} (R : SetTx P w s.heap a l) (room : l.length + 1 < 1000)
    (hQ : ∀ b h', Heap.SameBut a s.heap h' → SetTx P w h' a (addU l k) → Q b { s with heap := h' }) : wpAny (model P w) A (setAddHashed a (.str k tk) (hashStr w k)) Q E s := by
  obtain ⟨D, ho, F, nd, hl, hr, hled⟩ := R
  have e4 : scanBound = 4096 := rfl
  by_cases hk : k ∈ l
  · refine add_there ho F hk (by omega) ?_
    have q := hQ false s.heap (Heap.SameBut.refl a s.heap) (by unfold addU; rw [if_pos hk]; exact ⟨D, ho, F, nd, hl, hr, hled⟩)
    exact q
  · refine PySem.Froz.add_x ho F hk (by omega) (hQ true _ (upd_but _ _ _) ?_)
    obtain ⟨m1, m2⟩ := addTx_more (hashStr w k) (.str k tk) D hr
    unfold addU
    rw [if_neg hk]
    refine ⟨_, PySem.Froz.get_upd _ ho rfl, TxOk_perm (List.perm_append_singleton _ _).symm (PySem.Froz.add_ok tk F), ?_, by simpa using room, m1, hled.imp id fun z => by rw [m2]; exact z⟩
    rw [List.nodup_append]
    exact ⟨nd, by simp, fun x hx y hy => by
      have e : y = k := by simpa using hy
      subst e
      exact fun z => hk (z ▸ hx)⟩
theorem SetTx.isSet (R : SetTx P w s.heap a l) : s.TypeIs (.ref a) "set" := by
  obtain ⟨D, ho, _⟩ := R
  exact ⟨_, ho, rfl⟩
theorem setTx_add {k : Str} {tk : Tok} {Q : Value → Shared → Prop} (R : SetTx P w s.heap a l) (room : l.length + 1 < 1000)
    (hQ : ∀ h' m, Heap.SameBut a s.heap h' → SetTx P w h' a (addU l k) → Q .none { s with heap := h', toks := m }) : wpAny (model P w) A (call (.builtin "set.add") [.ref a, .str k tk]) Q E s := by
  refine wpAny_call_entry F.slot_set_add R.isSet F.entry_set_add ?_ (F.args_set_add_2 _ _)
  unfold Builtin.«set.add» Builtin.Frozenset.oneOther Builtin.Frozenset.addrOf setAdd
  simp only [List.isEmpty_nil, bind_assoc]
  iterate 2 (refine wpAny_bind (wpAny_pure ?_); try dsimp only)
  refine wpAny_bind (wpAny_holding (wpAny_bind ((strKind P w).pyHash (PySem.Froz.is_str k tk) ?_)))
  refine setTx_add_hashed (s := { s with toks := s.toks + 1 }) R room fun b h' sb r => ?_
  show wpAny _ _ (ret Value.none) _ _ _
  exact wpAny_pure ⟨_, rfl, hQ h' _ sb r⟩
theorem setTx_fresh {h : Heap} : SetTx P w (h.push { cls := .type "set", dict := none, data := .set #[] 0 (.fresh 0 0 (!w.params.followText "set-order")) }) h.objs.size [] :=
  ⟨(#[], 0, .fresh 0 0 (!w.params.followText "set-order")), Heap.get?_push_size _ rfl, PySem.Froz.TxOk.nil (by rfl), List.nodup_nil, by decide, List.Pairwise.nil, by
    show _ ∨ (!w.params.followText "set-order") = true
    cases w.params.followText "set-order"
    · exact .inr rfl
    · exact .inl rfl⟩
end
/-- .. as a tracked thing -/
def SetXO (P : Program) (w : World) (a : Addr) (l : List Str) : HO := .ext fun h => SetTx P w h a l
theorem setXO_new {w : World} {P : Program} {H : Hp} {h : Heap} {a : Addr} {l : List Str} (R : SetTx P w h a l) : ObjOk P w H h a (SetXO P w a l) := by
  have R' := R
  obtain ⟨D, ho, _⟩ := R'
  exact ⟨R, ⟨_, ho⟩, fun h1 h2 p k => p.keep k⟩
section
variable {X : Cx}
theorem setXO_get {pins : List (Addr × Obj)} {σ : L2.St} {H : Hp} {s : Shared} {a : Addr} {l : List Str} (I : Inv X pins σ H s) (ha : H a = some (SetXO X.prog X.w a l)) : SetTx X.prog X.w s.heap a l := (I.hok a _ ha).1
theorem addX_ok {pins : List (Addr × Obj)} {σ : L2.St} {H : Hp} {s : Shared} {E : Value → Shared → Prop} {D : Addr} {l : List Str} {y : Str} {tk : Tok} {Q : Value → Shared → Prop} (I : Inv X pins σ H s) (hD : H D = some (SetXO X.prog X.w D l)) (room : l.length + 1 < 1000)
    (h : ∀ s', Inv X pins σ (upd H D (SetXO X.prog X.w D (addU l y))) s' → Q .none s') : wpAny (model X.prog X.w) X.A (call (.builtin "set.add") [.ref D, .str y tk]) Q E s := by
  refine setTx_add (setXO_get I hD) room fun h' m sb new => ?_
  have he : ∃ u, h'.get? D = some u := by
    obtain ⟨D', ho, _⟩ := new
    exact ⟨_, ho⟩
  exact h _ (I.write (e := D) (t' := m) (by rw [hD]; trivial) (.inl rfl) (fun b u hb hu => (sb.2 b hb).trans hu) he (setXO_new new))
/-! ### the comprehension -/
def tScX (P : Program) (w : World) (wi : TI) (g : TG) (tt : TT) (te : TE) (vs : List Nat) : TE := fun σ H Q => wi σ H fun J H1 => ∀ D, H1 D = none → ∃ W : Nat → Nat → Hp → Prop, (∃ m, W 0 m (upd H1 D (SetXO P w D []))) ∧ ∀ i m H, W i m H →
  (J.stop i H ∧ Q (.ref D) H) ∨ (J.go i H ∧ ∃ Nx : Hp → Prop, (∀ H', Nx H' → ∃ m', m' < m ∧ W (i + 1) m' H') ∧ ∀ x H', J.yld i H x H' → g x (wipe σ vs) H' fun σ2 H2 => wipe σ2 vs = wipe σ vs ∧ tt σ2 H2 fun b H3 =>
    if b = true then te σ2 H3 fun y H4 => ∃ (c : Str) (l : List Str), y = .str c ∧ H4 D = some (SetXO P w D l) ∧ l.length + 1 < 1000 ∧ Nx (upd H4 D (SetXO P w D (addU l c))) else Nx H3)
theorem pe_scX {elt tg iter : Expr} {ifs : List Expr} {scope : Scope} {own : List (Str × Nat)} {pos : Pos} {wi : TI} {g : TG} {tt : TT} {te : TE} (hc : X.calm = true) (hN : X.N.Nodup) (hi : PI X tg iter wi) (ok : BlkOk X.N X.env.scope scope own)
    (hg : ∀ (s : Shared) (H : Hp) (C : Addr) (cl : List (Str × Addr)) (fp : List Addr), PG (X.blk s H scope (compEnvC scope cl C X.env) fp) tg g) (ht : ∀ (s : Shared) (H : Hp) (C : Addr) (cl : List (Str × Addr)) (fp : List Addr), PTs (X.blk s H scope (compEnvC scope cl C X.env) fp) ifs tt)
    (he : ∀ (s : Shared) (H : Hp) (C : Addr) (cl : List (Str × Addr)) (fp : List Addr), PE (X.blk s H scope (compEnvC scope cl C X.env) fp) elt te) (hs : ∀ x, foldedSetIterable iter X.env x = pure x := by intro _; rfl) :
    PE X (.SetComp elt [⟨tg, iter, ifs, 0⟩] scope pos) (tScX X.prog X.w wi g tt te (own.map (·.2))) := by
  refine ⟨fun pins s σ H Q I h => ?_⟩
  have hRR : ∀ D C s' m H', Inv X pins σ H' s' → Q (.ref D) H' → s'.heap.Ns C m → FpOk X pins H' C → compPost (model X.prog X.w) X.A X.xe none (EP X pins σ Q) (.ref D) C (.ok .next) s' := fun D C s' m H' I' q hn f => ⟨m, hn, fun h'' sb => by
    obtain ⟨f0, f1, f2, f3, f4, f5⟩ := f
    exact ⟨.ref D, H', I'.turned (t' := s'.toks) (fun b o hb e => (sb.2 b hb).trans e) f0 f1 f3 f4 f5, rfl, q⟩⟩
  rw [PpSet.eval_SetComp]
  have hfree : ∀ y ∈ scope.names, y.2 = .free → ∃ c, X.env.cells.lookup y.1 = some c := fun y hy e => (ok.free y hy e).elim (fun z => I.ok.has _ (.inl z)) fun z => I.ok.has _ (.inr z)
  refine wpAny_comprehension_free (use := none) rfl hs (closure_ok hfree) ok.kind (fun y hy e => by rw [ok.uniq y hy, e]) (thn (hi.run pins s σ H _ I h) fun xv s1 hx => thn hx fun itv s2 h2 => ?_)
  obtain ⟨it, fp, tn, J, H2, e, I2, T, st2, f2, q⟩ := h2
  subst e
  refine PpSet.newSet_ok (newEnv_comp ?_)
  obtain ⟨D, hD⟩ : ∃ D, D = s2.heap.objs.size := ⟨_, rfl⟩
  rw [← hD]
  have hDn : H2 D = none := I2.hok.fresh (Nat.le_of_eq hD.symm)
  obtain ⟨W, ⟨m0, w0⟩, turn⟩ := q D hDn
  obtain ⟨ob, hob⟩ : ∃ ob : Obj, ob = { cls := .type "set", dict := none, data := .set #[] 0 (.fresh 0 0 (!X.w.params.followText "set-order")) } := ⟨_, rfl⟩
  rw [← hob]
  obtain ⟨s3, hs3⟩ : ∃ s3 : Shared, s3 = { s2 with heap := s2.heap.push ob } := ⟨_, rfl⟩
  have new : SetTx X.prog X.w (s2.heap.push ob) D [] := by rw [hob, hD]; exact setTx_fresh
  have I3 : Inv X pins σ (upd H2 D (SetXO X.prog X.w D [])) s3 := by
    rw [hs3]
    exact I2.laid (t' := s2.toks) (fun b o e => Heap.get?_push_of_some _ e) (Nat.le_of_eq hD.symm) (setXO_new new)
  have h3 : s3.heap = s2.heap.push ob := by rw [hs3]
  have f3 : ∀ b ∈ fp, FpOk X pins (upd H2 D (SetXO X.prog X.w D [])) b ∧ b < s3.heap.objs.size := fun b hb => by
    obtain ⟨o, e, _⟩ := T.obj _ _ st2 b hb
    have hlt : b < s2.heap.objs.size := Heap.lt_size e
    exact ⟨⟨by rw [upd_ne (by rw [hD]; exact Nat.ne_of_lt hlt)]; exact (f2 b hb).1, (f2 b hb).2⟩, by rw [h3, Heap.size_push]; exact Nat.lt_succ_of_lt hlt⟩
  have st3 : tn 0 s3.heap := T.keep _ _ _ st2 fun b _ o e => by rw [h3]; exact Heap.get?_push_of_some _ e
  have I4 := block_start I3 ok hN f3
  obtain ⟨C, hC⟩ : ∃ C, C = s3.heap.objs.size := ⟨_, rfl⟩
  obtain ⟨cl, hcl⟩ : ∃ cl, cl = cellsFrom (C + 1) scope.names (cloFrom X.env.cells scope.names []) := ⟨_, rfl⟩
  obtain ⟨H3, hH3⟩ : ∃ H3, H3 = upd H2 D (SetXO X.prog X.w D []) := ⟨_, rfl⟩
  have pg := hg s3 H3 C cl fp
  have pt := ht s3 H3 C cl fp
  have pe := he s3 H3 C cl fp
  have I4' : Inv (X.blk s3 H3 scope (compEnvC scope cl C X.env) fp) [] (wipe σ (own.map (·.2))) H3 { s3 with heap := pushCells (s3.heap.push { cls := .type "dict", data := .dict #[] }) scope.names } := by
    rw [hcl, hC, hH3]; exact I4
  have goal : codeAny (model X.prog X.w) X.A (.compStart (.SetComp elt [⟨tg, iter, ifs, 0⟩] scope pos) 0 (.ref it) (.ref D) (compEnvC scope cl C X.env)) (compPost (model X.prog X.w) X.A X.xe none (EP X pins σ Q) (.ref D) C)
      { s3 with heap := pushCells (s3.heap.push { cls := .type "dict", data := .dict #[] }) scope.names } := by
    rw [← hH3] at I3 f3 w0
    have nfp : ∀ b ∈ fp, H3 b = none := fun b hb => (f3 b hb).1.1
    obtain ⟨ce, hce⟩ : ∃ ce, ce = compEnvC scope cl C X.env := ⟨_, rfl⟩
    rw [← hce] at pg pt pe I4' ⊢
    have cL : ce.locals = C := by rw [hce]; rfl
    obtain ⟨s4, hs4⟩ : ∃ s4 : Shared, s4 = { s3 with heap := pushCells (s3.heap.push { cls := .type "dict", data := .dict #[] }) scope.names } := ⟨_, rfl⟩
    rw [← hs4] at I4' ⊢
    have st4 : tn 0 s4.heap := T.keep _ _ _ st3 fun b _ o e => by rw [hs4]; exact pushCells_keeps _ _ _ _ (Heap.get?_push_of_some _ e)
    have stat : ∀ {σ' : L2.St} {H' : Hp} {s' : Shared}, Inv (X.blk s3 H3 scope ce fp) [] σ' H' s' → (∀ b ∈ fp, H' b = none) → ∀ b ∈ fp, FpOk (X.blk s3 H3 scope ce fp) [] H' b := fun {σ' H' s'} I' hn b hb =>
      ⟨hn b hb, (I'.ok.exf b hb).1, I'.ok.exfs b hb, .inl hb, fun x c e => (I'.ok.exf b hb).2 x c e, fun p hp => absurd (show p ∈ ([] : List (Addr × Obj)) ++ [] from hp) (by simp)⟩
    refine PpSet.codeAny_compStart_set ?_ (T.self X.A 0 _ _ _ st4 ?_)
    all_goals
      refine PpSet.compLoopS_any (fun n s' => ∃ i H', Inv (X.blk s3 H3 scope ce fp) [] (wipe σ (own.map (·.2))) H' s' ∧ tn i s'.heap ∧ (∀ b ∈ fp, H' b = none) ∧ W i n H') ?_ m0 ⟨0, H3, I4', st4, nfp, w0⟩
      rintro n s5 ⟨i, H5, I5, st5, n5, w5⟩
      rcases turn i n H5 w5 with ⟨stop, qq⟩ | ⟨go, Nx, hNx, step⟩
      · refine thnF (T.done (X.blk s3 H3 scope ce fp) rfl rfl rfl hc i [] s5 _ H5 (fun _ _ => False) I5 (stat I5 n5) st5 stop) fun r s6 ⟨hr, I6⟩ => ?_
        subst hr
        have I7 : Inv X pins σ H5 s6 := I3.call' (ch := fp) I6.os I6.base I6.hok I6.bare fun b hb => ⟨(f3 b hb).1.2.2.2.1, (f3 b hb).1.2.1, (f3 b hb).1.2.2.2.2.1, (f3 b hb).1.2.2.2.2.2⟩
        have nC : H5 C = none := by rw [← cL]; exact I6.free
        obtain ⟨m, hn, _⟩ := I6.loc
        exact hRR D C s6 m H5 I7 qq (cL ▸ (show s6.heap.Ns ce.locals m from hn)) (I3.fpOk (Nat.le_of_eq hC.symm) nC)
      · refine thnF (T.item (X.blk s3 H3 scope ce fp) rfl rfl rfl hc i [] s5 _ H5 (fun _ _ => False) I5 (stat I5 n5) st5 go) fun r s6 ⟨u, hr, h6⟩ => ?_
        subst hr
        refine thnF h6 fun _ s7 ⟨x, H7, I7, r7, y7, st7, n7⟩ => ?_
        refine thnF (pg.run _ s7 _ H7 x u _ (I7.pinned (stat I7 n7) (T.obj _ _ st7)) r7 (step x H7 y7)) fun _ s8 ⟨σ8, H8, I8, hw8, q8⟩ => ?_
        refine thnF (pt.run _ s8 σ8 H8 _ I8 q8) fun b s9 ⟨H9, I9, q9⟩ => ?_
        have fin : ∀ {s' : Shared} {H' : Hp}, Inv (X.blk s3 H3 scope ce fp) ([] ++ pinsAt fp s7.heap) σ8 H' s' → Nx H' → ∃ m, m < n ∧ ∃ i H', Inv (X.blk s3 H3 scope ce fp) [] (wipe σ (own.map (·.2))) H' s' ∧ tn i s'.heap ∧ (∀ b ∈ fp, H' b = none) ∧ W i m H' := fun {s' H'} I' nx => by
          obtain ⟨m', hm, w'⟩ := hNx H' nx
          have pin' : ∀ b ∈ fp, ∀ o, s7.heap.get? b = some o → s'.heap.get? b = some o ∧ H' b = none := fun b hb o e =>
            let z := I'.pin (b, o) (List.mem_append_right _ (List.mem_append_right _ (mem_pinsAt hb e)))
            ⟨z.1, z.2.1⟩
          refine ⟨m', hm, i + 1, H', (I'.unpinned (pins := [])).weak (by rw [← hw8, wipe_length]) (fun j v e => ?_), T.keep _ _ _ st7 fun b hb o e => (pin' b hb o e).1, fun b hb => ?_, w'⟩
          · rw [← hw8] at e
            exact (wipe_some e).1
          · obtain ⟨o, e, _⟩ := T.obj _ _ st7 b hb
            exact (pin' b hb o e).2
        cases b with
        | false =>
          simp only [Bool.false_eq_true, if_false] at q9 ⊢
          exact fin I9 q9
        | true =>
          simp only [if_true] at q9 ⊢
          refine thnF (pe.run _ s9 σ8 H9 _ I9 q9) fun z s10 ⟨yv, H10, I10, r10, cb, l0, ey, hD10, hz10, nx⟩ => ?_
          subst ey
          obtain ⟨tk, rfl⟩ := (show ∃ t, z = Value.str cb t from r10)
          exact addX_ok (X := X.blk s3 H3 scope ce fp) I10 hD10 hz10 fun s11 I11 => fin I11 nx
  rw [hcl, hC] at goal
  rw [hs3] at goal
  exact goal
/-! ### sorted, len of it -/
theorem perm_of_sub {α : Type} [DecidableEq α] : ∀ {l m : List α}, l.Nodup → (∀ x ∈ l, x ∈ m) → m.length = l.length → m.Perm l
  | [], m, _, _, h => by
    have : m = [] := List.length_eq_zero_iff.mp h
    rw [this]
  | x :: l, m, nd, h, hl => by
    have hx : x ∈ m := h x List.mem_cons_self
    obtain ⟨nx, nd'⟩ := List.nodup_cons.mp nd
    have p : m.Perm (x :: m.erase x) := List.perm_cons_erase hx
    have hlen := p.length_eq
    have ih := perm_of_sub (m := m.erase x) nd' (fun y hy => by
      have ne : y ≠ x := fun z => nx (z ▸ hy)
      exact (List.mem_erase_of_ne ne).mpr (h y (List.mem_cons_of_mem _ hy))) (by simp only [List.length_cons] at hlen hl ⊢; omega)
    exact p.trans (ih.cons x)
def keyT : Value → Str
  | .str k _ => k
  | _ => Str.empty
theorem each_strs : ∀ {vs : List Value}, (∀ v ∈ vs, ∃ k t, v = Value.str k t) → PySem.W.EachIs (fun (v : Value) (k : Str) => ∃ t, v = .str k t) vs (vs.map keyT)
  | [], _ => .nil
  | v :: vs, h => by
    obtain ⟨k, t, e⟩ := h v List.mem_cons_self
    subst e
    exact .cons ⟨t, rfl⟩ (each_strs fun u hu => h u (List.mem_cons_of_mem _ hu))
theorem each_vals_str : ∀ {out : List Value} {bs : List Str}, PySem.W.EachIs (fun (v : Value) (k : Str) => ∃ t, v = .str k t) out bs → Vals (bs.map V.str) out
  | _, _, .nil => .nil
  | _, _, .cons h t => .cons h (each_vals_str t)
def rSortedX (P : Program) (w : World) : List V → Hp → VK → Prop := fun vs H Q => ∃ (a : Addr) (l : List Str), vs = [.ref a] ∧ H a = some (SetXO P w a l) ∧ l.length < 1000 ∧ ∀ p, H p = none → Q (.ref p) (upd H p (.lst ((sortS l).map V.str)))
theorem cr_sortedX (hc : X.calm = true) (hu : X.A.units + 64 < cLine) : CallR X (.builtin "sorted") (rSortedX X.prog X.w) := by
  intro pins s σ H vs us Q I r h
  obtain ⟨a, l, rfl, ha, _, q⟩ := h
  obtain ⟨⟨es, ep, t⟩, ho, F, nd, hl, hr, hled⟩ := setXO_get I ha
  rw [Vals.ref1 r]
  have hsz : es.size = l.length := F.sz
  have hb : es.size < scanBound := by
    have e4 : scanBound = 4096 := rfl
    omega
  refine Calls.call_function_entry kind_sorted plain_sorted entry_sorted (args_sorted1 _) ?_
  unfold Builtin.«sorted»
  refine wpAny_bind (m := checkCount "sorted" 1 1 _) (wpAny_pure (wpAny_bind ?_))
  refine collect_set (A := X.A.in1) (I.ok.hd hc) ⟨_, ho, rfl, rfl⟩ F.fit hb hr hled fun s1 its k1 hz g1 o1 pm => ?_
  have allS : ∀ v ∈ its, ∃ k t, v = Value.str k t := fun v hv => by
    obtain ⟨e, he, rfl⟩ := List.mem_map.mp (pm.mem_iff.mp hv)
    obtain ⟨⟨k, hk, _⟩, _⟩ := F.el e he
    obtain ⟨t, e2⟩ := Value.isStrOf_shape (show Value.isStrOf k e.2 = true from hk)
    exact ⟨k, t, e2⟩
  have pl : (its.map keyT).Perm l := by
    refine perm_of_sub nd (fun k hk => ?_) ?_
    · obtain ⟨e, he, hke⟩ := (F.mem k).mp hk
      obtain ⟨t, e2⟩ := Value.isStrOf_shape (show Value.isStrOf k e.2 = true from hke)
      exact List.mem_map.mpr ⟨e.2, pm.mem_iff.mpr (List.mem_map.mpr ⟨e, he, rfl⟩), by rw [e2]; rfl⟩
    · rw [List.length_map, pm.length_eq, List.length_map, Array.length_toList]
      exact hsz
  have hlen : its.length = l.length := by rw [← pl.length_eq, List.length_map]
  have e6 : (1000 : Nat) ≤ sizeLine := by decide
  refine wpAny_bind (wpAny_newList ?_ (by rw [hlen]; omega))
  have hoL : (s1.heap.push (seqObj "list" its.toArray 0)).get? s1.heap.objs.size = some (seqObj "list" its.toArray 0) := Heap.get?_push_size _ rfl
  have each := each_strs allS
  have er : ∀ (h : Heap), PySem.W.EachIs (fun (v : Value) (k : Str) => ∃ as, PySem.Reads h v (PyData.str k) as ∧ s1.heap.objs.size ∉ as) its (its.map keyT) := fun h => each.mono fun v k ⟨t, e⟩ => ⟨[], by rw [e]; exact .str _ _, by simp⟩
  refine wpAny_bind (wpAny_holding (PySem.W.list_sort_data (enc := PyData.str) hoL each (er _) (fun d hd d' hd' => ?_) (.inr fun d hd => ?_) (by rw [List.length_map, hlen]; omega) (fun k _ => ?_) fun out hol he => ?_))
  · obtain ⟨k, _, rfl⟩ := List.mem_map.mp hd
    obtain ⟨k', _, rfl⟩ := List.mem_map.mp hd'
    simp [PySem.W.alike]
  · obtain ⟨k, _, rfl⟩ := List.mem_map.mp hd
    exact ⟨fun z => (by cases z), fun xs z => (by cases z)⟩
  · have e1 : X.A.in1.units ≤ X.A.units + 1 := by first | exact Nat.le_refl _ | simp [Around.in1]
    simp only [PyData.depth]
    omega
  · obtain ⟨c, hcc⟩ := sortedHeap_at (vs := its) (out := out.toArray) hoL
    have hv := each_vals_str he
    have hs : (its.map keyT).mergeSort (PySem.W.dataLe false PyData.str) = sortS l := sortS_uniq ((List.mergeSort_perm _ _).trans pl) (sortS_pw _)
    rw [hs] at hv
    refine wpAny_pure ⟨_, rfl, ?_⟩
    have keepAll : ∀ b o, s.heap.get? b = some o → (sortedHeap (s1.heap.push (seqObj "list" its.toArray 0)) s1.heap.objs.size its out.toArray).get? b = some o := fun b o e => by
      have q1 := k1 b o e
      have hlt := Heap.lt_size q1
      rw [sortedHeap_old (Nat.ne_of_lt hlt) (by rw [size_push']; exact Nat.lt_succ_of_lt hlt)]
      exact Heap.get?_push_of_some _ q1
    have hn : H s1.heap.objs.size = none := I.hok.fresh hz
    have hsl : ((sortS l).map V.str).length ≤ sizeLine := by rw [List.length_map, (sortS_perm l).length_eq]; omega
    have hcc' : (sortedHeap (s1.heap.push (seqObj "list" its.toArray 0)) s1.heap.objs.size its out.toArray).get? s1.heap.objs.size = some (seqObj "list" out.toArray c) := hcc
    obtain ⟨h2, eh2⟩ : ∃ h2, h2 = sortedHeap (s1.heap.push (seqObj "list" its.toArray 0)) s1.heap.objs.size its out.toArray := ⟨_, rfl⟩
    rw [← eh2] at keepAll hcc'
    show EP X pins σ Q (.ref s1.heap.objs.size) { s1 with heap := sortedHeap (s1.heap.push (seqObj "list" its.toArray 0)) s1.heap.objs.size its out.toArray }
    rw [← eh2]
    have J : Inv X pins σ (upd H s1.heap.objs.size (.lst ((sortS l).map V.str))) { s with heap := h2, gens := s1.gens, drawn := s1.drawn, toks := s1.toks } :=
      I.call (ch := []) (Un.laid keepAll hz hn) (I.hok.laid keepAll hz ⟨hsl, out, c, hv, hcc'⟩) (by rw [g1]; exact I.bare) (fun _ z => nomatch z)
    have e : ({ s1 with heap := h2 } : Shared) = { s with heap := h2, gens := s1.gens, drawn := s1.drawn, toks := s1.toks } := by
      cases s1
      cases s
      cases o1
      rfl
    rw [e]
    exact ⟨.ref _, _, J, rfl, q _ hn⟩
def rLenX (P : Program) (w : World) : List V → Hp → VK → Prop := fun vs H Q => ∃ (a : Addr) (l : List Str), vs = [.ref a] ∧ H a = some (SetXO P w a l) ∧ Q (.int l.length) H
theorem cr_lenX : CallR X (.builtin "len") (rLenX X.prog X.w) := by
  intro pins s σ H vs us Q I r h
  obtain ⟨a, l, rfl, ha, q⟩ := h
  obtain ⟨⟨es, ep, t⟩, ho, F, nd, hl, hr, hled⟩ := setXO_get I ha
  rw [Vals.ref1 r]
  have hsz : es.size = l.length := F.sz
  exact call_len_set ho ⟨rfl, rfl, rfl⟩ rfl F.fit (by rw [hsz]; omega) ⟨.int l.length, H, (I.tok _), ⟨_, by rw [hsz]⟩, q⟩
end
end Z

set_option linter.all false
set_option autoImplicit false
set_option maxRecDepth 100000
set_option maxHeartbeats 4000000
/-! Z24: plain readings of sorted({..}), len({..}); a comprehension over what changes not meanwhile; never reached. -/
namespace Z
open PySem PySem.Spec PyProof.Rows L2 L2H
def scL (g : PGx) (tt : PTx) (te : PEx) (s : Sl) : List W → List Str → Ms → R (List Str)
  | [], acc, M => .ok acc M
  | x :: ws, acc, M => match g x s M with
    | none => .stuck
    | some s1 => (tt s1 M).bindN fun b M1 => if b = true then (te s1 M1).bindN fun y M2 => match y with
      | .d (.str c) => scL g tt te s ws (addU acc c) M2
      | _ => .stuck
      else scL g tt te s ws acc M1
def pScX {α : Type} (f : List Str → Ms → R α) (it : PAx) (g : PGx) (tt : PTx) (te : PEx) (vs : List Nat) : Sl → Ms → R α := fun s M => (it s M).bind fun ws M1 => if ws.length < 999 then (scL g tt te (wipeS s vs) ws [] M1).bindN f else .stuck
def pSortSc := pScX (α := List W) fun l M => .ok (strsW (sortS l)) M
def pLenSc := pScX (α := W) fun l M => .ok (.d (.int l.length)) M
theorem addU_len (l : List Str) (k : Str) : (addU l k).length ≤ l.length + 1 := by
  unfold addU
  split
  · omega
  · simp
section
variable {X : Cx} {w : WX}
theorem sim_scX {β α : Type} {rep : Rep β α} {f : List Str → Ms → R α} {wi : TI} {it : PAx} {pg : PGx} {tt : PTx} {te : PEx} {is vs : List Nat} {r : List V → Hp → (β → Hp → Prop) → Prop} (hv : ∀ i ∈ is, i ∈ vs) (si : Sim (repI X.K) X.K X.mg w wi it)
    (hf : ∀ (H0 Hb0 : Hp) (as : List Addr) (Hb H : Hp) (M : Ms) (σ : L2.St) (l : List Str) (D : Addr) (Q : β → Hp → Prop), Rel X.K H0 Hb0 as Hb H M → H D = some (SetXO X.prog X.w D l) → l.length < 1000 → (∀ k ∈ l, k.length ≤ sizeLine) → Good rep X.K X.mg w H0 Hb0 as Hb σ Q (f l M) → r [.ref D] H Q) :
    Sim rep X.K X.mg w (fun σ H Q => tScX X.prog X.w wi (canonG X.K pg is) (canon repB X.K X.mg wNone tt) (canon (repW X.K) X.K X.mg wNone te) vs σ H fun v H1 => r [v] H1 Q) (pScX f it pg tt te vs) := by
  intro H0 Hb0 as Hb H M σ s r0 S Q g
  refine Good.bind si r0 S g fun J ws as1 Hb1 H1 M1 r1 f1 S1 io g1 => ?_
  intro D hD
  by_cases hz : ws.length < 999
  · rw [if_pos hz] at g1
    have Sw := slots_wipe S1 vs
    refine ⟨fun i m H' => m = ws.length - i ∧ i ≤ ws.length ∧ ∃ as' Hb' M' acc, Rel X.K (upd H0 D (SetXO X.prog X.w D acc)) Hb0 as' Hb' H' M' ∧ Fut as1 Hb1 as' Hb' ∧ acc.length ≤ i ∧ (∀ k ∈ acc, k.length ≤ sizeLine) ∧
        Good rep X.K X.mg w H0 Hb0 as' Hb' σ Q ((scL pg tt te (wipeS s vs) (ws.drop i) acc M').bindN f),
      ⟨ws.length, by simp, Nat.zero_le _, as1, Hb1, M1, [], ?_, Fut.refl, Nat.zero_le _, fun _ h => (by cases h), by simpa using g1⟩, ?_⟩
    · exact (r1.newAny hD).guard upd_same (r1.hbn hD) fun hm => r1.al D hm hD
    rintro i m H' ⟨rfl, hi, as', Hb', M', acc, r', f', hal, hsh, g'⟩
    have h0D : H0 D = none := r1.h0n hD
    have hb0D : Hb0 D = none := r1.b0.free (r1.hbn hD)
    obtain ⟨ru, hHD, hbD, nD⟩ := r'.unguard h0D hb0D
    obtain ⟨io1, io2⟩ := io _ Hb0 as' Hb' H' M' r' f' i
    by_cases hlt : i < ws.length
    · have hx : ws[i]? = some ws[i] := List.getElem?_eq_getElem hlt
      obtain ⟨go, yl⟩ := io1 _ hx
      rw [List.drop_eq_getElem_cons hlt] at g'
      refine .inr ⟨go, fun H2 => ∃ as2 Hb2 M2 acc2, Rel X.K (upd H0 D (SetXO X.prog X.w D acc2)) Hb0 as2 Hb2 H2 M2 ∧ Fut as1 Hb1 as2 Hb2 ∧ acc2.length ≤ i + 1 ∧ (∀ k ∈ acc2, k.length ≤ sizeLine) ∧
        Good rep X.K X.mg w H0 Hb0 as2 Hb2 σ Q ((scL pg tt te (wipeS s vs) (ws.drop (i + 1)) acc2 M2).bindN f), fun H2 z => ⟨ws.length - (i + 1), by omega, rfl, hlt, z⟩, fun v H2 hy => ?_⟩
      obtain ⟨Hb2, r2, f2, w2⟩ := yl v H2 hy
      have S2 := Sw.mono (f'.trans f2)
      cases hg : pg ws[i] (wipeS s vs) M' with
      | none => rw [scL, hg] at g'; exact g'.elim
      | some s1 =>
        rw [scL, hg] at g'
        simp only at g'
        refine ⟨_, Hb0, as', Hb2, M', wipeS s vs, s1, ws[i], r2, S2, w2, hg, fun σ3 S3 hw3 => ⟨wipe_wipe hv hw3, ?_⟩⟩
        refine ⟨_, Hb0, as', Hb2, M', s1, r2, S3, ?_⟩
        cases ht : tt s1 M' with
        | exc e m => rw [ht] at g'; exact g'.elim
        | stuck => rw [ht] at g'; exact g'.elim
        | ok b Mt =>
          rw [ht] at g'
          simp only [R.bindN] at g'
          intro b' as3 Hb3 H3 r3 f3 eb
          obtain rfl : b' = b := eb
          cases b' with
          | false =>
            simp only [Bool.false_eq_true, if_false] at g' ⊢
            exact ⟨as3, Hb3, Mt, acc, r3, (f'.trans f2).trans f3, Nat.le_succ_of_le hal, hsh, Good.mono (f2.trans f3) g'⟩
          | true =>
            simp only [if_true] at g' ⊢
            refine ⟨_, Hb0, as3, Hb3, Mt, s1, r3, S3.mono f3, ?_⟩
            cases hte : te s1 Mt with
            | exc e m => rw [hte] at g'; exact g'.elim
            | stuck => rw [hte] at g'; exact g'.elim
            | ok y My =>
              rw [hte] at g'
              simp only at g'
              intro yv as4 Hb4 H4 r4 f4 wy
              cases y with
              | r i => exact (show False from g').elim
              | k i => exact (show False from g').elim
              | d d =>
                cases d with
                | str c =>
                  simp only at g'
                  obtain ⟨rfl, lc⟩ := wr_str_of wy
                  obtain ⟨ru4, hHD4, hbD4, nD4⟩ := r4.unguard h0D hb0D
                  have ff := ((f2.trans f3).trans f4)
                  refine ⟨c, acc, rfl, hHD4, by omega, as4, Hb4, My, addU acc c, ?_, f'.trans ff, Nat.le_trans (addU_len _ _) (Nat.succ_le_succ hal), fun k hk => ?_, Good.mono ff g'⟩
                  · exact (ru4.other (o := SetXO X.prog X.w D (addU acc c)) hbD4 h0D nD4).guard upd_same hbD4 nD4
                  · unfold addU at hk
                    split at hk
                    · exact hsh k hk
                    · rcases List.mem_append.mp hk with hk | hk
                      · exact hsh k hk
                      · have e : k = c := by simpa using hk
                        rw [e]; exact lc
                | _ => exact (show False from g').elim
    · have e : i = ws.length := by omega
      subst e
      have hn : ws[ws.length]? = none := List.getElem?_eq_none_iff.mpr (Nat.le_refl _)
      rw [List.drop_length, scL] at g'
      simp only [R.bindN] at g'
      exact .inl ⟨io2 hn, hf H0 Hb0 as' Hb' H' M' σ acc D Q ru hHD (by omega) hsh g'⟩
  · rw [if_neg hz] at g1
    exact (show False from g1).elim
variable {elt tg iter : Expr} {ifs : List Expr} {scope : Scope} {own : List (Str × Nat)} {x : Str} {pos spos p : Pos} {it : PAx} {pg : PGx} {tt : PTx} {te : PEx} {is : List Nat}
theorem jl_sortSc (hc : X.calm = true) (hN : X.N.Nodup) (hu : X.A.units + 64 < cLine) (hm : X.mg "sorted" = none) (hi : JI X w tg iter it) (ok : BlkOk X.N X.env.scope scope own)
    (hg : ∀ (s : Shared) (H : Hp) (C : Addr) (cl : List (Str × Addr)) (fp : List Addr), JG (X.blk s H scope (compEnvC scope cl C X.env) fp) tg pg is) (ht : ∀ (s : Shared) (H : Hp) (C : Addr) (cl : List (Str × Addr)) (fp : List Addr), JTs (X.blk s H scope (compEnvC scope cl C X.env) fp) wNone ifs tt)
    (he : ∀ (s : Shared) (H : Hp) (C : Addr) (cl : List (Str × Addr)) (fp : List Addr), JE (X.blk s H scope (compEnvC scope cl C X.env) fp) wNone elt te) (hv : ∀ i ∈ is, i ∈ own.map (·.2) := by decide) (hgl : Gl X "sorted" := by rfl) (hs : ∀ x, foldedSetIterable iter X.env x = pure x := by intro _; rfl)
    (hst : starEach [.SetComp elt [⟨tg, iter, ifs, 0⟩] scope spos] X.env = (false, eval (.SetComp elt [⟨tg, iter, ifs, 0⟩] scope spos) X.env) :: starEach [] X.env := by rfl) :
    JL X w (.Call (.Name "sorted" p) [.SetComp elt [⟨tg, iter, ifs, 0⟩] scope spos] [] pos) (pSortSc it pg tt te (own.map (·.2))) := by
  obtain ⟨wi, ei, si⟩ := hi
  refine ⟨_, pe_callB (cr_sortedX hc hu) hgl hm (by decide +kernel) (pa_cons (pe_scX (g := canonG X.K pg is) (tt := canon repB X.K X.mg wNone tt) (te := canon (repW X.K) X.K X.mg wNone te) hc hN ei ok (fun s H C cl fp => (hg s H C cl fp).canon) (fun s H C cl fp => (ht s H C cl fp).canon) (fun s H C cl fp => (he s H C cl fp).canon) hs) pa_nil hst), ?_⟩
  refine sim_scX (r := rSortedX X.prog X.w) hv si fun H0 Hb0 as Hb H M σ l D Q r hD hl hsh g => ?_
  refine ⟨D, l, rfl, hD, hl, fun p hp => ?_⟩
  have e6 : (1000 : Nat) ≤ sizeLine := by decide
  exact Good.ok g (r.newAny hp) ⟨p, _, rfl, upd_same, by unfold strsW; rw [List.length_map, (sortS_perm l).length_eq]; omega, wrs_strs fun z hz => hsh z ((sortS_perm l).mem_iff.mp hz), fun hm => r.al p hm hp, r.hbn hp, r.h0n hp⟩
theorem je_lenSc (hc : X.calm = true) (hN : X.N.Nodup) (hm : X.mg "len" = none) (hi : JI X w tg iter it) (ok : BlkOk X.N X.env.scope scope own)
    (hg : ∀ (s : Shared) (H : Hp) (C : Addr) (cl : List (Str × Addr)) (fp : List Addr), JG (X.blk s H scope (compEnvC scope cl C X.env) fp) tg pg is) (ht : ∀ (s : Shared) (H : Hp) (C : Addr) (cl : List (Str × Addr)) (fp : List Addr), JTs (X.blk s H scope (compEnvC scope cl C X.env) fp) wNone ifs tt)
    (he : ∀ (s : Shared) (H : Hp) (C : Addr) (cl : List (Str × Addr)) (fp : List Addr), JE (X.blk s H scope (compEnvC scope cl C X.env) fp) wNone elt te) (hv : ∀ i ∈ is, i ∈ own.map (·.2) := by decide) (hgl : Gl X "len" := by rfl) (hs : ∀ x, foldedSetIterable iter X.env x = pure x := by intro _; rfl)
    (hst : starEach [.SetComp elt [⟨tg, iter, ifs, 0⟩] scope spos] X.env = (false, eval (.SetComp elt [⟨tg, iter, ifs, 0⟩] scope spos) X.env) :: starEach [] X.env := by rfl) :
    JE X w (.Call (.Name "len" p) [.SetComp elt [⟨tg, iter, ifs, 0⟩] scope spos] [] pos) (pLenSc it pg tt te (own.map (·.2))) := by
  obtain ⟨wi, ei, si⟩ := hi
  refine ⟨_, pe_callB cr_lenX hgl hm (by decide +kernel) (pa_cons (pe_scX (g := canonG X.K pg is) (tt := canon repB X.K X.mg wNone tt) (te := canon (repW X.K) X.K X.mg wNone te) hc hN ei ok (fun s H C cl fp => (hg s H C cl fp).canon) (fun s H C cl fp => (ht s H C cl fp).canon) (fun s H C cl fp => (he s H C cl fp).canon) hs) pa_nil hst), ?_⟩
  refine sim_scX (r := rLenX X.prog X.w) hv si fun H0 Hb0 as Hb H M σ l D Q r hD hl hsh g => ?_
  exact ⟨D, l, rfl, hD, Good.ok g r (wr_int _)⟩
/-- a statement that is never reached -/
def pNever : PSx := fun _ _ => .stuck
theorem js_never (st : Stmt) : JS X w st pNever := ⟨fun _ _ _ => False, ⟨fun _ _ _ _ _ _ h => h.elim⟩, fun _ _ _ _ _ _ _ _ _ _ _ g => g⟩
end
end Z

set_option linter.all false
set_option autoImplicit false
set_option maxRecDepth 100000
set_option maxHeartbeats 4000000
/-! Z25: small helps. -/
namespace Z
open PySem PySem.Spec PyProof.Rows L2 L2H
theorem hu1 {k : Nat} {A : Around} (hr : Room k A) : A.units + 1 < cLine := by have := hr.un; omega
theorem pB_ok {p : PEx} {s : Sl} {M M' : Ms} {b : Bool} (h : p s M = .ok (.d (.bool b)) M') : pB p s M = .ok b M' := by
  unfold pB
  rw [h]
  rfl
theorem pDat_eq {p : PAx} {s : Sl} {M M' : Ms} {ws : List W} {ds : List PyData} (h : p s M = .ok ws M') (h2 : ws = ds.map W.d) : pDat p s M = .ok (.d (.list ds)) M' := dat_ok h (by rw [h2]; exact allD_map _)
section
variable {s : Sl} {M M' M1 : Ms} {c a b : PTx} {p q : PEx} {k : Bool} {x : W}
theorem ife_tt (h : c s M = .ok true M') : pIfE c p q s M = p s M' := by unfold pIfE; rw [h]; rfl
theorem ife_ff (h : c s M = .ok false M') : pIfE c p q s M = q s M' := by unfold pIfE; rw [h]; rfl
theorem or_tt (h : a s M = .ok true M') : pOrT a b s M = .ok true M' := by unfold pOrT; rw [h]; rfl
theorem or_ff (h : a s M = .ok false M') : pOrT a b s M = b s M' := by unfold pOrT; rw [h]; rfl
theorem and_tt (h : a s M = .ok true M') : pAndT a b s M = b s M' := by unfold pAndT; rw [h]; rfl
theorem and_ff (h : a s M = .ok false M') : pAndT a b s M = .ok false M' := by unfold pAndT; rw [h]; rfl
theorem not_ok (h : a s M = .ok k M') : pNotT a s M = .ok (!k) M' := by unfold pNotT; rw [h]; rfl
theorem tru_ok (h : p s M = .ok x M') (h2 : truth M' x = some k) : pTru p s M = .ok k M' := by unfold pTru; rw [h]; simp only [R.bind, h2]
theorem andV_tt (h : p s M = .ok x M') (h2 : truth M' x = some true) : pAndV p q s M = q s M' := by unfold pAndV; rw [h]; simp only [R.bind, h2]
theorem andV_ff (h : p s M = .ok x M') (h2 : truth M' x = some false) : pAndV p q s M = .ok x M' := by unfold pAndV; rw [h]; simp only [R.bind, h2]
theorem notV_ok (h : p s M = .ok x M') (h2 : truth M' x = some k) : pNotV p s M = .ok (.d (.bool (!k))) M' := by unfold pNotV; rw [h]; simp only [R.bind, h2]
end
theorem call_data {q : List PyData → PR} {pa : PAx} {s : Sl} {M M' : Ms} {ds : List PyData} (h : pa s M = .ok (ds.map W.d) M') : pCallQ q [] pa s M = (q ds).to M' := by
  unfold pCallQ
  rw [h]
  simp only [R.bind, allD_map, List.append_nil]
theorem callG_ok {F : PF} {pa : PAx} {s : Sl} {M M' : Ms} {ws : List W} (h : pa s M = .ok ws M') : pCallG F [] pa s M = F ws M' := by
  unfold pCallG
  rw [h]
  simp only [R.bind, List.map_nil, List.append_nil]
theorem perm_of_sub_len {α : Type} [DecidableEq α] : ∀ {l m : List α}, l.Nodup → (∀ x ∈ l, x ∈ m) → l.length ≤ m.length
  | [], _, _, _ => Nat.zero_le _
  | x :: l, m, nd, h => by
    have hx : x ∈ m := h x List.mem_cons_self
    obtain ⟨nx, nd'⟩ := List.nodup_cons.mp nd
    have hlen := (List.perm_cons_erase hx).length_eq
    have ih := perm_of_sub_len (m := m.erase x) nd' fun y hy => by
      have ne : y ≠ x := fun z => nx (z ▸ hy)
      exact (List.mem_erase_of_ne ne).mpr (h y (List.mem_cons_of_mem _ hy))
    simp only [List.length_cons] at hlen ⊢
    omega
theorem allD_strs (ys : List Str) : allD (strsW ys) = some (ys.map .str) := by
  induction ys with
  | nil => rfl
  | cons y ys ih =>
    show (allD (strsW ys)).map (PyData.str y :: ·) = _
    rw [ih]
    rfl
end Z

set_option linter.all false
set_option autoImplicit false
set_option maxRecDepth 100000
set_option maxHeartbeats 4000000
/-! Z26: steps: loops that keep what is known, methods, fields, slots. -/
namespace Z
open PySem PySem.Spec PyProof.Rows L2 L2H
theorem forL_keep {g : PGx} {b : PSx} {I : Nat → Sl → Ms → Prop} : ∀ (ws : List W) (k : Nat) (s : Sl) (M : Ms), I k s M → (∀ x ∈ ws, ∀ k s M, I k s M → ∃ s1 s2 M2, g x s M = some s1 ∧ b s1 M = .nx s2 M2 ∧ I (k + 1) s2 M2) → ∃ s' M', forL g b ws s M = .nx s' M' ∧ I (k + ws.length) s' M'
  | [], k, s, M, h, _ => ⟨s, M, rfl, h⟩
  | x :: ws, k, s, M, h, st => by
    obtain ⟨s1, s2, M2, h1, h2, h3⟩ := st x List.mem_cons_self k s M h
    obtain ⟨s', M', q1, q2⟩ := forL_keep ws (k + 1) s2 M2 h3 fun y hy => st y (List.mem_cons_of_mem _ hy)
    refine ⟨s', M', ?_, by rw [List.length_cons]; rwa [Nat.add_assoc, Nat.add_comm 1] at q2⟩
    rw [forL, h1]
    simp only [h2]
    exact q1
/-- .. with the item's place -/
theorem forL_at {g : PGx} {b : PSx} {I : Nat → Sl → Ms → Prop} (all : List W) : ∀ (ws : List W) (k : Nat) (s : Sl) (M : Ms), all.drop k = ws → I k s M → (∀ (x : W) (k : Nat) (s : Sl) (M : Ms), all[k]? = some x → I k s M → ∃ s1 s2 M2, g x s M = some s1 ∧ b s1 M = .nx s2 M2 ∧ I (k + 1) s2 M2) → ∃ s' M', forL g b ws s M = .nx s' M' ∧ I (k + ws.length) s' M'
  | [], k, s, M, _, h, _ => ⟨s, M, rfl, h⟩
  | x :: ws, k, s, M, e, h, st => by
    have hx : all[k]? = some x := by
      have z : (all.drop k)[0]? = some x := by rw [e]; rfl
      rw [List.getElem?_drop] at z
      exact z
    have e' : all.drop (k + 1) = ws := by
      have z : (all.drop k).drop 1 = ws := by rw [e]; rfl
      rw [List.drop_drop] at z
      exact z
    obtain ⟨s1, s2, M2, h1, h2, h3⟩ := st x k s M hx h
    obtain ⟨s', M', q1, q2⟩ := forL_at all ws (k + 1) s2 M2 e' h3 st
    refine ⟨s', M', ?_, by rw [List.length_cons]; rwa [Nat.add_assoc, Nat.add_comm 1] at q2⟩
    rw [forL, h1]
    simp only [h2]
    exact q1
theorem forL_all {g : PGx} {b : PSx} {I : Nat → Sl → Ms → Prop} {ws : List W} {s : Sl} {M : Ms} (h : I 0 s M) (st : ∀ (x : W) (k : Nat) (s : Sl) (M : Ms), ws[k]? = some x → I k s M → ∃ s1 s2 M2, g x s M = some s1 ∧ b s1 M = .nx s2 M2 ∧ I (k + 1) s2 M2) : ∃ s' M', forL g b ws s M = .nx s' M' ∧ I ws.length s' M' := by
  obtain ⟨s', M', e, i⟩ := forL_at (g := g) (b := b) (I := I) ws ws 0 s M rfl h st
  exact ⟨s', M', e, by rwa [Nat.zero_add] at i⟩
theorem has_set {s : Sl} {i k : Nat} {x : Option (Option W)} {y : Option W} (h : s[i]? = x) (ne : k ≠ i) : (s.set k y)[i]? = x := by rw [List.getElem?_set_ne ne]; exact h
theorem set_at {s : Sl} {k n : Nat} {x : W} (hl : s.length = n) (hk : k < n) : (s.set k (some x))[k]? = some (some x) := List.getElem?_set_self (by omega)
theorem meth_ok {C : Addr} {m : Str} {F : PF} {o : PEx} {pa : PAx} {s : Sl} {M M1 M2 M3 : Ms} {x y : W} {ws : List W} (ho : o s M = .ok x M1) (hn : noAtt C m M1 x = true) (ha : pa s M1 = .ok ws M2) (hF : F (x :: ws) M2 = .ok y M3) : pMeth C m F [] o pa s M = .ok y M3 := by
  unfold pMeth
  rw [ho]
  simp only [R.bind, hn, if_true]
  rw [ha]
  simp only [List.map_nil, List.append_nil, hF]
theorem noAtt_of {C : Addr} {M : Ms} {i : Nat} {fs : List (Str × W)} {m : Str} (h : M[i]? = some (.ins C fs)) (hm : fs.lookup m = none) : noAtt C m M (.r i) = true := by
  unfold noAtt insOf
  simp [h, hm]
theorem fld_of {C : Addr} {M : Ms} {i j : Nat} {s : Sl} {f : Str} {fs : List (Str × W)} {x : W} (hs : s[j]? = some (some (.r i))) (h : M[i]? = some (.ins C fs)) (hf : fs.lookup f = some x) : pFld C f (pVar j) s M = .ok x M := by
  unfold pFld
  rw [var_ok hs]
  simp [R.bind, insOf, h, hf]
theorem rng1_okM {p : PEx} {s : Sl} {M M' : Ms} {j : Int} (h : p s M = .ok (.d (.int j)) M') (hc : -(2 ^ 62) ≤ j ∧ j < 2 ^ 62) : pRng1 p s M = .ok (rngW 0 j.toNat) M' := by
  show (p s M).bind _ = _
  rw [h]
  exact if_pos hc
theorem small62' {j : Int} (h1 : -1000000 ≤ j) (h2 : j ≤ 1000000) : -(2 ^ 62) ≤ j ∧ j < 2 ^ 62 := by
  have e : (2 : Int) ^ 62 = 4611686018427387904 := by simp
  rw [e]
  omega
theorem rng2_okM {p q : PEx} {s : Sl} {M M' M'' : Ms} {i j : Int} (h : p s M = .ok (.d (.int i)) M') (h' : q s M' = .ok (.d (.int j)) M'') (hi : -(2 ^ 62) ≤ i ∧ i < 2 ^ 62) (hj : -(2 ^ 62) ≤ j ∧ j < 2 ^ 62) : pRng2 p q s M = .ok (rngW i (j - i).toNat) M'' := by
  show (p s M).bind _ = _
  rw [h]
  show (q s M').bind _ = _
  rw [h']
  exact if_pos ⟨hi.1, hi.2, hj.1, hj.2⟩
theorem tup_ok {pa : PAx} {s : Sl} {M M' : Ms} {ds : List PyData} (h : pa s M = .ok (ds.map W.d) M') (hl : ds.length ≤ 1000) : pTup pa s M = .ok (.d (.tuple ds)) M' := by
  unfold pTup
  rw [h]
  simp only [R.bind, allD_map]
  rw [if_pos (Nat.le_trans hl (by decide))]
theorem lst_ok {pa : PAx} {s : Sl} {M M' : Ms} {ws : List W} (h : pa s M = .ok ws M') (hz : ws.length ≤ 1000) : pLst pa s M = .ok ws M' := by
  unfold pLst
  rw [h]
  simp only [R.bind]
  rw [if_pos (Nat.le_trans hz (by decide))]
theorem add_ok {a b : PEx} {s : Sl} {M M' M'' : Ms} {i j : Int} (ha : a s M = .ok (.d (.int i)) M') (hb : b s M' = .ok (.d (.int j)) M'') : pOp gAddI a b s M = .ok (.d (.int (i + j))) M'' := by
  rw [op_ok ha hb]
  rfl
theorem sub_ok {a b : PEx} {s : Sl} {M M' M'' : Ms} {i j : Int} (ha : a s M = .ok (.d (.int i)) M') (hb : b s M' = .ok (.d (.int j)) M'') : pOp gSubI a b s M = .ok (.d (.int (i - j))) M'' := by
  rw [op_ok ha hb]
  rfl
theorem ixT_ok {a : PEx} {s : Sl} {M M' : Ms} {ds : List PyData} {z : Int} {i : Nat} {d : PyData} (ha : a s M = .ok (.d (.tuple ds)) M') (hi : ds[i]? = some d) (hz : z = (i : Int) := by rfl) : pOp gIx a (pC (.int z)) s M = .ok (.d d) M' := by
  subst hz
  rw [op_ok (y := .d (.int i)) (M'' := M') ha rfl]
  unfold gIx itemsL itemsT
  simp only
  rw [atI_nat, List.getElem?_map, hi]
  rfl
/-! ### locks, cuts -/
theorem lock_ok {α : Type} {pick : Sl → Ms → Option Nat} {q : Sl → Ms → R α} {s : Sl} {M : Ms} {i : Nat} {t : Bool} {kvs : List (PyData × W)} {a : α} (hp : pick s M = some i) (hm : M[i]? = some (.dic t kvs)) (hq : q s (M.set i (.dlk t kvs)) = .ok a (M.set i (.dlk t kvs))) : pLock pick q s M = .ok a M := by
  have hi : i < M.length := (List.getElem?_eq_some_iff.mp hm).1
  unfold pLock lockM
  simp only [hp, hm, hq]
  have e : unlM i (M.set i (.dlk t kvs)) = some M := by
    unfold unlM
    rw [List.getElem?_set_self hi]
    simp only [List.set_set]
    rw [set_same hm]
  rw [e]
theorem lock_new {α : Type} {pick : Sl → Ms → Option Nat} {q : Sl → Ms → R α} {s : Sl} {M : Ms} {i : Nat} {t : Bool} {kvs : List (PyData × W)} {a : α} {x : MO} (hp : pick s M = some i) (hm : M[i]? = some (.dic t kvs)) (hq : q s (M.set i (.dlk t kvs)) = .ok a (M.set i (.dlk t kvs) ++ [x])) : pLock pick q s M = .ok a (M ++ [x]) := by
  have hi : i < M.length := (List.getElem?_eq_some_iff.mp hm).1
  unfold pLock lockM
  simp only [hp, hm, hq]
  have e : unlM i (M.set i (.dlk t kvs) ++ [x]) = some (M ++ [x]) := by
    unfold unlM
    rw [List.getElem?_append_left (by rw [List.length_set]; exact hi), List.getElem?_set_self hi]
    simp only
    rw [List.set_append_left _ _ (by rw [List.length_set]; exact hi), List.set_set, set_same hm]
  rw [e]
theorem cutW_take {α : Type} (xs : List α) (k : Nat) : cutW xs none (some (k : Int)) = xs.take k := by
  unfold cutW
  show (xs.drop 0).take ((if (k : Int) < 0 then ((k : Int) + (xs.length : Int)).toNat else min (k : Int).toNat xs.length) - 0) = _
  rw [if_neg (by omega), List.drop_zero, Nat.sub_zero, Int.toNat_natCast]
  by_cases h : k ≤ xs.length
  · rw [Nat.min_eq_left h]
  · rw [Nat.min_eq_right (by omega), List.take_of_length_le (Nat.le_refl _), List.take_of_length_le (by omega)]
theorem getD_ok {pd pk : PEx} {s : Sl} {M M1 M2 : Ms} {x : W} {d : PyData} {i : Nat} {kvs : List (PyData × W)} {z : W} (h1 : pd s M = .ok x M1) (h2 : pk s M1 = .ok (.d d) M2) (h3 : dicOf M2 x = some (i, kvs)) (h4 : isKey d = true) (h5 : valP kvs d = some z) : pGetD pd pk s M = .ok z M2 := by
  unfold pGetD
  rw [h1]
  simp only [R.bind]
  rw [h2]
  simp only [h3, h4, if_true, h5]
theorem din_ok {neg : Bool} {pd pk : PEx} {s : Sl} {M M1 M2 : Ms} {x : W} {d : PyData} {i : Nat} {kvs : List (PyData × W)} (h1 : pk s M = .ok (.d d) M1) (h2 : pd s M1 = .ok x M2) (h3 : dicOf M2 x = some (i, kvs)) (h4 : isKey d = true) : pDin neg pk pd s M = .ok (.d (.bool (xor neg (valP kvs d).isSome))) M2 := by
  unfold pDin
  rw [h1]
  simp only [R.bind]
  rw [h2]
  simp only [h3, h4, if_true]
theorem putD_ok {pv pd pk : PEx} {s : Sl} {M M1 M2 M3 : Ms} {x z : W} {d : PyData} {i : Nat} {kvs : List (PyData × W)} (h0 : pv s M = .ok z M1) (h1 : pd s M1 = .ok x M2) (h2 : pk s M2 = .ok (.d d) M3) (h3 : dicM M3 x = some (i, kvs)) (h4 : isKey d = true) (h5 : kvs.length ≤ 1000000) : pPutD pv pd pk s M = .nx s (M3.set i (.dic false (putP kvs d z))) := by
  unfold pPutD
  rw [h0]
  simp only [R.to]
  rw [h1]
  simp only
  rw [h2]
  have e6 : kvs.length < sizeLine := Nat.lt_of_le_of_lt h5 (by decide)
  simp only [h3]
  rw [if_pos ⟨h4, e6⟩]
theorem dicOf_dic {M : Ms} {i : Nat} {kvs : List (PyData × W)} (h : M[i]? = some (.dic false kvs)) : dicOf M (.r i) = some (i, kvs) := by unfold dicOf; simp only [h]
theorem dicOf_dlk {M : Ms} {i : Nat} {kvs : List (PyData × W)} (h : M[i]? = some (.dlk false kvs)) : dicOf M (.r i) = some (i, kvs) := by unfold dicOf; simp only [h]
theorem dicM_dic {M : Ms} {i : Nat} {kvs : List (PyData × W)} (h : M[i]? = some (.dic false kvs)) : dicM M (.r i) = some (i, kvs) := by unfold dicM; simp only [h]
theorem app_ok {o e : PEx} {s : Sl} {M M1 M2 : Ms} {i : Nat} {ws0 ws : List W} {y : W} (h1 : o s M = .ok (.r i) M1) (h2 : M1[i]? = some (.lst ws0)) (h3 : e s M1 = .ok y M2) (h4 : M2[i]? = some (.lst ws)) (h5 : ws.length ≤ 1000000) : pApp o e s M = .nx s (M2.set i (.lst (ws ++ [y]))) := by
  unfold pApp
  rw [h1]
  simp only [R.to, h2]
  rw [h3]
  simp only [h4]
  rw [if_pos (Nat.lt_of_le_of_lt h5 (by decide))]
end Z

set_option linter.all false
set_option autoImplicit false
set_option maxRecDepth 100000
set_option maxHeartbeats 4000000
namespace Z
open PySem PySem.Spec PyProof.Rows L2 L2H
noncomputable section
def catK (y : Str) : Option Bool := if y = "InvalidNumber" ∨ y = "InvalidPaper" then some true else none
def codeK (y : Str) : Str := if y = "InvalidNumber" then "number" else "paper"
abbrev N_is_name : List Str := ["word", "sign"]
def lp0_is_name : PSx :=
  pIf (pB (pOp gNinS (pVar 1) (pC (.str "abcdefghijklmnopqrstuvwxyz")))) (pRet (pC (.bool false))) (pNext)
def b_is_name : PSx :=
  pSeq (pIf (pOrT (pNotT (pTru (pCall gIsi (pCons (pVar 0) (pCons (pK (.ty "str")) pNil))))) (pNotT (pB (pChain (gLeI) (gLeI) (pC (.int 1)) (pCall gLen (pCons (pVar 0) (pNil))) (pC (.int 12)))))) (pRet (pC (.bool false))) (pNext))
  (pSeq (pFor (pItS (pVar 0)) (qName 1) (lp0_is_name))
  (pRet (pC (.bool true))))
def f0_is_name : PF := runG N_is_name.length (["word"] : List Str).length (b_is_name)
theorem run_is_name {ws : List W} {M : Ms} (h : ws.length = 1) : f0_is_name ws M = (b_is_name (startS 2 ws) M).toR := runG_pos h
def letterB (c : Nat) : Bool := !(!(!(Builtin.Str.occurrences ("abcdefghijklmnopqrstuvwxyz" : Str) ⟨#[c]⟩ 0 ("abcdefghijklmnopqrstuvwxyz" : Str).length 1).isEmpty))
def isNameD (d : PyData) : Bool := match d with
  | .str s => decide (1 ≤ s.length) && (decide (s.length ≤ 12) && s.cps.toList.all letterB)
  | _ => false
def q_is_name : List PyData → PR := fun ds => match ds with
  | [.str s] => .ok (.bool (isNameD (.str s)))
  | _ => .stuck
theorem lp0_name : ∀ (cs : List Nat) (s : Option W) (z : W) (M : Ms), ∃ s', forL (qName 1) lp0_is_name (cs.map fun c => .d (.str ⟨#[c]⟩)) [some z, s] M = if cs.all letterB = true then .nx [some z, s'] M else .rt (.d (.bool false)) M
  | [], s, z, M => ⟨s, by simp [forL]⟩
  | c :: cs, s, z, M => by
    obtain ⟨s', ih⟩ := lp0_name cs (some (.d (.str ⟨#[c]⟩))) z M
    refine ⟨s', ?_⟩
    rw [List.map_cons, forL]
    have hg : qName 1 (.d (.str ⟨#[c]⟩)) [some z, s] M = some [some z, some (.d (.str ⟨#[c]⟩))] := rfl
    rw [hg]
    cases hc : letterB c with
    | true =>
      have hb : lp0_is_name [some z, some (.d (.str ⟨#[c]⟩))] M = .nx [some z, some (.d (.str ⟨#[c]⟩))] M := by
        have hc' : (!(!(Builtin.Str.occurrences ("abcdefghijklmnopqrstuvwxyz" : Str) ⟨#[c]⟩ 0 ("abcdefghijklmnopqrstuvwxyz" : Str).length 1).isEmpty)) = false := by
          unfold letterB at hc
          simpa using hc
        unfold lp0_is_name
        rw [if_ff (M' := M) (by
          show R.ok (!(!(Builtin.Str.occurrences ("abcdefghijklmnopqrstuvwxyz" : Str) ⟨#[c]⟩ 0 ("abcdefghijklmnopqrstuvwxyz" : Str).length 1).isEmpty)) M = R.ok false M
          rw [hc'])]
        rfl
      simp only [hb]
      rw [ih]
      simp [hc]
    | false =>
      have hb : lp0_is_name [some z, some (.d (.str ⟨#[c]⟩))] M = .rt (.d (.bool false)) M := by
        have hc' : (!(!(Builtin.Str.occurrences ("abcdefghijklmnopqrstuvwxyz" : Str) ⟨#[c]⟩ 0 ("abcdefghijklmnopqrstuvwxyz" : Str).length 1).isEmpty)) = true := by
          unfold letterB at hc
          simpa using hc
        unfold lp0_is_name
        rw [if_tt (M' := M) (by
          show R.ok (!(!(Builtin.Str.occurrences ("abcdefghijklmnopqrstuvwxyz" : Str) ⟨#[c]⟩ 0 ("abcdefghijklmnopqrstuvwxyz" : Str).length 1).isEmpty)) M = R.ok true M
          rw [hc'])]
        rfl
      simp only [hb]
      simp [hc]
theorem pure_is_name : ∀ ds, q_is_name ds ≠ .stuck → f0_is_name.pure ds = q_is_name ds := by
  intro ds h
  match ds, h with
  | [.str s], _ =>
    unfold PF.pure
    rw [run_is_name rfl]
    obtain ⟨s', hl⟩ := lp0_name s.cps.toList none (.d (.str s)) []
    have it : pItS (pVar 0) [some (.d (.str s)), none] [] = .ok (s.cps.toList.map fun c => .d (.str ⟨#[c]⟩)) [] := rfl
    by_cases h1 : (1 : Int) ≤ s.length
    · by_cases h2 : (s.length : Int) ≤ 12
      · have n1 : 1 ≤ s.length := by omega
        have n2 : s.length ≤ 12 := by omega
        unfold b_is_name
        rw [seq_nx (s' := [some (.d (.str s)), none]) (M' := []) (by simp [h1, h2, pSeq, pNext, pIf, pSet, pDrop, pRet, pRetN, pAsg, pVar, pC, pK, pCons, pNil, pTup, pLst, pDat, pMut, pOp, pB, pChain, pAndT, pOrT, pNotT, pAndV, pOrV, pNotV, pTru, pIfE, pNeg, pCall, pCallL, pCallQ, pCallG, pRaise, R.bind, R.to, R.bindN, O.toR, PR.to, truth, allD, view, viewAll, itemsL, itemsT, lenW, tagD, tagW, isTy, tyOk, scalar, R.freeze, pFor, pItL, pItT, pItS, pRng1, pRng2, qName, qNil, qCons, qTup, pSub, pNo, pSo, pYes, pBrk, pCnt, startS, clearO, gInt, gAddI, gSubI, gLtI, gLeI, gGtI, gGeI, gEqD, gNeD, gIsN, gIsB, gStr, gIsi, gLen, gAbs, gInt1, gMin2, gMax2, gSum, gMaxI, gMinI, gList, gSorted, gIx, gInD, isNonD, viewI, catW, pCat, gMaxT, pFld, pSetF, pMeth, pMake, insOf, putW, noAtt, pTry, pListRev, pSlL, pSlT, pIsi2, allD_nil, eqv_int, shaped_int, allD_ints, allD_map, intsOf_map])]
        cases hc : s.cps.toList.all letterB with
        | true =>
          rw [hc] at hl
          rw [seq_nx ((for_ok it).trans hl)]
          rw [ret_ok rfl]
          simp [q_is_name, isNameD, n1, n2, hc, pSeq, pNext, pIf, pSet, pDrop, pRet, pRetN, pAsg, pVar, pC, pK, pCons, pNil, pTup, pLst, pDat, pMut, pOp, pB, pChain, pAndT, pOrT, pNotT, pAndV, pOrV, pNotV, pTru, pIfE, pNeg, pCall, pCallL, pCallQ, pCallG, pRaise, R.bind, R.to, R.bindN, O.toR, PR.to, truth, allD, view, viewAll, itemsL, itemsT, lenW, tagD, tagW, isTy, tyOk, scalar, R.freeze, pFor, pItL, pItT, pItS, pRng1, pRng2, qName, qNil, qCons, qTup, pSub, pNo, pSo, pYes, pBrk, pCnt, startS, clearO, gInt, gAddI, gSubI, gLtI, gLeI, gGtI, gGeI, gEqD, gNeD, gIsN, gIsB, gStr, gIsi, gLen, gAbs, gInt1, gMin2, gMax2, gSum, gMaxI, gMinI, gList, gSorted, gIx, gInD, isNonD, viewI, catW, pCat, gMaxT, pFld, pSetF, pMeth, pMake, insOf, putW, noAtt, pTry, pListRev, pSlL, pSlT, pIsi2, allD_nil, eqv_int, shaped_int, allD_ints, allD_map, intsOf_map]
        | false =>
          rw [hc] at hl
          rw [seq_rt ((for_ok it).trans hl)]
          simp [q_is_name, isNameD, n1, n2, hc, pSeq, pNext, pIf, pSet, pDrop, pRet, pRetN, pAsg, pVar, pC, pK, pCons, pNil, pTup, pLst, pDat, pMut, pOp, pB, pChain, pAndT, pOrT, pNotT, pAndV, pOrV, pNotV, pTru, pIfE, pNeg, pCall, pCallL, pCallQ, pCallG, pRaise, R.bind, R.to, R.bindN, O.toR, PR.to, truth, allD, view, viewAll, itemsL, itemsT, lenW, tagD, tagW, isTy, tyOk, scalar, R.freeze, pFor, pItL, pItT, pItS, pRng1, pRng2, qName, qNil, qCons, qTup, pSub, pNo, pSo, pYes, pBrk, pCnt, startS, clearO, gInt, gAddI, gSubI, gLtI, gLeI, gGtI, gGeI, gEqD, gNeD, gIsN, gIsB, gStr, gIsi, gLen, gAbs, gInt1, gMin2, gMax2, gSum, gMaxI, gMinI, gList, gSorted, gIx, gInD, isNonD, viewI, catW, pCat, gMaxT, pFld, pSetF, pMeth, pMake, insOf, putW, noAtt, pTry, pListRev, pSlL, pSlT, pIsi2, allD_nil, eqv_int, shaped_int, allD_ints, allD_map, intsOf_map]
      · have n2 : ¬ s.length ≤ 12 := by omega
        unfold b_is_name
        rw [seq_rt (x := .d (.bool false)) (M' := []) (by simp [h1, h2, pSeq, pNext, pIf, pSet, pDrop, pRet, pRetN, pAsg, pVar, pC, pK, pCons, pNil, pTup, pLst, pDat, pMut, pOp, pB, pChain, pAndT, pOrT, pNotT, pAndV, pOrV, pNotV, pTru, pIfE, pNeg, pCall, pCallL, pCallQ, pCallG, pRaise, R.bind, R.to, R.bindN, O.toR, PR.to, truth, allD, view, viewAll, itemsL, itemsT, lenW, tagD, tagW, isTy, tyOk, scalar, R.freeze, pFor, pItL, pItT, pItS, pRng1, pRng2, qName, qNil, qCons, qTup, pSub, pNo, pSo, pYes, pBrk, pCnt, startS, clearO, gInt, gAddI, gSubI, gLtI, gLeI, gGtI, gGeI, gEqD, gNeD, gIsN, gIsB, gStr, gIsi, gLen, gAbs, gInt1, gMin2, gMax2, gSum, gMaxI, gMinI, gList, gSorted, gIx, gInD, isNonD, viewI, catW, pCat, gMaxT, pFld, pSetF, pMeth, pMake, insOf, putW, noAtt, pTry, pListRev, pSlL, pSlT, pIsi2, allD_nil, eqv_int, shaped_int, allD_ints, allD_map, intsOf_map])]
        simp [q_is_name, isNameD, n2, pSeq, pNext, pIf, pSet, pDrop, pRet, pRetN, pAsg, pVar, pC, pK, pCons, pNil, pTup, pLst, pDat, pMut, pOp, pB, pChain, pAndT, pOrT, pNotT, pAndV, pOrV, pNotV, pTru, pIfE, pNeg, pCall, pCallL, pCallQ, pCallG, pRaise, R.bind, R.to, R.bindN, O.toR, PR.to, truth, allD, view, viewAll, itemsL, itemsT, lenW, tagD, tagW, isTy, tyOk, scalar, R.freeze, pFor, pItL, pItT, pItS, pRng1, pRng2, qName, qNil, qCons, qTup, pSub, pNo, pSo, pYes, pBrk, pCnt, startS, clearO, gInt, gAddI, gSubI, gLtI, gLeI, gGtI, gGeI, gEqD, gNeD, gIsN, gIsB, gStr, gIsi, gLen, gAbs, gInt1, gMin2, gMax2, gSum, gMaxI, gMinI, gList, gSorted, gIx, gInD, isNonD, viewI, catW, pCat, gMaxT, pFld, pSetF, pMeth, pMake, insOf, putW, noAtt, pTry, pListRev, pSlL, pSlT, pIsi2, allD_nil, eqv_int, shaped_int, allD_ints, allD_map, intsOf_map]
    · have n1 : ¬ 1 ≤ s.length := by omega
      unfold b_is_name
      rw [seq_rt (x := .d (.bool false)) (M' := []) (by simp [h1, pSeq, pNext, pIf, pSet, pDrop, pRet, pRetN, pAsg, pVar, pC, pK, pCons, pNil, pTup, pLst, pDat, pMut, pOp, pB, pChain, pAndT, pOrT, pNotT, pAndV, pOrV, pNotV, pTru, pIfE, pNeg, pCall, pCallL, pCallQ, pCallG, pRaise, R.bind, R.to, R.bindN, O.toR, PR.to, truth, allD, view, viewAll, itemsL, itemsT, lenW, tagD, tagW, isTy, tyOk, scalar, R.freeze, pFor, pItL, pItT, pItS, pRng1, pRng2, qName, qNil, qCons, qTup, pSub, pNo, pSo, pYes, pBrk, pCnt, startS, clearO, gInt, gAddI, gSubI, gLtI, gLeI, gGtI, gGeI, gEqD, gNeD, gIsN, gIsB, gStr, gIsi, gLen, gAbs, gInt1, gMin2, gMax2, gSum, gMaxI, gMinI, gList, gSorted, gIx, gInD, isNonD, viewI, catW, pCat, gMaxT, pFld, pSetF, pMeth, pMake, insOf, putW, noAtt, pTry, pListRev, pSlL, pSlT, pIsi2, allD_nil, eqv_int, shaped_int, allD_ints, allD_map, intsOf_map])]
      simp [q_is_name, isNameD, n1, pSeq, pNext, pIf, pSet, pDrop, pRet, pRetN, pAsg, pVar, pC, pK, pCons, pNil, pTup, pLst, pDat, pMut, pOp, pB, pChain, pAndT, pOrT, pNotT, pAndV, pOrV, pNotV, pTru, pIfE, pNeg, pCall, pCallL, pCallQ, pCallG, pRaise, R.bind, R.to, R.bindN, O.toR, PR.to, truth, allD, view, viewAll, itemsL, itemsT, lenW, tagD, tagW, isTy, tyOk, scalar, R.freeze, pFor, pItL, pItT, pItS, pRng1, pRng2, qName, qNil, qCons, qTup, pSub, pNo, pSo, pYes, pBrk, pCnt, startS, clearO, gInt, gAddI, gSubI, gLtI, gLeI, gGtI, gGeI, gEqD, gNeD, gIsN, gIsB, gStr, gIsi, gLen, gAbs, gInt1, gMin2, gMax2, gSum, gMaxI, gMinI, gList, gSorted, gIx, gInD, isNonD, viewI, catW, pCat, gMaxT, pFld, pSetF, pMeth, pMake, insOf, putW, noAtt, pTry, pListRev, pSlL, pSlT, pIsi2, allD_nil, eqv_int, shaped_int, allD_ints, allD_map, intsOf_map]
abbrev N_checked_name : List Str := ["word"]
def b_checked_name : PSx :=
  pSeq (pIf (pNotT (pTru (pCallQ q_is_name [] (pCons (pVar 0) (pNil))))) (pNever) (pNext))
  (pRet (pVar 0))
def f0_checked_name : PF := runG N_checked_name.length (["word"] : List Str).length (b_checked_name)
theorem run_checked_name {ws : List W} {M : Ms} (h : ws.length = 1) : f0_checked_name ws M = (b_checked_name (startS 1 ws) M).toR := runG_pos h
def q_checked_name : List PyData → PR := fun ds => match ds with
  | [.str s] => if isNameD (.str s) = true then .ok (.str s) else .stuck
  | _ => .stuck
theorem pure_checked_name : ∀ ds, q_checked_name ds ≠ .stuck → f0_checked_name.pure ds = q_checked_name ds := by
  intro ds h
  match ds, h with
  | [.str s], h =>
    cases h1 : isNameD (.str s) with
    | false => exact absurd (by simp [q_checked_name, h1]) h
    | true =>
      unfold PF.pure
      rw [run_checked_name rfl]
      simp [b_checked_name, q_checked_name, q_is_name, h1, pSeq, pNext, pIf, pSet, pDrop, pRet, pRetN, pAsg, pVar, pC, pK, pCons, pNil, pTup, pLst, pDat, pMut, pOp, pB, pChain, pAndT, pOrT, pNotT, pAndV, pOrV, pNotV, pTru, pIfE, pNeg, pCall, pCallL, pCallQ, pCallG, pRaise, R.bind, R.to, R.bindN, O.toR, PR.to, truth, allD, view, viewAll, itemsL, itemsT, lenW, tagD, tagW, isTy, tyOk, scalar, R.freeze, pFor, pItL, pItT, pItS, pRng1, pRng2, qName, qNil, qCons, qTup, pSub, pNo, pSo, pYes, pBrk, pCnt, startS, clearO, gInt, gAddI, gSubI, gLtI, gLeI, gGtI, gGeI, gEqD, gNeD, gIsN, gIsB, gStr, gIsi, gLen, gAbs, gInt1, gMin2, gMax2, gSum, gMaxI, gMinI, gList, gSorted, gIx, gInD, isNonD, viewI, catW, pCat, gMaxT, pFld, pSetF, pMeth, pMake, insOf, putW, noAtt, pTry, pListRev, pSlL, pSlT, pIsi2, allD_nil, eqv_int, shaped_int, allD_ints, allD_map, intsOf_map]
abbrev N_is_number : List Str := ["value", "least", "most"]
def b_is_number : PSx :=
  pSeq (pIf (pOrT (pTru (pCall gIsi (pCons (pVar 0) (pCons (pK (.ty "bool")) pNil)))) (pNotT (pTru (pCall gIsi (pCons (pVar 0) (pCons (pK (.ty "int")) pNil)))))) (pRet (pC (.bool false))) (pNext))
  (pRet (pChain (gLeI) (gLeI) (pVar 1) (pVar 0) (pVar 2)))
def f0_is_number : PF := runG N_is_number.length (["value", "least", "most"] : List Str).length (b_is_number)
theorem run_is_number {ws : List W} {M : Ms} (h : ws.length = 3) : f0_is_number ws M = (b_is_number (startS 3 ws) M).toR := runG_pos h
def isNumberD (d : PyData) (lo hi : Int) : Bool := match d with
  | .int n => decide (lo ≤ n) && decide (n ≤ hi)
  | _ => false
def q_is_number : List PyData → PR := fun ds => match ds with
  | [d, .int lo, .int hi] => .ok (.bool (isNumberD d lo hi))
  | _ => .stuck
theorem pure_is_number : ∀ ds, q_is_number ds ≠ .stuck → f0_is_number.pure ds = q_is_number ds := by
  intro ds h
  match ds, h with
  | [d, .int lo, .int hi], _ =>
    unfold PF.pure
    rw [run_is_number rfl]
    cases d with
    | int n =>
      by_cases h1 : lo ≤ n <;> by_cases h2 : n ≤ hi <;> simp [b_is_number, q_is_number, isNumberD, pSeq, pNext, pIf, pSet, pDrop, pRet, pRetN, pAsg, pVar, pC, pK, pCons, pNil, pTup, pLst, pDat, pMut, pOp, pB, pChain, pAndT, pOrT, pNotT, pAndV, pOrV, pNotV, pTru, pIfE, pNeg, pCall, pCallL, pCallQ, pCallG, pRaise, R.bind, R.to, R.bindN, O.toR, PR.to, truth, allD, view, viewAll, itemsL, itemsT, lenW, tagD, tagW, isTy, tyOk, scalar, R.freeze, pFor, pItL, pItT, pItS, pRng1, pRng2, qName, qNil, qCons, qTup, pSub, pNo, pSo, pYes, pBrk, pCnt, startS, clearO, gInt, gAddI, gSubI, gLtI, gLeI, gGtI, gGeI, gEqD, gNeD, gIsN, gIsB, gStr, gIsi, gLen, gAbs, gInt1, gMin2, gMax2, gSum, gMaxI, gMinI, gList, gSorted, gIx, gInD, isNonD, viewI, catW, pCat, gMaxT, pFld, pSetF, pMeth, pMake, insOf, putW, noAtt, pTry, pListRev, pSlL, pSlT, pIsi2, allD_nil, eqv_int, shaped_int, allD_ints, allD_map, intsOf_map, h1, h2]
    | _ => simp [b_is_number, q_is_number, isNumberD, pSeq, pNext, pIf, pSet, pDrop, pRet, pRetN, pAsg, pVar, pC, pK, pCons, pNil, pTup, pLst, pDat, pMut, pOp, pB, pChain, pAndT, pOrT, pNotT, pAndV, pOrV, pNotV, pTru, pIfE, pNeg, pCall, pCallL, pCallQ, pCallG, pRaise, R.bind, R.to, R.bindN, O.toR, PR.to, truth, allD, view, viewAll, itemsL, itemsT, lenW, tagD, tagW, isTy, tyOk, scalar, R.freeze, pFor, pItL, pItT, pItS, pRng1, pRng2, qName, qNil, qCons, qTup, pSub, pNo, pSo, pYes, pBrk, pCnt, startS, clearO, gInt, gAddI, gSubI, gLtI, gLeI, gGtI, gGeI, gEqD, gNeD, gIsN, gIsB, gStr, gIsi, gLen, gAbs, gInt1, gMin2, gMax2, gSum, gMaxI, gMinI, gList, gSorted, gIx, gInD, isNonD, viewI, catW, pCat, gMaxT, pFld, pSetF, pMeth, pMake, insOf, putW, noAtt, pTry, pListRev, pSlL, pSlT, pIsi2, allD_nil, eqv_int, shaped_int, allD_ints, allD_map, intsOf_map]
abbrev N_is_amount : List Str := ["value"]
def b_is_amount : PSx :=
  pRet (pCallQ q_is_number [] (pCons (pVar 0) (pCons (pNeg (pC (.int 1000000000))) (pCons (pC (.int 1000000000)) (pNil)))))
def f0_is_amount : PF := runG N_is_amount.length (["value"] : List Str).length (b_is_amount)
theorem run_is_amount {ws : List W} {M : Ms} (h : ws.length = 1) : f0_is_amount ws M = (b_is_amount (startS 1 ws) M).toR := runG_pos h
def isAmountD (d : PyData) : Bool := isNumberD d (-1000000000) 1000000000
def q_is_amount : List PyData → PR := fun ds => match ds with
  | [d] => .ok (.bool (isAmountD d))
  | _ => .stuck
theorem pure_is_amount : ∀ ds, q_is_amount ds ≠ .stuck → f0_is_amount.pure ds = q_is_amount ds := by
  intro ds h
  match ds, h with
  | [d], _ =>
    unfold PF.pure
    rw [run_is_amount rfl]
    simp [b_is_amount, q_is_amount, q_is_number, isAmountD, pSeq, pNext, pIf, pSet, pDrop, pRet, pRetN, pAsg, pVar, pC, pK, pCons, pNil, pTup, pLst, pDat, pMut, pOp, pB, pChain, pAndT, pOrT, pNotT, pAndV, pOrV, pNotV, pTru, pIfE, pNeg, pCall, pCallL, pCallQ, pCallG, pRaise, R.bind, R.to, R.bindN, O.toR, PR.to, truth, allD, view, viewAll, itemsL, itemsT, lenW, tagD, tagW, isTy, tyOk, scalar, R.freeze, pFor, pItL, pItT, pItS, pRng1, pRng2, qName, qNil, qCons, qTup, pSub, pNo, pSo, pYes, pBrk, pCnt, startS, clearO, gInt, gAddI, gSubI, gLtI, gLeI, gGtI, gGeI, gEqD, gNeD, gIsN, gIsB, gStr, gIsi, gLen, gAbs, gInt1, gMin2, gMax2, gSum, gMaxI, gMinI, gList, gSorted, gIx, gInD, isNonD, viewI, catW, pCat, gMaxT, pFld, pSetF, pMeth, pMake, insOf, putW, noAtt, pTry, pListRev, pSlL, pSlT, pIsi2, allD_nil, eqv_int, shaped_int, allD_ints, allD_map, intsOf_map]
abbrev N_is_account : List Str := ["word", "row"]
def b_is_account : PSx :=
  pSeq (pIf (pNotT (pTru (pCall gIsi (pCons (pVar 0) (pCons (pK (.ty "str")) pNil))))) (pRet (pC (.bool false))) (pNext))
  (pSeq (pSet 1 (pDat (pSplit (pVar 0) (pC (.str ".")))))
  (pRet (pAndV (pOp gEqD (pCall gLen (pCons (pVar 1) (pNil))) (pC (.int 2))) (pAndV (pCallQ q_is_name [] (pCons (pOp gIx (pVar 1) (pC (.int 0))) (pNil))) (pCallQ q_is_name [] (pCons (pOp gIx (pVar 1) (pC (.int 1))) (pNil)))))))
def f0_is_account : PF := runG N_is_account.length (["word"] : List Str).length (b_is_account)
theorem run_is_account {ws : List W} {M : Ms} (h : ws.length = 1) : f0_is_account ws M = (b_is_account (startS 2 ws) M).toR := runG_pos h
def isAccS (s : Str) : Bool := match Txt.split s "." with
  | [x, y] => isNameD (.str x) && isNameD (.str y)
  | _ => false
def q_is_account : List PyData → PR := fun ds => match ds with
  | [.str s] => if s.length ≤ 1000000 then .ok (.bool (isAccS s)) else .stuck
  | _ => .stuck
theorem pure_is_account : ∀ ds, q_is_account ds ≠ .stuck → f0_is_account.pure ds = q_is_account ds := by
  intro ds h
  match ds, h with
  | [.str s], h =>
    by_cases hl : s.length ≤ 1000000
    · unfold PF.pure
      rw [run_is_account rfl]
      have e1 : s.length + 2 ≤ sizeLine := Nat.le_trans (Nat.add_le_add_right hl 2) (by decide)
      have e2 : ("." : Str).length ≠ 0 := by decide
      have sp : pSplit (pVar 0) (pC (.str ".")) [some (.d (.str s)), none] [] = .ok (strsW (Txt.split s ".")) [] := by
        simp [pSplit, pVar, pC, R.bind, e1, e2]
      have ad : allD (strsW (Txt.split s ".")) = some ((Txt.split s ".").map .str) := allD_strs _
      unfold b_is_account
      rw [seq_nx (s' := [some (.d (.str s)), none]) (M' := []) (by simp [pSeq, pNext, pIf, pSet, pDrop, pRet, pRetN, pAsg, pVar, pC, pK, pCons, pNil, pTup, pLst, pDat, pMut, pOp, pB, pChain, pAndT, pOrT, pNotT, pAndV, pOrV, pNotV, pTru, pIfE, pNeg, pCall, pCallL, pCallQ, pCallG, pRaise, R.bind, R.to, R.bindN, O.toR, PR.to, truth, allD, view, viewAll, itemsL, itemsT, lenW, tagD, tagW, isTy, tyOk, scalar, R.freeze, pFor, pItL, pItT, pItS, pRng1, pRng2, qName, qNil, qCons, qTup, pSub, pNo, pSo, pYes, pBrk, pCnt, startS, clearO, gInt, gAddI, gSubI, gLtI, gLeI, gGtI, gGeI, gEqD, gNeD, gIsN, gIsB, gStr, gIsi, gLen, gAbs, gInt1, gMin2, gMax2, gSum, gMaxI, gMinI, gList, gSorted, gIx, gInD, isNonD, viewI, catW, pCat, gMaxT, pFld, pSetF, pMeth, pMake, insOf, putW, noAtt, pTry, pListRev, pSlL, pSlT, pIsi2, allD_nil, eqv_int, shaped_int, allD_ints, allD_map, intsOf_map])]
      rw [seq_nx (set_ok (dat_ok sp ad))]
      show (O.toR (pRet _ [some (.d (.str s)), some (.d (.list ((Txt.split s ".").map .str)))] [])).freeze = _
      unfold q_is_account isAccS
      simp only [hl, if_true]
      match hs : Txt.split s "." with
      | [] => simp [eqv_int, shaped_int, pSeq, pNext, pIf, pSet, pDrop, pRet, pRetN, pAsg, pVar, pC, pK, pCons, pNil, pTup, pLst, pDat, pMut, pOp, pB, pChain, pAndT, pOrT, pNotT, pAndV, pOrV, pNotV, pTru, pIfE, pNeg, pCall, pCallL, pCallQ, pCallG, pRaise, R.bind, R.to, R.bindN, O.toR, PR.to, truth, allD, view, viewAll, itemsL, itemsT, lenW, tagD, tagW, isTy, tyOk, scalar, R.freeze, pFor, pItL, pItT, pItS, pRng1, pRng2, qName, qNil, qCons, qTup, pSub, pNo, pSo, pYes, pBrk, pCnt, startS, clearO, gInt, gAddI, gSubI, gLtI, gLeI, gGtI, gGeI, gEqD, gNeD, gIsN, gIsB, gStr, gIsi, gLen, gAbs, gInt1, gMin2, gMax2, gSum, gMaxI, gMinI, gList, gSorted, gIx, gInD, isNonD, viewI, catW, pCat, gMaxT, pFld, pSetF, pMeth, pMake, insOf, putW, noAtt, pTry, pListRev, pSlL, pSlT, pIsi2, allD_nil, eqv_int, shaped_int, allD_ints, allD_map, intsOf_map]
      | [x] => simp [eqv_int, shaped_int, pSeq, pNext, pIf, pSet, pDrop, pRet, pRetN, pAsg, pVar, pC, pK, pCons, pNil, pTup, pLst, pDat, pMut, pOp, pB, pChain, pAndT, pOrT, pNotT, pAndV, pOrV, pNotV, pTru, pIfE, pNeg, pCall, pCallL, pCallQ, pCallG, pRaise, R.bind, R.to, R.bindN, O.toR, PR.to, truth, allD, view, viewAll, itemsL, itemsT, lenW, tagD, tagW, isTy, tyOk, scalar, R.freeze, pFor, pItL, pItT, pItS, pRng1, pRng2, qName, qNil, qCons, qTup, pSub, pNo, pSo, pYes, pBrk, pCnt, startS, clearO, gInt, gAddI, gSubI, gLtI, gLeI, gGtI, gGeI, gEqD, gNeD, gIsN, gIsB, gStr, gIsi, gLen, gAbs, gInt1, gMin2, gMax2, gSum, gMaxI, gMinI, gList, gSorted, gIx, gInD, isNonD, viewI, catW, pCat, gMaxT, pFld, pSetF, pMeth, pMake, insOf, putW, noAtt, pTry, pListRev, pSlL, pSlT, pIsi2, allD_nil, eqv_int, shaped_int, allD_ints, allD_map, intsOf_map]
      | [x, y] =>
        cases h1 : isNameD (.str x) <;> cases h2 : isNameD (.str y) <;> simp [eqv_int, shaped_int, atI, ixN, q_is_name, h1, h2, pSeq, pNext, pIf, pSet, pDrop, pRet, pRetN, pAsg, pVar, pC, pK, pCons, pNil, pTup, pLst, pDat, pMut, pOp, pB, pChain, pAndT, pOrT, pNotT, pAndV, pOrV, pNotV, pTru, pIfE, pNeg, pCall, pCallL, pCallQ, pCallG, pRaise, R.bind, R.to, R.bindN, O.toR, PR.to, truth, allD, view, viewAll, itemsL, itemsT, lenW, tagD, tagW, isTy, tyOk, scalar, R.freeze, pFor, pItL, pItT, pItS, pRng1, pRng2, qName, qNil, qCons, qTup, pSub, pNo, pSo, pYes, pBrk, pCnt, startS, clearO, gInt, gAddI, gSubI, gLtI, gLeI, gGtI, gGeI, gEqD, gNeD, gIsN, gIsB, gStr, gIsi, gLen, gAbs, gInt1, gMin2, gMax2, gSum, gMaxI, gMinI, gList, gSorted, gIx, gInD, isNonD, viewI, catW, pCat, gMaxT, pFld, pSetF, pMeth, pMake, insOf, putW, noAtt, pTry, pListRev, pSlL, pSlT, pIsi2, allD_nil, eqv_int, shaped_int, allD_ints, allD_map, intsOf_map]
      | x :: y :: z :: r =>
        have hne : ((r.length : Int) + 1 + 1 + 1 == 2) = false := by
          rw [beq_eq_false_iff_ne]
          omega
        simp [eqv_int, shaped_int, hne, pSeq, pNext, pIf, pSet, pDrop, pRet, pRetN, pAsg, pVar, pC, pK, pCons, pNil, pTup, pLst, pDat, pMut, pOp, pB, pChain, pAndT, pOrT, pNotT, pAndV, pOrV, pNotV, pTru, pIfE, pNeg, pCall, pCallL, pCallQ, pCallG, pRaise, R.bind, R.to, R.bindN, O.toR, PR.to, truth, allD, view, viewAll, itemsL, itemsT, lenW, tagD, tagW, isTy, tyOk, scalar, R.freeze, pFor, pItL, pItT, pItS, pRng1, pRng2, qName, qNil, qCons, qTup, pSub, pNo, pSo, pYes, pBrk, pCnt, startS, clearO, gInt, gAddI, gSubI, gLtI, gLeI, gGtI, gGeI, gEqD, gNeD, gIsN, gIsB, gStr, gIsi, gLen, gAbs, gInt1, gMin2, gMax2, gSum, gMaxI, gMinI, gList, gSorted, gIx, gInD, isNonD, viewI, catW, pCat, gMaxT, pFld, pSetF, pMeth, pMake, insOf, putW, noAtt, pTry, pListRev, pSlL, pSlT, pIsi2, allD_nil, eqv_int, shaped_int, allD_ints, allD_map, intsOf_map]
    · exact absurd (by simp [q_is_account, hl]) h
abbrev N_is_rows : List Str := ["rows", "names", "row", "name", "account", "amount"]
def lc0_is_rows : PAx :=
  pLc (pItT (pVar 0)) (qTup 2 (qCons (qName 4) (qCons (qName 5) (qNil)))) (pOrT (pNotT (pTru (pCallQ q_is_amount [] (pCons (pVar 5) (pNil))))) (pB (pOp gEqD (pVar 5) (pC (.int 0))))) (pVar 5) [4, 5]
def lc1_is_rows : PAx :=
  pLc (pItL (pVar 1)) (qName 3) (pNotT (pTru (pCallQ q_is_account [] (pCons (pVar 3) (pNil))))) (pVar 3) [3]
def lc2_is_rows : PAx :=
  pLc (pItT (pVar 0)) (qName 2) (pYes) (pOp gIx (pVar 2) (pC (.int 0))) [2]
def lc3_is_rows : PAx :=
  pLc (pItT (pVar 0)) (qName 2) (pOrT (pNotT (pTru (pCall gIsi (pCons (pVar 2) (pCons (pK (.ty "tuple")) pNil))))) (pB (pOp gNeD (pCall gLen (pCons (pVar 2) (pNil))) (pC (.int 2))))) (pVar 2) [2]
def b_is_rows : PSx :=
  pSeq (pIf (pOrT (pNotT (pTru (pCall gIsi (pCons (pVar 0) (pCons (pK (.ty "tuple")) pNil))))) (pNotT (pB (pChain (gLeI) (gLeI) (pC (.int 2)) (pCall gLen (pCons (pVar 0) (pNil))) (pC (.int 12)))))) (pRet (pC (.bool false))) (pNext))
  (pSeq (pIf (pTru (pDat (lc3_is_rows))) (pRet (pC (.bool false))) (pNext))
  (pSeq (pSet 1 (pDat (lc2_is_rows)))
  (pSeq (pIf (pOrT (pTru (pDat (lc1_is_rows))) (pB (pOp gNeD (pVar 1) (pDat (pSortSc (pItL (pVar 1)) (qName 3) (pYes) (pVar 3) [3]))))) (pRet (pC (.bool false))) (pNext))
  (pRet (pNotV (pDat (lc0_is_rows)))))))
def f0_is_rows : PF := runG N_is_rows.length (["rows"] : List Str).length (b_is_rows)
theorem run_is_rows {ws : List W} {M : Ms} (h : ws.length = 1) : f0_is_rows ws M = (b_is_rows (startS 6 ws) M).toR := runG_pos h
def q_is_rows : List PyData → PR := fun ds => match ds with
  | [.tuple []] => .ok (.bool false)
  | [.tuple [_]] => .ok (.bool false)
  | [.tuple [p, q]] => (match p, q with
    | .tuple [.str a, .int m], .tuple [.str b, .int n] => if a.length ≤ 1000 ∧ b.length ≤ 1000 then (if isAccS a = false ∨ isAccS b = false then .ok (.bool false) else if a = "a.a" ∧ b = "a.a" then .ok (.bool false) else if a = "a.a" ∧ b = "a.b" then
        .ok (.bool (isAmountD (.int m) && isAmountD (.int n) && decide (m ≠ 0) && decide (n ≠ 0))) else .stuck) else .stuck
    | _, _ => .stuck)
  | [.tuple [p, q, r]] => (match p, q, r with
    | .tuple [_, _], .tuple [_, _], .int _ => .ok (.bool false)
    | _, _, _ => .stuck)
  | _ => .stuck
def fstW (x : W) : W := match x with
  | .d (.tuple (d :: _)) => .d d
  | _ => x
theorem rows_names {s : Sl} {M : Ms} {a b : Str} {m n : Int} (h : s[0]? = some (some (.d (.tuple [.tuple [.str a, .int m], .tuple [.str b, .int n]])))) (hl : s.length = 6) : lc2_is_rows s M = .ok [.d (.str a), .d (.str b)] M := by
  unfold lc2_is_rows pLc pItT
  rw [var_ok h]
  simp only [R.bind]
  rw [if_pos (by show 2 ≤ sizeLine; decide)]
  rw [lcL_all fstW]
  · rfl
  · intro x hx
    refine ⟨(wipeS s [2]).set 2 (some x), rfl, ?_⟩
    have v : ((wipeS s [2]).set 2 (some x))[2]? = some (some x) := List.getElem?_set_self (by simp [wipeS, hl])
    rw [op_ok (y := .d (.int 0)) (M'' := M) (var_ok v) rfl]
    simp at hx
    rcases hx with rfl | rfl <;> rfl
def notAcc (x : W) : Bool := match x with
  | .d (.str s) => !(isAccS s)
  | _ => false
theorem rows_accs {s : Sl} {M : Ms} {a b : Str} (h : s[1]? = some (some (.d (.list [.str a, .str b])))) (hl : s.length = 6) (la : a.length ≤ 1000) (lb : b.length ≤ 1000) : lc1_is_rows s M = .ok ((if isAccS a then [] else [.d (.str a)]) ++ (if isAccS b then [] else [.d (.str b)])) M := by
  unfold lc1_is_rows pLc pItL
  rw [var_ok h]
  simp only [R.bind]
  rw [if_pos (by show 2 ≤ sizeLine; decide)]
  have a1 : a.length ≤ 1000000 := by omega
  have b1 : b.length ≤ 1000000 := by omega
  rw [lcL_pure notAcc id]
  · cases h1 : isAccS a <;> cases h2 : isAccS b <;> simp [notAcc, h1, h2]
  · intro x hx
    have hx' : ∃ c : Str, x = .d (.str c) ∧ c.length ≤ 1000000 := by
      simp at hx
      rcases hx with rfl | rfl
      · exact ⟨_, rfl, a1⟩
      · exact ⟨_, rfl, b1⟩
    obtain ⟨c, rfl, hc⟩ := hx'
    have v : ((wipeS s [3]).set 3 (some (W.d (.str c))))[3]? = some (some (.d (.str c))) := List.getElem?_set_self (by simp [wipeS, hl])
    refine ⟨(wipeS s [3]).set 3 (some (.d (.str c))), rfl, ?_, fun _ => var_ok v⟩
    unfold pNotT pTru pCallQ
    rw [cons_ok (var_ok v) nil_ok]
    simp [R.bind, allD, q_is_account, hc, PR.to, truth, notAcc]
def notPair (x : W) : Bool := match x with
  | .d (.tuple [_, _]) => false
  | _ => true
theorem pair_test {s1 : Sl} {M : Ms} {x : W} (v : s1[2]? = some (some x)) (hx : (∃ u w, x = .d (.tuple [u, w])) ∨ ∃ z, x = .d (.int z)) : pOrT (pNotT (pTru (pCall gIsi (pCons (pVar 2) (pCons (pK (.ty "tuple")) pNil))))) (pB (pOp gNeD (pCall gLen (pCons (pVar 2) (pNil))) (pC (.int 2)))) s1 M = .ok (notPair x) M := by
  rcases hx with ⟨u, w, rfl⟩ | ⟨z, rfl⟩
  · have c1 : pNotT (pTru (pCall gIsi (pCons (pVar 2) (pCons (pK (.ty "tuple")) pNil)))) s1 M = .ok false M := by
      unfold pNotT pTru pCall
      rw [cons_ok (var_ok v) (cons_ok rfl nil_ok)]
      rfl
    unfold pOrT
    rw [c1]
    simp only [R.bind, Bool.false_eq_true, if_false]
    unfold pB
    rw [op_ok (x := .d (.int 2)) (y := .d (.int 2)) (M' := M) (M'' := M) (by rw [call1 (var_ok v)]; rfl) rfl]
    simp [gNeD, view, shaped_int, eqv_int, R.bind, notPair]
  · have c1 : pNotT (pTru (pCall gIsi (pCons (pVar 2) (pCons (pK (.ty "tuple")) pNil)))) s1 M = .ok true M := by
      unfold pNotT pTru pCall
      rw [cons_ok (var_ok v) (cons_ok rfl nil_ok)]
      rfl
    unfold pOrT
    rw [c1]
    rfl
theorem rows_pairs {s : Sl} {M : Ms} {x y u v : PyData} (h : s[0]? = some (some (.d (.tuple [.tuple [x, y], .tuple [u, v]])))) (hl : s.length = 6) : lc3_is_rows s M = .ok [] M := by
  unfold lc3_is_rows pLc pItT
  rw [var_ok h]
  simp only [R.bind]
  rw [if_pos (by show 2 ≤ sizeLine; decide)]
  rw [lcL_pure notPair id]
  · rfl
  · intro z hz
    have v2 : ((wipeS s [2]).set 2 (some z))[2]? = some (some z) := List.getElem?_set_self (by simp [wipeS, hl])
    refine ⟨(wipeS s [2]).set 2 (some z), rfl, pair_test v2 ?_, fun _ => var_ok v2⟩
    simp at hz
    rcases hz with rfl | rfl
    · exact .inl ⟨_, _, rfl⟩
    · exact .inl ⟨_, _, rfl⟩
theorem rows_trip {s : Sl} {M : Ms} {x y u v : PyData} {z : Int} (h : s[0]? = some (some (.d (.tuple [.tuple [x, y], .tuple [u, v], .int z])))) (hl : s.length = 6) : lc3_is_rows s M = .ok [.d (.int z)] M := by
  unfold lc3_is_rows pLc pItT
  rw [var_ok h]
  simp only [R.bind]
  rw [if_pos (by show 3 ≤ sizeLine; decide)]
  rw [lcL_pure notPair id]
  · rfl
  · intro q hz
    have v2 : ((wipeS s [2]).set 2 (some q))[2]? = some (some q) := List.getElem?_set_self (by simp [wipeS, hl])
    refine ⟨(wipeS s [2]).set 2 (some q), rfl, pair_test v2 ?_, fun _ => var_ok v2⟩
    simp at hz
    rcases hz with rfl | rfl | rfl
    · exact .inl ⟨_, _, rfl⟩
    · exact .inl ⟨_, _, rfl⟩
    · exact .inr ⟨_, rfl⟩
def badAm (x : W) : Bool := match x with
  | .d (.tuple [_, .int m]) => !(isAmountD (.int m)) || m == 0
  | _ => false
def secW (x : W) : W := match x with
  | .d (.tuple [_, d]) => .d d
  | _ => x
theorem rows_amounts {s : Sl} {M : Ms} {a b : Str} {m n : Int} (h : s[0]? = some (some (.d (.tuple [.tuple [.str a, .int m], .tuple [.str b, .int n]])))) (hl : s.length = 6) : lc0_is_rows s M = .ok (([m, n].filter fun m => !(isAmountD (.int m)) || m == 0).map wi) M := by
  unfold lc0_is_rows pLc pItT
  rw [var_ok h]
  simp only [R.bind]
  rw [if_pos (by show 2 ≤ sizeLine; decide)]
  rw [lcL_pure badAm secW]
  · cases h1 : isAmountD (.int m) <;> cases h2 : isAmountD (.int n) <;> by_cases h3 : m = 0 <;> by_cases h4 : n = 0 <;> simp [badAm, secW, wi, h1, h2, h3, h4]
  · intro x hx
    have hx' : ∃ (c : Str) (k : Int), x = .d (.tuple [.str c, .int k]) := by
      simp at hx
      rcases hx with rfl | rfl
      · exact ⟨_, _, rfl⟩
      · exact ⟨_, _, rfl⟩
    obtain ⟨c, k, rfl⟩ := hx'
    obtain ⟨s1, hs1⟩ : ∃ s1 : Sl, s1 = ((wipeS s [4, 5]).set 4 (some (.d (.str c)))).set 5 (some (.d (.int k))) := ⟨_, rfl⟩
    have v5 : s1[5]? = some (some (.d (.int k))) := by
      rw [hs1]
      exact List.getElem?_set_self (by simp [wipeS, hl])
    refine ⟨s1, by rw [hs1]; simp [qTup, qCons, qNil, qName, itemsT], ?_, fun _ => var_ok v5⟩
    have c1 : pNotT (pTru (pCallQ q_is_amount [] (pCons (pVar 5) (pNil)))) s1 M = .ok (!(isAmountD (.int k))) M := by
      unfold pNotT pTru pCallQ
      rw [cons_ok (var_ok v5) nil_ok]
      simp [R.bind, allD, q_is_amount, PR.to, truth]
    have c2 : pB (pOp gEqD (pVar 5) (pC (.int 0))) s1 M = .ok (k == 0) M := by
      unfold pB
      rw [op_ok (y := .d (.int 0)) (M'' := M) (var_ok v5) rfl]
      simp [gEqD, view, shaped_int, eqv_int, R.bind]
    unfold pOrT
    rw [c1]
    simp only [R.bind, badAm]
    cases q : !(isAmountD (.int k))
    · simp only [Bool.false_eq_true, if_false, Bool.false_or]
      exact c2
    · rfl
theorem rows_set {s : Sl} {M : Ms} {a b : Str} (h : s[1]? = some (some (.d (.list [.str a, .str b])))) (hl : s.length = 6) : pSortSc (pItL (pVar 1)) (qName 3) (pYes) (pVar 3) [3] s M = .ok (strsW (sortS (if b = a then [a] else [a, b]))) M := by
  unfold pSortSc pScX pItL
  rw [var_ok h]
  simp only [R.bind]
  rw [if_pos (by show 2 < 999; decide)]
  have g3 : ∀ x : Option W, (s.set 3 x)[3]? = some x := fun x => List.getElem?_set_self (by rw [hl]; decide)
  have gv : ∀ x : W, pVar 3 (s.set 3 (some x)) M = .ok x M := fun x => var_ok (g3 _)
  by_cases e : b = a <;> simp [scL, wipeS, qName, pYes, R.bindN, gv, addU, e]
theorem sort_ab : sortS (["a.a", "a.b"] : List Str) = (["a.a", "a.b"] : List Str) := (sortS_uniq (List.Perm.refl _) (by
  refine List.pairwise_cons.mpr ⟨fun y hy => ?_, List.pairwise_singleton _ _⟩
  have e : y = "a.b" := by simpa using hy
  subst e
  unfold leS
  decide)).symm
theorem sort_one (a : Str) : sortS [a] = [a] := (sortS_uniq (List.Perm.refl _) (List.pairwise_singleton _ _)).symm
theorem pure_is_rows : ∀ ds, q_is_rows ds ≠ .stuck → f0_is_rows.pure ds = q_is_rows ds := by
  intro ds h
  match ds, h with
  | [.tuple []], _ =>
    unfold PF.pure
    rw [run_is_rows rfl]
    simp [b_is_rows, q_is_rows, pSeq, pNext, pIf, pSet, pDrop, pRet, pRetN, pAsg, pVar, pC, pK, pCons, pNil, pTup, pLst, pDat, pMut, pOp, pB, pChain, pAndT, pOrT, pNotT, pAndV, pOrV, pNotV, pTru, pIfE, pNeg, pCall, pCallL, pCallQ, pCallG, pRaise, R.bind, R.to, R.bindN, O.toR, PR.to, truth, allD, view, viewAll, itemsL, itemsT, lenW, tagD, tagW, isTy, tyOk, scalar, R.freeze, pFor, pItL, pItT, pItS, pRng1, pRng2, qName, qNil, qCons, qTup, pSub, pNo, pSo, pYes, pBrk, pCnt, startS, clearO, gInt, gAddI, gSubI, gLtI, gLeI, gGtI, gGeI, gEqD, gNeD, gIsN, gIsB, gStr, gIsi, gLen, gAbs, gInt1, gMin2, gMax2, gSum, gMaxI, gMinI, gList, gSorted, gIx, gInD, isNonD, viewI, catW, pCat, gMaxT, pFld, pSetF, pMeth, pMake, insOf, putW, noAtt, pTry, pListRev, pSlL, pSlT, pIsi2, allD_nil, eqv_int, shaped_int, allD_ints, allD_map, intsOf_map]
  | [.tuple [_]], _ =>
    unfold PF.pure
    rw [run_is_rows rfl]
    simp [b_is_rows, q_is_rows, pSeq, pNext, pIf, pSet, pDrop, pRet, pRetN, pAsg, pVar, pC, pK, pCons, pNil, pTup, pLst, pDat, pMut, pOp, pB, pChain, pAndT, pOrT, pNotT, pAndV, pOrV, pNotV, pTru, pIfE, pNeg, pCall, pCallL, pCallQ, pCallG, pRaise, R.bind, R.to, R.bindN, O.toR, PR.to, truth, allD, view, viewAll, itemsL, itemsT, lenW, tagD, tagW, isTy, tyOk, scalar, R.freeze, pFor, pItL, pItT, pItS, pRng1, pRng2, qName, qNil, qCons, qTup, pSub, pNo, pSo, pYes, pBrk, pCnt, startS, clearO, gInt, gAddI, gSubI, gLtI, gLeI, gGtI, gGeI, gEqD, gNeD, gIsN, gIsB, gStr, gIsi, gLen, gAbs, gInt1, gMin2, gMax2, gSum, gMaxI, gMinI, gList, gSorted, gIx, gInD, isNonD, viewI, catW, pCat, gMaxT, pFld, pSetF, pMeth, pMake, insOf, putW, noAtt, pTry, pListRev, pSlL, pSlT, pIsi2, allD_nil, eqv_int, shaped_int, allD_ints, allD_map, intsOf_map]
  | [.tuple [p, q]], h =>
    have hpq : ∃ a m b n, p = .tuple [.str a, .int m] ∧ q = .tuple [.str b, .int n] := by
      unfold q_is_rows at h
      simp only at h
      split at h
      · exact ⟨_, _, _, _, rfl, rfl⟩
      · exact absurd rfl h
    obtain ⟨a, m, b, n, rfl, rfl⟩ := hpq
    unfold PF.pure
    rw [run_is_rows rfl]
    obtain ⟨A, hA⟩ : ∃ A, A = PyData.tuple [.tuple [.str a, .int m], .tuple [.str b, .int n]] := ⟨_, rfl⟩
    by_cases hl : a.length ≤ 1000 ∧ b.length ≤ 1000
    · have s0 : startS 6 [W.d (PyData.tuple [.tuple [.str a, .int m], .tuple [.str b, .int n]])] = [some (.d A), none, none, none, none, none] := by rw [hA]; rfl
      show (O.toR (b_is_rows (startS 6 [W.d (PyData.tuple [.tuple [.str a, .int m], .tuple [.str b, .int n]])]) [])).freeze = _
      rw [s0]
      unfold b_is_rows
      rw [seq_nx (s' := [some (.d A), none, none, none, none, none]) (M' := []) (by rw [hA]; simp [pSeq, pNext, pIf, pSet, pDrop, pRet, pRetN, pAsg, pVar, pC, pK, pCons, pNil, pTup, pLst, pDat, pMut, pOp, pB, pChain, pAndT, pOrT, pNotT, pAndV, pOrV, pNotV, pTru, pIfE, pNeg, pCall, pCallL, pCallQ, pCallG, pRaise, R.bind, R.to, R.bindN, O.toR, PR.to, truth, allD, view, viewAll, itemsL, itemsT, lenW, tagD, tagW, isTy, tyOk, scalar, R.freeze, pFor, pItL, pItT, pItS, pRng1, pRng2, qName, qNil, qCons, qTup, pSub, pNo, pSo, pYes, pBrk, pCnt, startS, clearO, gInt, gAddI, gSubI, gLtI, gLeI, gGtI, gGeI, gEqD, gNeD, gIsN, gIsB, gStr, gIsi, gLen, gAbs, gInt1, gMin2, gMax2, gSum, gMaxI, gMinI, gList, gSorted, gIx, gInD, isNonD, viewI, catW, pCat, gMaxT, pFld, pSetF, pMeth, pMake, insOf, putW, noAtt, pTry, pListRev, pSlL, pSlT, pIsi2, allD_nil, eqv_int, shaped_int, allD_ints, allD_map, intsOf_map])]
      have t3 : pDat lc3_is_rows [some (.d A), none, none, none, none, none] [] = .ok (.d (.list [])) [] := dat_ok (rows_pairs (by rw [hA]; rfl) rfl) rfl
      rw [seq_nx (s' := [some (.d A), none, none, none, none, none]) (M' := []) (by
        rw [if_ff (M' := []) (by unfold pTru; rw [t3]; rfl)]
        rfl)]
      have t2 : pDat lc2_is_rows [some (.d A), none, none, none, none, none] [] = .ok (.d (.list [.str a, .str b])) [] := dat_ok (rows_names (by rw [hA]; rfl) rfl) rfl
      rw [seq_nx (set_ok t2)]
      obtain ⟨s1, hs1⟩ : ∃ s1 : Sl, s1 = [some (.d A), some (.d (.list [.str a, .str b])), none, none, none, none] := ⟨_, rfl⟩
      show (O.toR (pSeq _ _ [some (.d A), some (.d (.list [.str a, .str b])), none, none, none, none] [])).freeze = _
      rw [← hs1]
      have l1 : s1.length = 6 := by rw [hs1]; rfl
      have v0 : s1[0]? = some (some (.d (.tuple [.tuple [.str a, .int m], .tuple [.str b, .int n]]))) := by rw [hs1, hA]; rfl
      have v1 : s1[1]? = some (some (.d (.list [.str a, .str b]))) := by rw [hs1]; rfl
      have acc := rows_accs (M := []) v1 l1 hl.1 hl.2
      have fin : isAccS a = true → isAccS b = true → pTru (pDat lc1_is_rows) s1 [] = .ok false [] := fun h1 h2 => by
        rw [h1, h2] at acc
        unfold pTru
        rw [dat_ok acc rfl]
        rfl
      have finx : isAccS a = false ∨ isAccS b = false → pTru (pDat lc1_is_rows) s1 [] = .ok true [] := fun h12 => by
        unfold pTru
        cases h1 : isAccS a <;> cases h2 : isAccS b <;> rw [h1, h2] at acc
        · rw [dat_ok acc rfl]; rfl
        · rw [dat_ok acc rfl]; rfl
        · rw [dat_ok acc rfl]; rfl
        · rw [h1, h2] at h12; simp at h12
      by_cases h12 : isAccS a = false ∨ isAccS b = false
      · rw [seq_rt (x := .d (.bool false)) (M' := []) (by
          rw [if_tt (M' := []) (by unfold pOrT; rw [finx h12]; rfl)]
          rfl)]
        unfold q_is_rows
        simp only [hl, and_self, if_true, h12]
        rfl
      · have h1 : isAccS a = true := by cases q : isAccS a with | true => rfl | false => exact absurd (.inl q) h12
        have h2 : isAccS b = true := by cases q : isAccS b with | true => rfl | false => exact absurd (.inr q) h12
        have f1 := fin h1 h2
        by_cases c1 : a = "a.a" ∧ b = "a.a"
        · obtain ⟨rfl, rfl⟩ := c1
          have st := rows_set (M := []) v1 l1
          rw [if_pos rfl, sort_one] at st
          have sd : pDat (pSortSc (pItL (pVar 1)) (qName 3) (pYes) (pVar 3) [3]) s1 [] = .ok (.d (.list [.str "a.a"])) [] := dat_ok st rfl
          rw [seq_rt (x := .d (.bool false)) (M' := []) (by
            rw [if_tt (M' := []) (by
              unfold pOrT
              rw [f1]
              simp only [R.bind, Bool.false_eq_true, if_false]
              unfold pB
              rw [op_ok (var_ok v1) sd]
              have z1 : SeqAt.shaped (.list [.str "a.a", .str "a.a"]) = true := by decide +kernel
              have z2 : SeqAt.shaped (.list [.str "a.a"]) = true := by decide +kernel
              have z3 : PyData.eqv (.list [.str "a.a", .str "a.a"]) (.list [.str "a.a"]) = false := by decide +kernel
              simp [gNeD, view, z1, z2, z3, R.bind])]
            rfl)]
          unfold q_is_rows
          simp only [hl, and_self, if_true, h12, if_false]
          rfl
        · by_cases c2 : a = "a.a" ∧ b = "a.b"
          · obtain ⟨rfl, rfl⟩ := c2
            have st := rows_set (M := []) v1 l1
            rw [if_neg (by decide), sort_ab] at st
            have sd : pDat (pSortSc (pItL (pVar 1)) (qName 3) (pYes) (pVar 3) [3]) s1 [] = .ok (.d (.list [.str "a.a", .str "a.b"])) [] := dat_ok st rfl
            rw [seq_nx (s' := s1) (M' := []) (by
              rw [if_ff (M' := []) (by
                unfold pOrT
                rw [f1]
                simp only [R.bind, Bool.false_eq_true, if_false]
                unfold pB
                rw [op_ok (var_ok v1) sd]
                have z1 : SeqAt.shaped (.list [.str "a.a", .str "a.b"]) = true := by decide +kernel
                have z3 : PyData.eqv (.list [.str "a.a", .str "a.b"]) (.list [.str "a.a", .str "a.b"]) = true := by decide +kernel
                simp [gNeD, view, z1, z3, R.bind])]
              rfl)]
            have am := rows_amounts (M := []) v0 l1
            have amd : pDat lc0_is_rows s1 [] = .ok (.d (.list (([m, n].filter fun m => !(isAmountD (.int m)) || m == 0).map .int))) [] := dat_ok am (allD_wi _)
            have c1' : ¬ (("a.a" : Str) = "a.a" ∧ ("a.b" : Str) = "a.a") := by decide
            have rr : pNotV (pDat lc0_is_rows) s1 [] = .ok (.d (.bool (isAmountD (.int m) && isAmountD (.int n) && decide (m ≠ 0) && decide (n ≠ 0)))) [] := by
              unfold pNotV
              rw [amd]
              cases g1 : isAmountD (.int m) <;> cases g2 : isAmountD (.int n) <;> by_cases g3 : m = 0 <;> by_cases g4 : n = 0 <;> simp [R.bind, truth, g1, g2, g3, g4]
            rw [ret_ok rr]
            unfold q_is_rows
            simp only [hl, and_self, if_true, h12, if_false, c1']
            rfl
          · exact absurd (by simp [q_is_rows, hl, h12, c1, c2]) h
    · exact absurd (by simp [q_is_rows, hl]) h
  | [.tuple [p, q, r]], h =>
    have hpq : ∃ x y u v z, p = .tuple [x, y] ∧ q = .tuple [u, v] ∧ r = .int z := by
      unfold q_is_rows at h
      simp only at h
      split at h
      · exact ⟨_, _, _, _, _, rfl, rfl, rfl⟩
      · exact absurd rfl h
    obtain ⟨x, y, u, v, z, rfl, rfl, rfl⟩ := hpq
    unfold PF.pure
    rw [run_is_rows rfl]
    have t3 : pDat lc3_is_rows [some (.d (.tuple [.tuple [x, y], .tuple [u, v], .int z])), none, none, none, none, none] [] = .ok (.d (.list [.int z])) [] := dat_ok (rows_trip rfl rfl) rfl
    show (O.toR (b_is_rows [some (.d (.tuple [.tuple [x, y], .tuple [u, v], .int z])), none, none, none, none, none] [])).freeze = _
    unfold b_is_rows
    rw [seq_nx (s' := [some (.d (.tuple [.tuple [x, y], .tuple [u, v], .int z])), none, none, none, none, none]) (M' := []) (by simp [pSeq, pNext, pIf, pSet, pDrop, pRet, pRetN, pAsg, pVar, pC, pK, pCons, pNil, pTup, pLst, pDat, pMut, pOp, pB, pChain, pAndT, pOrT, pNotT, pAndV, pOrV, pNotV, pTru, pIfE, pNeg, pCall, pCallL, pCallQ, pCallG, pRaise, R.bind, R.to, R.bindN, O.toR, PR.to, truth, allD, view, viewAll, itemsL, itemsT, lenW, tagD, tagW, isTy, tyOk, scalar, R.freeze, pFor, pItL, pItT, pItS, pRng1, pRng2, qName, qNil, qCons, qTup, pSub, pNo, pSo, pYes, pBrk, pCnt, startS, clearO, gInt, gAddI, gSubI, gLtI, gLeI, gGtI, gGeI, gEqD, gNeD, gIsN, gIsB, gStr, gIsi, gLen, gAbs, gInt1, gMin2, gMax2, gSum, gMaxI, gMinI, gList, gSorted, gIx, gInD, isNonD, viewI, catW, pCat, gMaxT, pFld, pSetF, pMeth, pMake, insOf, putW, noAtt, pTry, pListRev, pSlL, pSlT, pIsi2, allD_nil, eqv_int, shaped_int, allD_ints, allD_map, intsOf_map])]
    rw [seq_rt (x := .d (.bool false)) (M' := []) (by
      rw [if_tt (M' := []) (by unfold pTru; rw [t3]; rfl)]
      rfl)]
    rfl
abbrev N_checked_order : List Str := ["rows", "first", "every", "last"]
def b_checked_order : PSx :=
  pSeq (pIf (pNotT (pTru (pCallQ q_is_rows [] (pCons (pVar 0) (pNil))))) (pRaise "InvalidPaper") (pNext))
  (pSeq (pIf (pOrT (pNotT (pTru (pCallQ q_is_number [] (pCons (pVar 1) (pCons (pC (.int 0)) (pCons (pC (.int 100000)) (pNil))))))) (pNotT (pTru (pCallQ q_is_number [] (pCons (pVar 2) (pCons (pC (.int 1)) (pCons (pC (.int 1000)) (pNil)))))))) (pRaise "InvalidNumber") (pNext))
  (pSeq (pIf (pAndT (pB (pOp (gIsN true) (pVar 3) (pC .none))) (pNotT (pTru (pCallQ q_is_number [] (pCons (pVar 3) (pCons (pVar 1) (pCons (pC (.int 100000)) (pNil)))))))) (pRaise "InvalidNumber") (pNext))
  (pRet (pTup (pCons (pVar 0) (pCons (pVar 1) (pCons (pVar 2) (pCons (pVar 3) (pNil)))))))))
def f0_checked_order : PF := runG N_checked_order.length (["rows", "first", "every", "last"] : List Str).length (b_checked_order)
theorem run_checked_order {ws : List W} {M : Ms} (h : ws.length = 4) : f0_checked_order ws M = (b_checked_order (startS 4 ws) M).toR := runG_pos h
def rowsOkD (d : PyData) : Option Bool := match q_is_rows [d] with
  | .ok (.bool b) => some b
  | _ => none
/-- what an order's making comes to -/
def orderR (rows first every last : PyData) : PR := match rowsOkD rows with
  | none => .stuck
  | some false => .exc ⟨"InvalidPaper", none⟩
  | some true => if isNumberD first 0 100000 = false ∨ isNumberD every 1 1000 = false then .exc ⟨"InvalidNumber", none⟩ else match last with
    | .none => .ok (.tuple [rows, first, every, last])
    | .int l => (match first with
      | .int f => if isNumberD (.int l) f 100000 = false then .exc ⟨"InvalidNumber", none⟩ else .ok (.tuple [rows, first, every, last])
      | _ => .stuck)
    | _ => .stuck
def q_checked_order : List PyData → PR := fun ds => match ds with
  | [a, b, c, d] => orderR a b c d
  | _ => .stuck
theorem pure_checked_order : ∀ ds, q_checked_order ds ≠ .stuck → f0_checked_order.pure ds = q_checked_order ds := by
  intro ds h
  match ds, h with
  | [a, b, c, d], h =>
    unfold PF.pure
    rw [run_checked_order rfl]
    have z4 : 4 ≤ sizeLine := by decide
    have h' : orderR a b c d ≠ .stuck := h
    show _ = orderR a b c d
    unfold orderR at h' ⊢
    cases hr : rowsOkD a with
    | none => rw [hr] at h'; exact absurd rfl h'
    | some r =>
      rw [hr] at h'
      have hq : q_is_rows [a] = .ok (.bool r) := by
        unfold rowsOkD at hr
        split at hr
        · rename_i e; cases hr; exact e
        · cases hr
      cases r with
      | false => simp [b_checked_order, hq, pSeq, pNext, pIf, pSet, pDrop, pRet, pRetN, pAsg, pVar, pC, pK, pCons, pNil, pTup, pLst, pDat, pMut, pOp, pB, pChain, pAndT, pOrT, pNotT, pAndV, pOrV, pNotV, pTru, pIfE, pNeg, pCall, pCallL, pCallQ, pCallG, pRaise, R.bind, R.to, R.bindN, O.toR, PR.to, truth, allD, view, viewAll, itemsL, itemsT, lenW, tagD, tagW, isTy, tyOk, scalar, R.freeze, pFor, pItL, pItT, pItS, pRng1, pRng2, qName, qNil, qCons, qTup, pSub, pNo, pSo, pYes, pBrk, pCnt, startS, clearO, gInt, gAddI, gSubI, gLtI, gLeI, gGtI, gGeI, gEqD, gNeD, gIsN, gIsB, gStr, gIsi, gLen, gAbs, gInt1, gMin2, gMax2, gSum, gMaxI, gMinI, gList, gSorted, gIx, gInD, isNonD, viewI, catW, pCat, gMaxT, pFld, pSetF, pMeth, pMake, insOf, putW, noAtt, pTry, pListRev, pSlL, pSlT, pIsi2, allD_nil, eqv_int, shaped_int, allD_ints, allD_map, intsOf_map]
      | true =>
        simp only at h' ⊢
        by_cases hn : isNumberD b 0 100000 = false ∨ isNumberD c 1 1000 = false
        · rw [if_pos hn]
          rcases hn with hn | hn
          · simp [b_checked_order, hq, q_is_number, hn, pSeq, pNext, pIf, pSet, pDrop, pRet, pRetN, pAsg, pVar, pC, pK, pCons, pNil, pTup, pLst, pDat, pMut, pOp, pB, pChain, pAndT, pOrT, pNotT, pAndV, pOrV, pNotV, pTru, pIfE, pNeg, pCall, pCallL, pCallQ, pCallG, pRaise, R.bind, R.to, R.bindN, O.toR, PR.to, truth, allD, view, viewAll, itemsL, itemsT, lenW, tagD, tagW, isTy, tyOk, scalar, R.freeze, pFor, pItL, pItT, pItS, pRng1, pRng2, qName, qNil, qCons, qTup, pSub, pNo, pSo, pYes, pBrk, pCnt, startS, clearO, gInt, gAddI, gSubI, gLtI, gLeI, gGtI, gGeI, gEqD, gNeD, gIsN, gIsB, gStr, gIsi, gLen, gAbs, gInt1, gMin2, gMax2, gSum, gMaxI, gMinI, gList, gSorted, gIx, gInD, isNonD, viewI, catW, pCat, gMaxT, pFld, pSetF, pMeth, pMake, insOf, putW, noAtt, pTry, pListRev, pSlL, pSlT, pIsi2, allD_nil, eqv_int, shaped_int, allD_ints, allD_map, intsOf_map]
          · cases h1 : isNumberD b 0 100000 <;> simp [b_checked_order, hq, q_is_number, hn, h1, pSeq, pNext, pIf, pSet, pDrop, pRet, pRetN, pAsg, pVar, pC, pK, pCons, pNil, pTup, pLst, pDat, pMut, pOp, pB, pChain, pAndT, pOrT, pNotT, pAndV, pOrV, pNotV, pTru, pIfE, pNeg, pCall, pCallL, pCallQ, pCallG, pRaise, R.bind, R.to, R.bindN, O.toR, PR.to, truth, allD, view, viewAll, itemsL, itemsT, lenW, tagD, tagW, isTy, tyOk, scalar, R.freeze, pFor, pItL, pItT, pItS, pRng1, pRng2, qName, qNil, qCons, qTup, pSub, pNo, pSo, pYes, pBrk, pCnt, startS, clearO, gInt, gAddI, gSubI, gLtI, gLeI, gGtI, gGeI, gEqD, gNeD, gIsN, gIsB, gStr, gIsi, gLen, gAbs, gInt1, gMin2, gMax2, gSum, gMaxI, gMinI, gList, gSorted, gIx, gInD, isNonD, viewI, catW, pCat, gMaxT, pFld, pSetF, pMeth, pMake, insOf, putW, noAtt, pTry, pListRev, pSlL, pSlT, pIsi2, allD_nil, eqv_int, shaped_int, allD_ints, allD_map, intsOf_map]
        · rw [if_neg hn] at h' ⊢
          have n1 : isNumberD b 0 100000 = true := by cases q : isNumberD b 0 100000 with | true => rfl | false => exact absurd (.inl q) hn
          have n2 : isNumberD c 1 1000 = true := by cases q : isNumberD c 1 1000 with | true => rfl | false => exact absurd (.inr q) hn
          cases d with
          | none => simp [b_checked_order, hq, q_is_number, n1, n2, z4, isNonD, pSeq, pNext, pIf, pSet, pDrop, pRet, pRetN, pAsg, pVar, pC, pK, pCons, pNil, pTup, pLst, pDat, pMut, pOp, pB, pChain, pAndT, pOrT, pNotT, pAndV, pOrV, pNotV, pTru, pIfE, pNeg, pCall, pCallL, pCallQ, pCallG, pRaise, R.bind, R.to, R.bindN, O.toR, PR.to, truth, allD, view, viewAll, itemsL, itemsT, lenW, tagD, tagW, isTy, tyOk, scalar, R.freeze, pFor, pItL, pItT, pItS, pRng1, pRng2, qName, qNil, qCons, qTup, pSub, pNo, pSo, pYes, pBrk, pCnt, startS, clearO, gInt, gAddI, gSubI, gLtI, gLeI, gGtI, gGeI, gEqD, gNeD, gIsN, gIsB, gStr, gIsi, gLen, gAbs, gInt1, gMin2, gMax2, gSum, gMaxI, gMinI, gList, gSorted, gIx, gInD, isNonD, viewI, catW, pCat, gMaxT, pFld, pSetF, pMeth, pMake, insOf, putW, noAtt, pTry, pListRev, pSlL, pSlT, pIsi2, allD_nil, eqv_int, shaped_int, allD_ints, allD_map, intsOf_map]
          | int l =>
            cases b with
            | int f =>
              cases h3 : isNumberD (.int l) f 100000 <;> simp [b_checked_order, hq, q_is_number, n1, n2, h3, z4, isNonD, pSeq, pNext, pIf, pSet, pDrop, pRet, pRetN, pAsg, pVar, pC, pK, pCons, pNil, pTup, pLst, pDat, pMut, pOp, pB, pChain, pAndT, pOrT, pNotT, pAndV, pOrV, pNotV, pTru, pIfE, pNeg, pCall, pCallL, pCallQ, pCallG, pRaise, R.bind, R.to, R.bindN, O.toR, PR.to, truth, allD, view, viewAll, itemsL, itemsT, lenW, tagD, tagW, isTy, tyOk, scalar, R.freeze, pFor, pItL, pItT, pItS, pRng1, pRng2, qName, qNil, qCons, qTup, pSub, pNo, pSo, pYes, pBrk, pCnt, startS, clearO, gInt, gAddI, gSubI, gLtI, gLeI, gGtI, gGeI, gEqD, gNeD, gIsN, gIsB, gStr, gIsi, gLen, gAbs, gInt1, gMin2, gMax2, gSum, gMaxI, gMinI, gList, gSorted, gIx, gInD, isNonD, viewI, catW, pCat, gMaxT, pFld, pSetF, pMeth, pMake, insOf, putW, noAtt, pTry, pListRev, pSlL, pSlT, pIsi2, allD_nil, eqv_int, shaped_int, allD_ints, allD_map, intsOf_map]
            | _ => exact absurd rfl h'
          | _ => exact absurd rfl h'
abbrev N_days_of : List Str := ["order", "upto", "rows", "first", "every", "last", "end"]
def b_days_of : PSx :=
  pSeq (pAsg (pVar 0) (qTup 4 (qCons (qName 2) (qCons (qName 3) (qCons (qName 4) (qCons (qName 5) (qNil)))))))
  (pSeq (pSet 6 (pIfE (pB (pOp (gIsN false) (pVar 5) (pC .none))) (pVar 1) (pCall gMin2 (pCons (pVar 1) (pCons (pVar 5) (pNil))))))
  (pRet (pDat (pListRg3 (pCons (pVar 3) (pCons (pOp gAddI (pVar 6) (pC (.int 1))) (pCons (pVar 4) (pNil))))))))
def f0_days_of : PF := runG N_days_of.length (["order", "upto"] : List Str).length (b_days_of)
theorem run_days_of {ws : List W} {M : Ms} (h : ws.length = 2) : f0_days_of ws M = (b_days_of (startS 7 ws) M).toR := runG_pos h
def dayCount (f e en : Int) : Nat := if f ≤ en then ((en - f) / e).toNat + 1 else 0
theorem rgSize_up {f e en : Int} (he : 1 ≤ e) : Builtin.Range.rangeSize f (en + 1) e = (dayCount f e en : Int) := by
  unfold Builtin.Range.rangeSize dayCount
  rw [if_pos (by omega)]
  by_cases h : f ≤ en
  · rw [if_pos (by omega), if_pos h]
    have e1 : en + 1 - f - 1 = en - f := by omega
    rw [e1]
    have z : 0 ≤ (en - f) / e := Int.ediv_nonneg (by omega) (by omega)
    omega
  · rw [if_neg (by omega), if_neg h]
    rfl
theorem dayCount_le {f e en : Int} (he : 1 ≤ e) (h0 : 0 ≤ f) (h1 : en ≤ 100000) : dayCount f e en ≤ 100001 := by
  unfold dayCount
  split
  · have z : (en - f) / e ≤ en - f := Int.ediv_le_self _ (by omega)
    omega
  · omega
theorem rgSmall_up {f e en : Int} (he : 1 ≤ e) (he2 : e ≤ 1000) (h0 : 0 ≤ f) (h2 : f ≤ 100000) (h3 : -1000 ≤ en) (h1 : en ≤ 100000) : Builtin.Range.small f (en + 1) e = true := by
  unfold Builtin.Range.small
  rw [rgSize_up he]
  have z := dayCount_le (en := en) he h0 h1
  have zz : (dayCount f e en : Int) ≤ 100001 := by omega
  have y : (2 : Int) ^ 63 = 9223372036854775808 := by decide
  simp only [Builtin.Range.rangeFitsLong, Bool.and_eq_true, Bool.or_eq_true, decide_eq_true_eq, beq_iff_eq]
  rw [if_pos (by omega)]
  simp only [y, Bool.and_eq_true, decide_eq_true_eq]
  omega
def endOf (last : PyData) (upto : Int) : Option Int := match last with
  | .none => some upto
  | .int l => some (if l < upto then l else upto)
  | _ => none
def q_days_of : List PyData → PR := fun ds => match ds with
  | [.tuple [rows, .int f, .int e, last], .int upto] => (match endOf last upto with
    | some en => if 1 ≤ e ∧ e ≤ 1000 ∧ 0 ≤ f ∧ f ≤ 100000 ∧ -1000 ≤ en ∧ en ≤ 100000 then .ok (.list ((List.range (dayCount f e en)).map fun k => .int (f + (k : Nat) * e))) else .stuck
    | none => .stuck)
  | _ => .stuck
theorem days_list {s : Sl} {M : Ms} {f e en : Int} (h3 : s[3]? = some (some (.d (.int f)))) (h4 : s[4]? = some (some (.d (.int e)))) (h6 : s[6]? = some (some (.d (.int en)))) (c1 : 1 ≤ e) (c2 : e ≤ 1000) (c3 : 0 ≤ f) (c4 : f ≤ 100000) (c5 : -1000 ≤ en) (c6 : en ≤ 100000) :
    pDat (pListRg3 (pCons (pVar 3) (pCons (pOp gAddI (pVar 6) (pC (.int 1))) (pCons (pVar 4) (pNil))))) s M = .ok (.d (.list ((List.range (dayCount f e en)).map fun k => .int (f + (k : Nat) * e)))) M := by
  have sz := dayCount_le (en := en) c1 c3 c6
  have p1 : pOp gAddI (pVar 6) (pC (.int 1)) s M = .ok (.d (.int (en + 1))) M := by
    rw [op_ok (y := .d (.int 1)) (M'' := M) (var_ok h6) rfl]
    rfl
  have p2 : pListRg3 (pCons (pVar 3) (pCons (pOp gAddI (pVar 6) (pC (.int 1))) (pCons (pVar 4) (pNil)))) s M = .ok (((List.range (dayCount f e en)).map fun k => PyData.int (f + (k : Nat) * e)).map W.d) M := by
    unfold pListRg3
    rw [cons_ok (var_ok h3) (cons_ok p1 (cons_ok (var_ok h4) nil_ok))]
    simp only [R.bind, allD, Option.map]
    rw [if_pos ⟨by omega, by omega, rgSmall_up c1 c2 c3 c4 c5 c6, by rw [rgSize_up c1]; omega, by rw [rgSize_up c1]; omega⟩, rgSize_up c1, Int.toNat_natCast, List.map_map]
    rfl
  exact dat_ok p2 (allD_map _)
theorem pure_days_of : ∀ ds, q_days_of ds ≠ .stuck → f0_days_of.pure ds = q_days_of ds := by
  intro ds h
  match ds, h with
  | [.tuple [rows, .int f, .int e, last], .int upto], h =>
    unfold PF.pure
    rw [run_days_of rfl]
    unfold q_days_of at h ⊢
    cases he : endOf last upto with
    | none => simp only [he] at h; exact absurd rfl h
    | some en =>
      simp only [he] at h ⊢
      by_cases hc : 1 ≤ e ∧ e ≤ 1000 ∧ 0 ≤ f ∧ f ≤ 100000 ∧ -1000 ≤ en ∧ en ≤ 100000
      · rw [if_pos hc]
        obtain ⟨c1, c2, c3, c4, c5, c6⟩ := hc
        show (O.toR (b_days_of [some (.d (.tuple [rows, .int f, .int e, last])), some (.d (.int upto)), none, none, none, none, none] [])).freeze = _
        unfold b_days_of
        rw [seq_nx (s' := [some (.d (.tuple [rows, .int f, .int e, last])), some (.d (.int upto)), some (.d rows), some (.d (.int f)), some (.d (.int e)), some (.d last), none]) (M' := []) (by
          simp [pAsg, qTup, qCons, qNil, qName, itemsT, pVar, R.to])]
        have e6 : pIfE (pB (pOp (gIsN false) (pVar 5) (pC .none))) (pVar 1) (pCall gMin2 (pCons (pVar 1) (pCons (pVar 5) (pNil)))) [some (.d (.tuple [rows, .int f, .int e, last])), some (.d (.int upto)), some (.d rows), some (.d (.int f)), some (.d (.int e)), some (.d last), none] [] = .ok (.d (.int en)) [] := by
          cases last with
          | none => simp only [endOf, Option.some.injEq] at he; subst he; rfl
          | int l => simp only [endOf, Option.some.injEq] at he; subst he; rfl
          | _ => simp [endOf] at he
        rw [seq_nx (set_ok e6)]
        rw [ret_ok (days_list (f := f) (e := e) (en := en) rfl rfl rfl c1 c2 c3 c4 c5 c6)]
        rfl
      · rw [if_neg hc] at h
        exact absurd rfl h
abbrev N_next_day : List Str := ["order", "after", "rows", "first", "every", "last", "day"]
def b_next_day : PSx :=
  pSeq (pAsg (pVar 0) (qTup 4 (qCons (qName 2) (qCons (qName 3) (qCons (qName 4) (qCons (qName 5) (qNil)))))))
  (pSeq (pIf (pB (pOp gLtI (pVar 1) (pVar 3))) (pSet 6 (pVar 3)) (pSet 6 (pOp gAddI (pVar 3) (pOp gMulI (pOp gAddI (pOp gDivI (pOp gSubI (pVar 1) (pVar 3)) (pVar 4)) (pC (.int 1))) (pVar 4)))))
  (pRet (pIfE (pB (pOp gLeI (pVar 6) (pIfE (pB (pOp (gIsN false) (pVar 5) (pC .none))) (pC (.int 100000)) (pVar 5)))) (pVar 6) (pC .none))))
def f0_next_day : PF := runG N_next_day.length (["order", "after"] : List Str).length (b_next_day)
theorem run_next_day {ws : List W} {M : Ms} (h : ws.length = 2) : f0_next_day ws M = (b_next_day (startS 7 ws) M).toR := runG_pos h
/-- the end of an order -/
def topD (last : PyData) : Option Int := match last with
  | .none => some 100000
  | .int l => some l
  | _ => none
/-- the first day behind a day, if there were no end -/
def nextRaw (f e a : Int) : Int := if a < f then f else f + ((a - f).fdiv e + 1) * e
def nextD (f e tp a : Int) : Option Int := if nextRaw f e a ≤ tp then some (nextRaw f e a) else none
def optD : Option Int → PyData
  | some d => .int d
  | none => .none
def q_next_day : List PyData → PR := fun ds => match ds with
  | [.tuple [rows, .int f, .int e, last], .int a] => (match topD last with
    | some tp => if 1 ≤ e ∧ e ≤ 1000 then .ok (optD (nextD f e tp a)) else .stuck
    | none => .stuck)
  | _ => .stuck
theorem pure_next_day : ∀ ds, q_next_day ds ≠ .stuck → f0_next_day.pure ds = q_next_day ds := by
  intro ds h
  match ds, h with
  | [.tuple [rows, .int f, .int e, last], .int a], h =>
    unfold PF.pure
    rw [run_next_day rfl]
    unfold q_next_day at h ⊢
    cases ht : topD last with
    | none => simp only [ht] at h; exact absurd rfl h
    | some tp =>
      simp only [ht] at h ⊢
      by_cases hc : 1 ≤ e ∧ e ≤ 1000
      · rw [if_pos hc]
        obtain ⟨c1, c2⟩ := hc
        show (O.toR (b_next_day [some (.d (.tuple [rows, .int f, .int e, last])), some (.d (.int a)), none, none, none, none, none] [])).freeze = _
        unfold b_next_day
        rw [seq_nx (s' := [some (.d (.tuple [rows, .int f, .int e, last])), some (.d (.int a)), some (.d rows), some (.d (.int f)), some (.d (.int e)), some (.d last), none]) (M' := []) (by
          simp [pAsg, qTup, qCons, qNil, qName, itemsT, pVar, R.to])]
        have hd : ∀ {M : Ms}, gDivI (.d (.int (a - f))) (.d (.int e)) M = .ok (.d (.int ((a - f).fdiv e))) M := div_ok (by omega) (by omega)
        have hm : ∀ {M : Ms}, gMulI (.d (.int ((a - f).fdiv e + 1))) (.d (.int e)) M = .ok (.d (.int (((a - f).fdiv e + 1) * e))) M := mul_ok (.inr (by omega))
        rw [seq_nx (s' := [some (.d (.tuple [rows, .int f, .int e, last])), some (.d (.int a)), some (.d rows), some (.d (.int f)), some (.d (.int e)), some (.d last), some (.d (.int (nextRaw f e a)))]) (M' := []) (by
          by_cases q : a < f
          · simp [q, nextRaw, pSeq, pNext, pIf, pSet, pDrop, pRet, pRetN, pAsg, pVar, pC, pK, pCons, pNil, pTup, pLst, pDat, pMut, pOp, pB, pChain, pAndT, pOrT, pNotT, pAndV, pOrV, pNotV, pTru, pIfE, pNeg, pCall, pCallL, pCallQ, pCallG, pRaise, R.bind, R.to, R.bindN, O.toR, PR.to, truth, allD, view, viewAll, itemsL, itemsT, lenW, tagD, tagW, isTy, tyOk, scalar, R.freeze, pFor, pItL, pItT, pItS, pRng1, pRng2, qName, qNil, qCons, qTup, pSub, pNo, pSo, pYes, pBrk, pCnt, startS, clearO, gInt, gAddI, gSubI, gLtI, gLeI, gGtI, gGeI, gEqD, gNeD, gIsN, gIsB, gStr, gIsi, gLen, gAbs, gInt1, gMin2, gMax2, gSum, gMaxI, gMinI, gList, gSorted, gIx, gInD, isNonD, viewI, catW, pCat, gMaxT, pFld, pSetF, pMeth, pMake, insOf, putW, noAtt, pTry, pListRev, pSlL, pSlT, pIsi2, allD_nil, eqv_int, shaped_int, allD_ints, allD_map, intsOf_map]
          · simp [q, nextRaw, hd, hm, pSeq, pNext, pIf, pSet, pDrop, pRet, pRetN, pAsg, pVar, pC, pK, pCons, pNil, pTup, pLst, pDat, pMut, pOp, pB, pChain, pAndT, pOrT, pNotT, pAndV, pOrV, pNotV, pTru, pIfE, pNeg, pCall, pCallL, pCallQ, pCallG, pRaise, R.bind, R.to, R.bindN, O.toR, PR.to, truth, allD, view, viewAll, itemsL, itemsT, lenW, tagD, tagW, isTy, tyOk, scalar, R.freeze, pFor, pItL, pItT, pItS, pRng1, pRng2, qName, qNil, qCons, qTup, pSub, pNo, pSo, pYes, pBrk, pCnt, startS, clearO, gInt, gAddI, gSubI, gLtI, gLeI, gGtI, gGeI, gEqD, gNeD, gIsN, gIsB, gStr, gIsi, gLen, gAbs, gInt1, gMin2, gMax2, gSum, gMaxI, gMinI, gList, gSorted, gIx, gInD, isNonD, viewI, catW, pCat, gMaxT, pFld, pSetF, pMeth, pMake, insOf, putW, noAtt, pTry, pListRev, pSlL, pSlT, pIsi2, allD_nil, eqv_int, shaped_int, allD_ints, allD_map, intsOf_map])]
        have tt : pIfE (pB (pOp (gIsN false) (pVar 5) (pC .none))) (pC (.int 100000)) (pVar 5) [some (.d (.tuple [rows, .int f, .int e, last])), some (.d (.int a)), some (.d rows), some (.d (.int f)), some (.d (.int e)), some (.d last), some (.d (.int (nextRaw f e a)))] [] = .ok (.d (.int tp)) [] := by
          cases last with
          | none => simp only [topD, Option.some.injEq] at ht; subst ht; rfl
          | int l => simp only [topD, Option.some.injEq] at ht; subst ht; rfl
          | _ => simp [topD] at ht
        have tst : pB (pOp gLeI (pVar 6) (pIfE (pB (pOp (gIsN false) (pVar 5) (pC .none))) (pC (.int 100000)) (pVar 5))) [some (.d (.tuple [rows, .int f, .int e, last])), some (.d (.int a)), some (.d rows), some (.d (.int f)), some (.d (.int e)), some (.d last), some (.d (.int (nextRaw f e a)))] [] = .ok (decide (nextRaw f e a ≤ tp)) [] := by
          refine pB_ok ?_
          rw [op_ok (x := .d (.int (nextRaw f e a))) (M' := []) (var_ok rfl) tt]
          rfl
        unfold nextD
        by_cases q : nextRaw f e a ≤ tp
        · rw [ret_ok (x := .d (.int (nextRaw f e a))) (M' := []) (by
            rw [ife_tt (M' := []) (by rw [tst]; simp [q])]
            rfl), if_pos q]
          rfl
        · rw [ret_ok (x := .d .none) (M' := []) (by
            rw [ife_ff (M' := []) (by rw [tst]; simp [q])]
            rfl), if_neg q]
          rfl
      · rw [if_neg hc] at h
        exact absurd rfl h
abbrev N_Standing_init : List Str := ["self"]
def b_Standing_init (C_Standing : Addr) : PSx :=
  pSetF C_Standing "_orders" (pNewD) (pVar 0)
def f0_Standing_init (C_Standing : Addr) : PF := runG N_Standing_init.length (["self"] : List Str).length (b_Standing_init C_Standing)
theorem run_Standing_init (C_Standing : Addr) {ws : List W} {M : Ms} (h : ws.length = 1) : f0_Standing_init C_Standing ws M = (b_Standing_init C_Standing (startS 1 ws) M).toR := runG_pos h
abbrev f_Standing_init (C_Standing : Addr) : PF := f0_Standing_init C_Standing
abbrev N_Standing_names : List Str := ["self"]
def b_Standing_names (C_Standing : Addr) : PSx :=
  pRet (pDat (pCallL gSortedK (pCons (pFld C_Standing "_orders" (pVar 0)) (pNil))))
def f0_Standing_names (C_Standing : Addr) : PF := runG N_Standing_names.length (["self"] : List Str).length (b_Standing_names C_Standing)
theorem run_Standing_names (C_Standing : Addr) {ws : List W} {M : Ms} (h : ws.length = 1) : f0_Standing_names C_Standing ws M = (b_Standing_names C_Standing (startS 1 ws) M).toR := runG_pos h
abbrev f_Standing_names (C_Standing : Addr) : PF := f0_Standing_names C_Standing
abbrev N_Standing_order : List Str := ["self", "name"]
def b_Standing_order (C_Standing : Addr) : PSx :=
  pSeq (pIf (pB (pDin true (pVar 1) (pFld C_Standing "_orders" (pVar 0)))) (pNever) (pNext))
  (pRet (pGetD (pFld C_Standing "_orders" (pVar 0)) (pVar 1)))
def f0_Standing_order (C_Standing : Addr) : PF := runG N_Standing_order.length (["self", "name"] : List Str).length (b_Standing_order C_Standing)
theorem run_Standing_order (C_Standing : Addr) {ws : List W} {M : Ms} (h : ws.length = 2) : f0_Standing_order C_Standing ws M = (b_Standing_order C_Standing (startS 2 ws) M).toR := runG_pos h
abbrev f_Standing_order (C_Standing : Addr) : PF := f0_Standing_order C_Standing
abbrev N_Standing_add : List Str := ["self", "name", "rows", "first", "every", "last", "order", "one"]
def lc0_Standing_add (C_Standing : Addr) : PAx :=
  pLc (pKeys (pFld C_Standing "_orders" (pVar 0))) (qName 7) (pB (pOp gEqD (pOp gIx (pGetD (pFld C_Standing "_orders" (pVar 0)) (pVar 7)) (pC (.int 0))) (pVar 2))) (pVar 7) [7]
def b_Standing_add (C_Standing : Addr) : PSx :=
  pSeq (pDrop (pCallQ q_checked_name [] (pCons (pVar 1) (pNil))))
  (pSeq (pSet 6 (pCallQ q_checked_order [] (pCons (pVar 2) (pCons (pVar 3) (pCons (pVar 4) (pCons (pVar 5) (pNil)))))))
  (pSeq (pIf (pOrT (pB (pDin false (pVar 1) (pFld C_Standing "_orders" (pVar 0)))) (pTru (pDat (pLock (pickP (pFld C_Standing "_orders" (pVar 0))) ((lc0_Standing_add C_Standing)))))) (pNever) (pNext))
  (pSeq (pIf (pB (pOp gGeI (pCall gLenD (pCons (pFld C_Standing "_orders" (pVar 0)) (pNil))) (pC (.int 40)))) (pNever) (pNext))
  (pPutD (pVar 6) (pFld C_Standing "_orders" (pVar 0)) (pVar 1)))))
def f0_Standing_add (C_Standing : Addr) : PF := runG N_Standing_add.length (["self", "name", "rows", "first", "every", "last"] : List Str).length (b_Standing_add C_Standing)
theorem run_Standing_add (C_Standing : Addr) {ws : List W} {M : Ms} (h : ws.length = 6) : f0_Standing_add C_Standing ws M = (b_Standing_add C_Standing (startS 8 ws) M).toR := runG_pos h
abbrev f_Standing_add (C_Standing : Addr) : PF := f0_Standing_add C_Standing
abbrev N_Standing_end : List Str := ["self", "name", "day", "rows", "first", "every", "last", "one"]
def b_Standing_end (C_Standing : Addr) : PSx :=
  pSeq (pAsg (pMeth C_Standing "order" ((f_Standing_order C_Standing)) [] (pVar 0) (pCons (pVar 1) (pNil))) (qTup 4 (qCons (qName 3) (qCons (qName 4) (qCons (qName 5) (qCons (qName 6) (qNil)))))))
  (pSeq (pIf (pNotT (pTru (pCallQ q_is_number [] (pCons (pVar 2) (pCons (pC (.int 0)) (pCons (pC (.int 100000)) (pNil))))))) (pRaise "InvalidNumber") (pNext))
  (pIf (pB (pOp gLtI (pVar 2) (pVar 4))) (pSetF C_Standing "_orders" (pLock (pickP (pFld C_Standing "_orders" (pVar 0))) (pDc (pKeys (pFld C_Standing "_orders" (pVar 0))) (qName 7) (pB (pOp gNeD (pVar 7) (pVar 1))) (pVar 7) (pGetD (pFld C_Standing "_orders" (pVar 0)) (pVar 7)) [7])) (pVar 0)) (pPutD (pTup (pCons (pVar 3) (pCons (pVar 4) (pCons (pVar 5) (pCons (pIfE (pB (pOp (gIsN false) (pVar 6) (pC .none))) (pVar 2) (pCall gMin2 (pCons (pVar 2) (pCons (pVar 6) (pNil))))) (pNil)))))) (pFld C_Standing "_orders" (pVar 0)) (pVar 1))))
def f0_Standing_end (C_Standing : Addr) : PF := runG N_Standing_end.length (["self", "name", "day"] : List Str).length (b_Standing_end C_Standing)
theorem run_Standing_end (C_Standing : Addr) {ws : List W} {M : Ms} (h : ws.length = 3) : f0_Standing_end C_Standing ws M = (b_Standing_end C_Standing (startS 8 ws) M).toR := runG_pos h
abbrev f_Standing_end (C_Standing : Addr) : PF := f0_Standing_end C_Standing
abbrev N_Standing_coming : List Str := ["self", "after", "many", "rows", "name", "day", "k"]
def lp0_Standing_coming (C_Standing : Addr) : PSx :=
  pIf (pB (pOp (gIsN true) (pVar 5) (pC .none))) (pSeq (pApp (pVar 3) (pTup (pCons (pVar 5) (pCons (pVar 4) (pNil)))))
  (pSet 5 (pCallQ q_next_day [] (pCons (pGetD (pFld C_Standing "_orders" (pVar 0)) (pVar 4)) (pCons (pVar 5) (pNil)))))) (pNext)
def lp1_Standing_coming (C_Standing : Addr) : PSx :=
  pSeq (pSet 5 (pCallQ q_next_day [] (pCons (pGetD (pFld C_Standing "_orders" (pVar 0)) (pVar 4)) (pCons (pVar 1) (pNil)))))
  (pFor (pRng1 (pVar 2)) (qName 6) ((lp0_Standing_coming C_Standing)))
def b_Standing_coming (C_Standing : Addr) : PSx :=
  pSeq (pIf (pNotT (pTru (pCallQ q_is_number [] (pCons (pVar 2) (pCons (pC (.int 0)) (pCons (pC (.int 1000)) (pNil))))))) (pRaise "InvalidNumber") (pNext))
  (pSeq (pSet 3 (pMut (pLst (pNil))))
  (pSeq (pFor (pItL (pMeth C_Standing "names" ((f_Standing_names C_Standing)) [] (pVar 0) pNil)) (qName 4) ((lp1_Standing_coming C_Standing)))
  (pRet (pDat (pSlL (pDat (pCallL gSorted (pCons (pVar 3) (pNil)))) (pNo) (pSo (pVar 2)))))))
def f0_Standing_coming (C_Standing : Addr) : PF := runG N_Standing_coming.length (["self", "after", "many"] : List Str).length (b_Standing_coming C_Standing)
theorem run_Standing_coming (C_Standing : Addr) {ws : List W} {M : Ms} (h : ws.length = 3) : f0_Standing_coming C_Standing ws M = (b_Standing_coming C_Standing (startS 7 ws) M).toR := runG_pos h
abbrev f_Standing_coming (C_Standing : Addr) : PF := f0_Standing_coming C_Standing
abbrev N__law_same : List Str := ["actual", "due", "k"]
def lp0__law_same (rec : List PyData → PR) : PSx :=
  pIf (pNotT (pTru (pCallQ rec [] (pCons (pOp gIx (pVar 0) (pVar 2)) (pCons (pOp gIx (pVar 1) (pVar 2)) (pNil)))))) (pRet (pC (.bool false))) (pNext)
def b__law_same (rec : List PyData → PR) : PSx :=
  pSeq (pIf (pB (pOp (gIsN false) (pVar 1) (pC .none))) (pRet (pOp (gIsN false) (pVar 0) (pC .none))) (pNext))
  (pSeq (pIf (pTru (pIsi2 (pVar 1) "tuple" "list")) (pSeq (pIf (pOrT (pB (pOp gNeD (pCall gIsi (pCons (pVar 1) (pCons (pK (.ty "tuple")) pNil))) (pCall gIsi (pCons (pVar 0) (pCons (pK (.ty "tuple")) pNil))))) (pB (pOp gNeD (pCall gIsi (pCons (pVar 1) (pCons (pK (.ty "list")) pNil))) (pCall gIsi (pCons (pVar 0) (pCons (pK (.ty "list")) pNil)))))) (pRet (pC (.bool false))) (pNext))
  (pSeq (pIf (pB (pOp gNeD (pCall gLen (pCons (pVar 0) (pNil))) (pCall gLen (pCons (pVar 1) (pNil))))) (pRet (pC (.bool false))) (pNext))
  (pSeq (pFor (pRng1 (pCall gLen (pCons (pVar 1) (pNil)))) (qName 2) ((lp0__law_same rec)))
  (pRet (pC (.bool true)))))) (pNext))
  (pSeq (pIf (pTru (pCall gIsi (pCons (pVar 1) (pCons (pK (.ty "bool")) pNil)))) (pRet (pAndV (pCall gIsi (pCons (pVar 0) (pCons (pK (.ty "bool")) pNil))) (pOp gEqD (pVar 0) (pVar 1)))) (pNext))
  (pSeq (pIf (pTru (pCall gIsi (pCons (pVar 1) (pCons (pK (.ty "int")) pNil)))) (pRet (pAndV (pCall gIsi (pCons (pVar 0) (pCons (pK (.ty "int")) pNil))) (pAndV (pNotV (pCall gIsi (pCons (pVar 0) (pCons (pK (.ty "bool")) pNil)))) (pOp gEqD (pVar 0) (pVar 1))))) (pNext))
  (pRet (pAndV (pCall gIsi (pCons (pVar 0) (pCons (pK (.ty "str")) pNil))) (pOp gEqD (pVar 0) (pVar 1)))))))
def f0__law_same (rec : List PyData → PR) : PF := runG N__law_same.length (["actual", "due"] : List Str).length (b__law_same rec)
theorem run__law_same (rec : List PyData → PR) {ws : List W} {M : Ms} (h : ws.length = 2) : f0__law_same rec ws M = (b__law_same rec (startS 3 ws) M).toR := runG_pos h
mutual
/-- data whose sameness the law asks, so deep -/
def sameOk : Nat → PyData → Bool
  | _, .none => true
  | _, .bool _ => true
  | _, .int _ => true
  | _, .str s => PyData.strOk s
  | 0, .list _ => false
  | 0, .tuple _ => false
  | n + 1, .list ds => decide (ds.length ≤ 1000000) && sameAll n ds
  | n + 1, .tuple ds => decide (ds.length ≤ 1000000) && sameAll n ds
  | _, .dict _ => false
def sameAll : Nat → List PyData → Bool
  | _, [] => true
  | n, d :: ds => sameOk n d && sameAll n ds
end
theorem sameAll_at : ∀ {n : Nat} {ds : List PyData}, sameAll n ds = true → ∀ (i : Nat) (h : i < ds.length), sameOk n ds[i] = true
  | _, [], _, _, h => by simp at h
  | n, d :: ds, s, i, h => by
    unfold sameAll at s
    simp only [Bool.and_eq_true] at s
    cases i with
    | zero => exact s.1
    | succ j => simpa using sameAll_at s.2 j (by simpa using h)
open Classical in
/-- the same data: yes -/
def qs (n : Nat) : List PyData → PR := fun ds => match ds with
  | [a, d] => if a = d ∧ sameOk n d = true then .ok (.bool true) else .stuck
  | _ => .stuck
def recOf : Nat → List PyData → PR
  | 0 => fun _ => .stuck
  | n + 1 => qs n
def q__law_same : List PyData → PR := qs 5
open Classical in
theorem qs_ok {n : Nat} {d : PyData} (h : sameOk n d = true) : qs n [d, d] = .ok (.bool true) := by
  show (if d = d ∧ sameOk n d = true then PR.ok (.bool true) else .stuck) = _
  rw [if_pos ⟨rfl, h⟩]
theorem same_loop {A : PyData} {xs : List PyData} {n : Nat} (hix : ∀ (i : Nat) (h : i < xs.length), gIx (.d A) (.d (.int i)) [] = .ok (.d xs[i]) []) (hs : sameAll n xs = true) : ∀ (l : List Nat) (s : Option W), (∀ i ∈ l, i < xs.length) →
    ∃ s', forL (qName 2) (lp0__law_same (qs n)) (l.map fun i : Nat => W.d (.int (0 + (i : Int)))) [some (.d A), some (.d A), s] [] = .nx [some (.d A), some (.d A), s'] []
  | [], s, _ => ⟨s, rfl⟩
  | i :: l, s, hl => by
    have hi := hl i List.mem_cons_self
    obtain ⟨s', ih⟩ := same_loop hix hs l (some (.d (.int (0 + (i : Int))))) fun j hj => hl j (List.mem_cons_of_mem _ hj)
    refine ⟨s', ?_⟩
    rw [List.map_cons, forL]
    have hg : qName 2 (.d (.int (0 + (i : Int)))) [some (.d A), some (.d A), s] [] = some [some (.d A), some (.d A), some (.d (.int (0 + (i : Int))))] := rfl
    rw [hg]
    have hx := hix i hi
    have hq := qs_ok (sameAll_at hs i hi)
    have hb : lp0__law_same (qs n) [some (.d A), some (.d A), some (.d (.int (0 + (i : Int))))] [] = .nx [some (.d A), some (.d A), some (.d (.int (0 + (i : Int))))] [] := by
      rw [Int.zero_add]
      unfold lp0__law_same
      rw [if_ff (M' := []) (by
        unfold pNotT pTru pCallQ pCons pNil pOp pVar
        simp only [List.getElem?_cons_zero, List.getElem?_cons_succ, R.bind, hx, allD, Option.map, List.append_nil, hq, PR.to, truth]
        rfl)]
      rfl
    simp only [hb]
    exact ih
theorem eqv_bool (a b : Bool) : PyData.eqv (.bool a) (.bool b) = (a == b) := by
  first
  | rfl
  | simp [PyData.eqv]
theorem shaped_bool (a : Bool) : SeqAt.shaped (.bool a) = true := by
  first
  | rfl
  | simp [SeqAt.shaped]
theorem eqv_str (a b : Str) : PyData.eqv (.str a) (.str b) = (a == b) := by
  first
  | rfl
  | simp [PyData.eqv]
theorem shaped_str {a : Str} (h : PyData.strOk a = true) : SeqAt.shaped (.str a) = true := by
  simp [SeqAt.shaped, PyData.canLay0, PyData.depth, h]
theorem pure__law_same : ∀ (n : Nat) (ds : List PyData), qs n ds ≠ .stuck → (f0__law_same (recOf n)).pure ds = qs n ds := by
  intro n ds h
  match ds, h with
  | [a, d], h =>
    have hc : a = d ∧ sameOk n d = true := by
      unfold qs at h
      simp only at h
      split at h
      · assumption
      · exact absurd rfl h
    obtain ⟨rfl, hs⟩ := hc
    rw [qs_ok hs]
    unfold PF.pure
    rw [run__law_same _ rfl]
    have e1 : (PyData.int 0 : PyData) = .int 0 := rfl
    cases a with
    | none => simp [b__law_same, pSeq, pNext, pIf, pSet, pDrop, pRet, pRetN, pAsg, pVar, pC, pK, pCons, pNil, pTup, pLst, pDat, pMut, pOp, pB, pChain, pAndT, pOrT, pNotT, pAndV, pOrV, pNotV, pTru, pIfE, pNeg, pCall, pCallL, pCallQ, pCallG, pRaise, R.bind, R.to, R.bindN, O.toR, PR.to, truth, allD, view, viewAll, itemsL, itemsT, lenW, tagD, tagW, isTy, tyOk, scalar, R.freeze, pFor, pItL, pItT, pItS, pRng1, pRng2, qName, qNil, qCons, qTup, pSub, pNo, pSo, pYes, pBrk, pCnt, startS, clearO, gInt, gAddI, gSubI, gLtI, gLeI, gGtI, gGeI, gEqD, gNeD, gIsN, gIsB, gStr, gIsi, gLen, gAbs, gInt1, gMin2, gMax2, gSum, gMaxI, gMinI, gList, gSorted, gIx, gInD, isNonD, viewI, catW, pCat, gMaxT, pFld, pSetF, pMeth, pMake, insOf, putW, noAtt, pTry, pListRev, pSlL, pSlT, pIsi2, allD_nil, eqv_int, shaped_int, allD_ints, allD_map, intsOf_map]
    | bool b => cases b <;> simp [b__law_same, eqv_bool, shaped_bool, pSeq, pNext, pIf, pSet, pDrop, pRet, pRetN, pAsg, pVar, pC, pK, pCons, pNil, pTup, pLst, pDat, pMut, pOp, pB, pChain, pAndT, pOrT, pNotT, pAndV, pOrV, pNotV, pTru, pIfE, pNeg, pCall, pCallL, pCallQ, pCallG, pRaise, R.bind, R.to, R.bindN, O.toR, PR.to, truth, allD, view, viewAll, itemsL, itemsT, lenW, tagD, tagW, isTy, tyOk, scalar, R.freeze, pFor, pItL, pItT, pItS, pRng1, pRng2, qName, qNil, qCons, qTup, pSub, pNo, pSo, pYes, pBrk, pCnt, startS, clearO, gInt, gAddI, gSubI, gLtI, gLeI, gGtI, gGeI, gEqD, gNeD, gIsN, gIsB, gStr, gIsi, gLen, gAbs, gInt1, gMin2, gMax2, gSum, gMaxI, gMinI, gList, gSorted, gIx, gInD, isNonD, viewI, catW, pCat, gMaxT, pFld, pSetF, pMeth, pMake, insOf, putW, noAtt, pTry, pListRev, pSlL, pSlT, pIsi2, allD_nil, eqv_int, shaped_int, allD_ints, allD_map, intsOf_map]
    | int i => simp [b__law_same, eqv_bool, shaped_bool, pSeq, pNext, pIf, pSet, pDrop, pRet, pRetN, pAsg, pVar, pC, pK, pCons, pNil, pTup, pLst, pDat, pMut, pOp, pB, pChain, pAndT, pOrT, pNotT, pAndV, pOrV, pNotV, pTru, pIfE, pNeg, pCall, pCallL, pCallQ, pCallG, pRaise, R.bind, R.to, R.bindN, O.toR, PR.to, truth, allD, view, viewAll, itemsL, itemsT, lenW, tagD, tagW, isTy, tyOk, scalar, R.freeze, pFor, pItL, pItT, pItS, pRng1, pRng2, qName, qNil, qCons, qTup, pSub, pNo, pSo, pYes, pBrk, pCnt, startS, clearO, gInt, gAddI, gSubI, gLtI, gLeI, gGtI, gGeI, gEqD, gNeD, gIsN, gIsB, gStr, gIsi, gLen, gAbs, gInt1, gMin2, gMax2, gSum, gMaxI, gMinI, gList, gSorted, gIx, gInD, isNonD, viewI, catW, pCat, gMaxT, pFld, pSetF, pMeth, pMake, insOf, putW, noAtt, pTry, pListRev, pSlL, pSlT, pIsi2, allD_nil, eqv_int, shaped_int, allD_ints, allD_map, intsOf_map]
    | str s =>
      have hst : PyData.strOk s = true := by cases n <;> simpa [sameOk] using hs
      simp [b__law_same, eqv_str, shaped_str hst, pSeq, pNext, pIf, pSet, pDrop, pRet, pRetN, pAsg, pVar, pC, pK, pCons, pNil, pTup, pLst, pDat, pMut, pOp, pB, pChain, pAndT, pOrT, pNotT, pAndV, pOrV, pNotV, pTru, pIfE, pNeg, pCall, pCallL, pCallQ, pCallG, pRaise, R.bind, R.to, R.bindN, O.toR, PR.to, truth, allD, view, viewAll, itemsL, itemsT, lenW, tagD, tagW, isTy, tyOk, scalar, R.freeze, pFor, pItL, pItT, pItS, pRng1, pRng2, qName, qNil, qCons, qTup, pSub, pNo, pSo, pYes, pBrk, pCnt, startS, clearO, gInt, gAddI, gSubI, gLtI, gLeI, gGtI, gGeI, gEqD, gNeD, gIsN, gIsB, gStr, gIsi, gLen, gAbs, gInt1, gMin2, gMax2, gSum, gMaxI, gMinI, gList, gSorted, gIx, gInD, isNonD, viewI, catW, pCat, gMaxT, pFld, pSetF, pMeth, pMake, insOf, putW, noAtt, pTry, pListRev, pSlL, pSlT, pIsi2, allD_nil, eqv_int, shaped_int, allD_ints, allD_map, intsOf_map]
    | dict kvs => cases n <;> simp [sameOk] at hs
    | list xs =>
      cases n with
      | zero => simp [sameOk] at hs
      | succ n =>
        simp only [sameOk, Bool.and_eq_true, decide_eq_true_eq] at hs
        obtain ⟨hl, hs⟩ := hs
        obtain ⟨s', q1⟩ := same_loop (A := .list xs) (xs := xs) (n := n) (fun i hi => by
          unfold gIx itemsL
          simp only
          rw [atI_nat, List.getElem?_map, List.getElem?_eq_getElem hi]
          rfl) hs (List.range xs.length) none (fun i hi => List.mem_range.mp hi)
        have it : pRng1 (pCall gLen (pCons (pVar 1) pNil)) [some (.d (.list xs)), some (.d (.list xs)), none] [] = .ok (rngW 0 xs.length) [] := rng1_ok (len_list rfl) hl
        unfold b__law_same
        rw [show recOf (n + 1) = qs n from rfl]
        show (O.toR (pSeq _ _ [some (.d (.list xs)), some (.d (.list xs)), none] [])).freeze = _
        rw [seq_nx (s' := [some (.d (.list xs)), some (.d (.list xs)), none]) (M' := []) (by simp [pSeq, pNext, pIf, pSet, pDrop, pRet, pRetN, pAsg, pVar, pC, pK, pCons, pNil, pTup, pLst, pDat, pMut, pOp, pB, pChain, pAndT, pOrT, pNotT, pAndV, pOrV, pNotV, pTru, pIfE, pNeg, pCall, pCallL, pCallQ, pCallG, pRaise, R.bind, R.to, R.bindN, O.toR, PR.to, truth, allD, view, viewAll, itemsL, itemsT, lenW, tagD, tagW, isTy, tyOk, scalar, R.freeze, pFor, pItL, pItT, pItS, pRng1, pRng2, qName, qNil, qCons, qTup, pSub, pNo, pSo, pYes, pBrk, pCnt, startS, clearO, gInt, gAddI, gSubI, gLtI, gLeI, gGtI, gGeI, gEqD, gNeD, gIsN, gIsB, gStr, gIsi, gLen, gAbs, gInt1, gMin2, gMax2, gSum, gMaxI, gMinI, gList, gSorted, gIx, gInD, isNonD, viewI, catW, pCat, gMaxT, pFld, pSetF, pMeth, pMake, insOf, putW, noAtt, pTry, pListRev, pSlL, pSlT, pIsi2, allD_nil, eqv_int, shaped_int, allD_ints, allD_map, intsOf_map])]
        rw [seq_rt (x := .d (.bool true)) (M' := []) (by
          rw [if_tt (M' := []) (by simp [pSeq, pNext, pIf, pSet, pDrop, pRet, pRetN, pAsg, pVar, pC, pK, pCons, pNil, pTup, pLst, pDat, pMut, pOp, pB, pChain, pAndT, pOrT, pNotT, pAndV, pOrV, pNotV, pTru, pIfE, pNeg, pCall, pCallL, pCallQ, pCallG, pRaise, R.bind, R.to, R.bindN, O.toR, PR.to, truth, allD, view, viewAll, itemsL, itemsT, lenW, tagD, tagW, isTy, tyOk, scalar, R.freeze, pFor, pItL, pItT, pItS, pRng1, pRng2, qName, qNil, qCons, qTup, pSub, pNo, pSo, pYes, pBrk, pCnt, startS, clearO, gInt, gAddI, gSubI, gLtI, gLeI, gGtI, gGeI, gEqD, gNeD, gIsN, gIsB, gStr, gIsi, gLen, gAbs, gInt1, gMin2, gMax2, gSum, gMaxI, gMinI, gList, gSorted, gIx, gInD, isNonD, viewI, catW, pCat, gMaxT, pFld, pSetF, pMeth, pMake, insOf, putW, noAtt, pTry, pListRev, pSlL, pSlT, pIsi2, allD_nil, eqv_int, shaped_int, allD_ints, allD_map, intsOf_map])]
          rw [seq_nx (s' := [some (.d (.list xs)), some (.d (.list xs)), none]) (M' := []) (by simp [eqv_bool, shaped_bool, pSeq, pNext, pIf, pSet, pDrop, pRet, pRetN, pAsg, pVar, pC, pK, pCons, pNil, pTup, pLst, pDat, pMut, pOp, pB, pChain, pAndT, pOrT, pNotT, pAndV, pOrV, pNotV, pTru, pIfE, pNeg, pCall, pCallL, pCallQ, pCallG, pRaise, R.bind, R.to, R.bindN, O.toR, PR.to, truth, allD, view, viewAll, itemsL, itemsT, lenW, tagD, tagW, isTy, tyOk, scalar, R.freeze, pFor, pItL, pItT, pItS, pRng1, pRng2, qName, qNil, qCons, qTup, pSub, pNo, pSo, pYes, pBrk, pCnt, startS, clearO, gInt, gAddI, gSubI, gLtI, gLeI, gGtI, gGeI, gEqD, gNeD, gIsN, gIsB, gStr, gIsi, gLen, gAbs, gInt1, gMin2, gMax2, gSum, gMaxI, gMinI, gList, gSorted, gIx, gInD, isNonD, viewI, catW, pCat, gMaxT, pFld, pSetF, pMeth, pMake, insOf, putW, noAtt, pTry, pListRev, pSlL, pSlT, pIsi2, allD_nil, eqv_int, shaped_int, allD_ints, allD_map, intsOf_map])]
          rw [seq_nx (s' := [some (.d (.list xs)), some (.d (.list xs)), none]) (M' := []) (by simp [eqv_bool, shaped_bool, pSeq, pNext, pIf, pSet, pDrop, pRet, pRetN, pAsg, pVar, pC, pK, pCons, pNil, pTup, pLst, pDat, pMut, pOp, pB, pChain, pAndT, pOrT, pNotT, pAndV, pOrV, pNotV, pTru, pIfE, pNeg, pCall, pCallL, pCallQ, pCallG, pRaise, R.bind, R.to, R.bindN, O.toR, PR.to, truth, allD, view, viewAll, itemsL, itemsT, lenW, tagD, tagW, isTy, tyOk, scalar, R.freeze, pFor, pItL, pItT, pItS, pRng1, pRng2, qName, qNil, qCons, qTup, pSub, pNo, pSo, pYes, pBrk, pCnt, startS, clearO, gInt, gAddI, gSubI, gLtI, gLeI, gGtI, gGeI, gEqD, gNeD, gIsN, gIsB, gStr, gIsi, gLen, gAbs, gInt1, gMin2, gMax2, gSum, gMaxI, gMinI, gList, gSorted, gIx, gInD, isNonD, viewI, catW, pCat, gMaxT, pFld, pSetF, pMeth, pMake, insOf, putW, noAtt, pTry, pListRev, pSlL, pSlT, pIsi2, allD_nil, eqv_int, shaped_int, allD_ints, allD_map, intsOf_map])]
          rw [seq_nx ((for_ok it).trans q1)]
          rfl)]
        rfl
    | tuple xs =>
      cases n with
      | zero => simp [sameOk] at hs
      | succ n =>
        simp only [sameOk, Bool.and_eq_true, decide_eq_true_eq] at hs
        obtain ⟨hl, hs⟩ := hs
        obtain ⟨s', q1⟩ := same_loop (A := .tuple xs) (xs := xs) (n := n) (fun i hi => by
          unfold gIx itemsL itemsT
          simp only
          rw [atI_nat, List.getElem?_map, List.getElem?_eq_getElem hi]
          rfl) hs (List.range xs.length) none (fun i hi => List.mem_range.mp hi)
        have it : pRng1 (pCall gLen (pCons (pVar 1) pNil)) [some (.d (.tuple xs)), some (.d (.tuple xs)), none] [] = .ok (rngW 0 xs.length) [] := rng1_ok (by
          unfold pCall pCons pVar pNil
          simp only [List.getElem?_cons_succ, List.getElem?_cons_zero, R.bind, gLen, lenW, itemsL, itemsT, List.length_map]) hl
        unfold b__law_same
        rw [show recOf (n + 1) = qs n from rfl]
        show (O.toR (pSeq _ _ [some (.d (.tuple xs)), some (.d (.tuple xs)), none] [])).freeze = _
        rw [seq_nx (s' := [some (.d (.tuple xs)), some (.d (.tuple xs)), none]) (M' := []) (by simp [pSeq, pNext, pIf, pSet, pDrop, pRet, pRetN, pAsg, pVar, pC, pK, pCons, pNil, pTup, pLst, pDat, pMut, pOp, pB, pChain, pAndT, pOrT, pNotT, pAndV, pOrV, pNotV, pTru, pIfE, pNeg, pCall, pCallL, pCallQ, pCallG, pRaise, R.bind, R.to, R.bindN, O.toR, PR.to, truth, allD, view, viewAll, itemsL, itemsT, lenW, tagD, tagW, isTy, tyOk, scalar, R.freeze, pFor, pItL, pItT, pItS, pRng1, pRng2, qName, qNil, qCons, qTup, pSub, pNo, pSo, pYes, pBrk, pCnt, startS, clearO, gInt, gAddI, gSubI, gLtI, gLeI, gGtI, gGeI, gEqD, gNeD, gIsN, gIsB, gStr, gIsi, gLen, gAbs, gInt1, gMin2, gMax2, gSum, gMaxI, gMinI, gList, gSorted, gIx, gInD, isNonD, viewI, catW, pCat, gMaxT, pFld, pSetF, pMeth, pMake, insOf, putW, noAtt, pTry, pListRev, pSlL, pSlT, pIsi2, allD_nil, eqv_int, shaped_int, allD_ints, allD_map, intsOf_map])]
        rw [seq_rt (x := .d (.bool true)) (M' := []) (by
          rw [if_tt (M' := []) (by simp [pSeq, pNext, pIf, pSet, pDrop, pRet, pRetN, pAsg, pVar, pC, pK, pCons, pNil, pTup, pLst, pDat, pMut, pOp, pB, pChain, pAndT, pOrT, pNotT, pAndV, pOrV, pNotV, pTru, pIfE, pNeg, pCall, pCallL, pCallQ, pCallG, pRaise, R.bind, R.to, R.bindN, O.toR, PR.to, truth, allD, view, viewAll, itemsL, itemsT, lenW, tagD, tagW, isTy, tyOk, scalar, R.freeze, pFor, pItL, pItT, pItS, pRng1, pRng2, qName, qNil, qCons, qTup, pSub, pNo, pSo, pYes, pBrk, pCnt, startS, clearO, gInt, gAddI, gSubI, gLtI, gLeI, gGtI, gGeI, gEqD, gNeD, gIsN, gIsB, gStr, gIsi, gLen, gAbs, gInt1, gMin2, gMax2, gSum, gMaxI, gMinI, gList, gSorted, gIx, gInD, isNonD, viewI, catW, pCat, gMaxT, pFld, pSetF, pMeth, pMake, insOf, putW, noAtt, pTry, pListRev, pSlL, pSlT, pIsi2, allD_nil, eqv_int, shaped_int, allD_ints, allD_map, intsOf_map])]
          rw [seq_nx (s' := [some (.d (.tuple xs)), some (.d (.tuple xs)), none]) (M' := []) (by simp [eqv_bool, shaped_bool, pSeq, pNext, pIf, pSet, pDrop, pRet, pRetN, pAsg, pVar, pC, pK, pCons, pNil, pTup, pLst, pDat, pMut, pOp, pB, pChain, pAndT, pOrT, pNotT, pAndV, pOrV, pNotV, pTru, pIfE, pNeg, pCall, pCallL, pCallQ, pCallG, pRaise, R.bind, R.to, R.bindN, O.toR, PR.to, truth, allD, view, viewAll, itemsL, itemsT, lenW, tagD, tagW, isTy, tyOk, scalar, R.freeze, pFor, pItL, pItT, pItS, pRng1, pRng2, qName, qNil, qCons, qTup, pSub, pNo, pSo, pYes, pBrk, pCnt, startS, clearO, gInt, gAddI, gSubI, gLtI, gLeI, gGtI, gGeI, gEqD, gNeD, gIsN, gIsB, gStr, gIsi, gLen, gAbs, gInt1, gMin2, gMax2, gSum, gMaxI, gMinI, gList, gSorted, gIx, gInD, isNonD, viewI, catW, pCat, gMaxT, pFld, pSetF, pMeth, pMake, insOf, putW, noAtt, pTry, pListRev, pSlL, pSlT, pIsi2, allD_nil, eqv_int, shaped_int, allD_ints, allD_map, intsOf_map])]
          rw [seq_nx (s' := [some (.d (.tuple xs)), some (.d (.tuple xs)), none]) (M' := []) (by simp [eqv_bool, shaped_bool, pSeq, pNext, pIf, pSet, pDrop, pRet, pRetN, pAsg, pVar, pC, pK, pCons, pNil, pTup, pLst, pDat, pMut, pOp, pB, pChain, pAndT, pOrT, pNotT, pAndV, pOrV, pNotV, pTru, pIfE, pNeg, pCall, pCallL, pCallQ, pCallG, pRaise, R.bind, R.to, R.bindN, O.toR, PR.to, truth, allD, view, viewAll, itemsL, itemsT, lenW, tagD, tagW, isTy, tyOk, scalar, R.freeze, pFor, pItL, pItT, pItS, pRng1, pRng2, qName, qNil, qCons, qTup, pSub, pNo, pSo, pYes, pBrk, pCnt, startS, clearO, gInt, gAddI, gSubI, gLtI, gLeI, gGtI, gGeI, gEqD, gNeD, gIsN, gIsB, gStr, gIsi, gLen, gAbs, gInt1, gMin2, gMax2, gSum, gMaxI, gMinI, gList, gSorted, gIx, gInD, isNonD, viewI, catW, pCat, gMaxT, pFld, pSetF, pMeth, pMake, insOf, putW, noAtt, pTry, pListRev, pSlL, pSlT, pIsi2, allD_nil, eqv_int, shaped_int, allD_ints, allD_map, intsOf_map])]
          rw [seq_nx ((for_ok it).trans q1)]
          rfl)]
        rfl
  | [], h => exact absurd rfl h
  | [_], h => exact absurd rfl h
  | _ :: _ :: _ :: _, h => exact absurd rfl h
abbrev N__law_draw : List Str := ["pool", "many", "found", "cell", "mixed"]
def b__law_draw : PSx :=
  pSeq (pIf (pB (pOp gGtI (pOp gIx (pVar 0) (pC (.int 2))) (pC (.int 0)))) (pSeq (pSet 2 (pOp gModI (pCall gInt1 (pCons (pOp gIx (pVar 0) (pC (.int 2))) (pNil))) (pVar 1)))
  (pSeq (pSub (pOp gDivI (pOp gIx (pVar 0) (pC (.int 2))) (pVar 1)) (pVar 0) (pC (.int 2)))
  (pRet (pVar 2)))) (pNext))
  (pSeq (pIf (pAndT (pB (pOp gEqD (pOp gModI (pCall gInt1 (pCons (pOp gIx (pVar 0) (pC (.int 4))) (pNil))) (pC (.int 8))) (pC (.int 0)))) (pB (pOp gLtI (pOp gIx (pVar 0) (pC (.int 1))) (pCall gLen (pCons (pOp gIx (pVar 0) (pC (.int 0))) (pNil)))))) (pSeq (pSet 3 (pCall gAbs (pCons (pOp gIx (pOp gIx (pVar 0) (pC (.int 0))) (pOp gIx (pVar 0) (pC (.int 1)))) (pNil))))
  (pSeq (pSub (pOp gAddI (pOp gIx (pVar 0) (pC (.int 1))) (pC (.int 1))) (pVar 0) (pC (.int 1)))
  (pSeq (pIf (pB (pOp gGeI (pVar 3) (pOp gPowI (pC (.int 10)) (pC (.int 18))))) (pSeq (pSub (pOp gDivI (pVar 3) (pVar 1)) (pVar 0) (pC (.int 2)))
  (pRet (pOp gModI (pCall gInt1 (pCons (pVar 3) (pNil))) (pVar 1)))) (pNext))
  (pSub (pVar 3) (pVar 0) (pC (.int 3)))))) (pNext))
  (pSeq (pSub (pOp gAddI (pOp gIx (pVar 0) (pC (.int 4))) (pC (.int 1))) (pVar 0) (pC (.int 4)))
  (pSeq (pSet 4 (pOp gModI (pCall gInt1 (pCons (pOp gAddI (pOp gAddI (pOp gMulI (pOp gIx (pVar 0) (pC (.int 3))) (pC (.int 48271))) (pOp gMulI (pOp gIx (pVar 0) (pC (.int 4))) (pC (.int 69621)))) (pC (.int 7919))) (pNil))) (pC (.int 2147483647))))
  (pSeq (pSet 4 (pOp gModI (pCall gInt1 (pCons (pOp gAddI (pOp gMulI (pVar 4) (pVar 4)) (pOp gMulI (pOp gIx (pVar 0) (pC (.int 4))) (pC (.int 40692)))) (pNil))) (pC (.int 2147483399))))
  (pRet (pOp gModI (pCall gInt1 (pCons (pVar 4) (pNil))) (pVar 1)))))))
def f0__law_draw : PF := runG N__law_draw.length (["pool", "many"] : List Str).length (b__law_draw)
theorem run__law_draw {ws : List W} {M : Ms} (h : ws.length = 2) : f0__law_draw ws M = (b__law_draw (startS 5 ws) M).toR := runG_pos h
def absI (n : Int) : Int := if n < 0 then -n else n
def poolM (ns : List Int) (p1 p2 p3 p4 : Int) : MO := .lst [.d (.list (ns.map .int)), .d (.int p1), .d (.int p2), .d (.int p3), .d (.int p4)]
def PoolOk (M : Ms) : Prop := ∃ (ns : List Int) (p1 p2 p3 p4 : Int), M[0]? = some (poolM ns p1 p2 p3 p4) ∧ 0 ≤ p1
theorem draw_tail {M : Ms} {ns : List Int} {p1 p2 p3 p4 many : Int} {a b : Option W} (hM : M[0]? = some (poolM ns p1 p2 p3 p4)) (h0 : 0 < many) :
    ∃ v, (pSeq (pSub (pOp gAddI (pOp gIx (pVar 0) (pC (.int 4))) (pC (.int 1))) (pVar 0) (pC (.int 4)))
  (pSeq (pSet 4 (pOp gModI (pCall gInt1 (pCons (pOp gAddI (pOp gAddI (pOp gMulI (pOp gIx (pVar 0) (pC (.int 3))) (pC (.int 48271))) (pOp gMulI (pOp gIx (pVar 0) (pC (.int 4))) (pC (.int 69621)))) (pC (.int 7919))) (pNil))) (pC (.int 2147483647))))
  (pSeq (pSet 4 (pOp gModI (pCall gInt1 (pCons (pOp gAddI (pOp gMulI (pVar 4) (pVar 4)) (pOp gMulI (pOp gIx (pVar 0) (pC (.int 4))) (pC (.int 40692)))) (pNil))) (pC (.int 2147483399))))
  (pRet (pOp gModI (pCall gInt1 (pCons (pVar 4) (pNil))) (pVar 1)))))) [some (.r 0), some (.d (.int many)), a, b, none] M = .rt (.d (.int v)) (M.set 0 (poolM ns p1 p2 p3 (p4 + 1))) ∧ 0 ≤ v ∧ v < many := by
  have hlen : 0 < M.length := (List.getElem?_eq_some_iff.mp hM).1
  have gs : ∀ x, (M.set 0 x)[0]? = some x := fun x => List.getElem?_set_self hlen
  have m0 : 0 ≤ (p3 * 48271 + (p4 + 1) * 69621 + 7919).fmod 2147483647 := Int.fmod_nonneg_of_pos _ (by decide)
  have m1 : (p3 * 48271 + (p4 + 1) * 69621 + 7919).fmod 2147483647 < 2147483647 := Int.fmod_lt_of_pos _ (by decide)
  refine ⟨(((p3 * 48271 + (p4 + 1) * 69621 + 7919).fmod 2147483647 * (p3 * 48271 + (p4 + 1) * 69621 + 7919).fmod 2147483647 + (p4 + 1) * 40692).fmod 2147483399).fmod many, ?_, Int.fmod_nonneg_of_pos _ h0, Int.fmod_lt_of_pos _ h0⟩
  have q1 : ∀ {M' : Ms}, gMulI (.d (.int p3)) (.d (.int 48271)) M' = .ok (.d (.int (p3 * 48271))) M' := mul_ok (.inr (by decide))
  have q2 : ∀ {M' : Ms}, gMulI (.d (.int (p4 + 1))) (.d (.int 69621)) M' = .ok (.d (.int ((p4 + 1) * 69621))) M' := mul_ok (.inr (by decide))
  have q3 : ∀ {M' : Ms}, gModI (.d (.int (p3 * 48271 + (p4 + 1) * 69621 + 7919))) (.d (.int 2147483647)) M' = .ok (.d (.int ((p3 * 48271 + (p4 + 1) * 69621 + 7919).fmod 2147483647))) M' := mod_ok (by decide)
  generalize (p3 * 48271 + (p4 + 1) * 69621 + 7919).fmod 2147483647 = mx at *
  have q4 : ∀ {M' : Ms}, gMulI (.d (.int mx)) (.d (.int mx)) M' = .ok (.d (.int (mx * mx))) M' := mul_ok (.inr (by omega))
  have q5 : ∀ {M' : Ms}, gMulI (.d (.int (p4 + 1))) (.d (.int 40692)) M' = .ok (.d (.int ((p4 + 1) * 40692))) M' := mul_ok (.inr (by decide))
  have q6 : ∀ {M' : Ms}, gModI (.d (.int (mx * mx + (p4 + 1) * 40692))) (.d (.int 2147483399)) M' = .ok (.d (.int ((mx * mx + (p4 + 1) * 40692).fmod 2147483399))) M' := mod_ok (by decide)
  generalize (mx * mx + (p4 + 1) * 40692).fmod 2147483399 = my at *
  have q7 : ∀ {M' : Ms}, gModI (.d (.int my)) (.d (.int many)) M' = .ok (.d (.int (my.fmod many))) M' := mod_ok (by omega)
  unfold poolM at hM ⊢
  simp [hM, gs, q1, q2, q3, q4, q5, q6, q7, atI, ixN, pSeq, pNext, pIf, pSet, pDrop, pRet, pRetN, pAsg, pVar, pC, pK, pCons, pNil, pTup, pLst, pDat, pMut, pOp, pB, pChain, pAndT, pOrT, pNotT, pAndV, pOrV, pNotV, pTru, pIfE, pNeg, pCall, pCallL, pCallQ, pCallG, pRaise, R.bind, R.to, R.bindN, O.toR, PR.to, truth, allD, view, viewAll, itemsL, itemsT, lenW, tagD, tagW, isTy, tyOk, scalar, R.freeze, pFor, pItL, pItT, pItS, pRng1, pRng2, qName, qNil, qCons, qTup, pSub, pNo, pSo, pYes, pBrk, pCnt, startS, clearO, gInt, gAddI, gSubI, gLtI, gLeI, gGtI, gGeI, gEqD, gNeD, gIsN, gIsB, gStr, gIsi, gLen, gAbs, gInt1, gMin2, gMax2, gSum, gMaxI, gMinI, gList, gSorted, gIx, gInD, isNonD, viewI, catW, pCat, gMaxT, pFld, pSetF, pMeth, pMake, insOf, putW, noAtt, pTry, pListRev, pSlL, pSlT, pIsi2, allD_nil, eqv_int, shaped_int, allD_ints, allD_map, intsOf_map]
theorem draw_ok {M : Ms} (h : PoolOk M) {many : Int} (h0 : 0 < many) (h1 : many ≤ 1000000000) : ∃ v M', f0__law_draw [.r 0, .d (.int many)] M = .ok (.d (.int v)) M' ∧ 0 ≤ v ∧ v < many ∧ PoolOk M' ∧ M'.length = M.length ∧ ∀ i, i ≠ 0 → M'[i]? = M[i]? := by
  obtain ⟨ns, p1, p2, p3, p4, hM, hp⟩ := h
  have hlen : 0 < M.length := (List.getElem?_eq_some_iff.mp hM).1
  have gs : ∀ x, (M.set 0 x)[0]? = some x := fun x => List.getElem?_set_self hlen
  have other : ∀ x, ∀ i, i ≠ 0 → (M.set 0 x)[i]? = M[i]? := fun x i hi => List.getElem?_set_ne (Ne.symm hi)
  have hmz : many ≠ 0 := by omega
  rw [run__law_draw rfl]
  show ∃ v M', O.toR (b__law_draw [some (.r 0), some (.d (.int many)), none, none, none] M) = _ ∧ _
  by_cases c1 : 0 < p2
  · have d1 : ∀ {M' : Ms}, gModI (.d (.int p2)) (.d (.int many)) M' = .ok (.d (.int (p2.fmod many))) M' := mod_ok hmz
    have d2 : ∀ {M' : Ms}, gDivI (.d (.int p2)) (.d (.int many)) M' = .ok (.d (.int (p2.fdiv many))) M' := div_ok hmz (by omega)
    refine ⟨p2.fmod many, M.set 0 (poolM ns p1 (p2.fdiv many) p3 p4), ?_, Int.fmod_nonneg_of_pos _ h0, Int.fmod_lt_of_pos _ h0, ⟨ns, p1, _, p3, p4, gs _, hp⟩, by simp, other _⟩
    unfold poolM at hM ⊢
    unfold b__law_draw
    rw [seq_rt (x := .d (.int (p2.fmod many))) (M' := M.set 0 (.lst [.d (.list (ns.map .int)), .d (.int p1), .d (.int (p2.fdiv many)), .d (.int p3), .d (.int p4)])) (by simp [hM, gs, d1, d2, c1, atI, ixN, pSeq, pNext, pIf, pSet, pDrop, pRet, pRetN, pAsg, pVar, pC, pK, pCons, pNil, pTup, pLst, pDat, pMut, pOp, pB, pChain, pAndT, pOrT, pNotT, pAndV, pOrV, pNotV, pTru, pIfE, pNeg, pCall, pCallL, pCallQ, pCallG, pRaise, R.bind, R.to, R.bindN, O.toR, PR.to, truth, allD, view, viewAll, itemsL, itemsT, lenW, tagD, tagW, isTy, tyOk, scalar, R.freeze, pFor, pItL, pItT, pItS, pRng1, pRng2, qName, qNil, qCons, qTup, pSub, pNo, pSo, pYes, pBrk, pCnt, startS, clearO, gInt, gAddI, gSubI, gLtI, gLeI, gGtI, gGeI, gEqD, gNeD, gIsN, gIsB, gStr, gIsi, gLen, gAbs, gInt1, gMin2, gMax2, gSum, gMaxI, gMinI, gList, gSorted, gIx, gInD, isNonD, viewI, catW, pCat, gMaxT, pFld, pSetF, pMeth, pMake, insOf, putW, noAtt, pTry, pListRev, pSlL, pSlT, pIsi2, allD_nil, eqv_int, shaped_int, allD_ints, allD_map, intsOf_map])]
    rfl
  · have e8 : ∀ {M' : Ms}, gModI (.d (.int p4)) (.d (.int 8)) M' = .ok (.d (.int (p4.fmod 8))) M' := mod_ok (by decide)
    unfold b__law_draw
    rw [seq_nx (s' := [some (.r 0), some (.d (.int many)), none, none, none]) (M' := M) (by
      unfold poolM at hM
      simp [hM, c1, atI, ixN, pSeq, pNext, pIf, pSet, pDrop, pRet, pRetN, pAsg, pVar, pC, pK, pCons, pNil, pTup, pLst, pDat, pMut, pOp, pB, pChain, pAndT, pOrT, pNotT, pAndV, pOrV, pNotV, pTru, pIfE, pNeg, pCall, pCallL, pCallQ, pCallG, pRaise, R.bind, R.to, R.bindN, O.toR, PR.to, truth, allD, view, viewAll, itemsL, itemsT, lenW, tagD, tagW, isTy, tyOk, scalar, R.freeze, pFor, pItL, pItT, pItS, pRng1, pRng2, qName, qNil, qCons, qTup, pSub, pNo, pSo, pYes, pBrk, pCnt, startS, clearO, gInt, gAddI, gSubI, gLtI, gLeI, gGtI, gGeI, gEqD, gNeD, gIsN, gIsB, gStr, gIsi, gLen, gAbs, gInt1, gMin2, gMax2, gSum, gMaxI, gMinI, gList, gSorted, gIx, gInD, isNonD, viewI, catW, pCat, gMaxT, pFld, pSetF, pMeth, pMake, insOf, putW, noAtt, pTry, pListRev, pSlL, pSlT, pIsi2, allD_nil, eqv_int, shaped_int, allD_ints, allD_map, intsOf_map])]
    by_cases c2 : p4.fmod 8 = 0 ∧ p1 < ns.length
    · obtain ⟨c2, c3⟩ := c2
      have hk : p1.toNat < ns.length := by omega
      have hpe : ((p1.toNat : Nat) : Int) = p1 := by omega
      have g1 : ∀ {M' : Ms}, gIx (.d (.list (ns.map .int))) (.d (.int p1)) M' = .ok (wi (ns.getD p1.toNat 0)) M' := by
        intro M'
        have z := gIx_ints (ns := ns) (M := M') hk
        rw [hpe] at z
        exact z
      have ea : (if ns.getD p1.toNat 0 < 0 then -(ns.getD p1.toNat 0) else ns.getD p1.toNat 0) = absI (ns.getD p1.toNat 0) := rfl
      generalize hcell : absI (ns.getD p1.toNat 0) = cell at *
      have d1 : ∀ {M' : Ms}, gModI (.d (.int cell)) (.d (.int many)) M' = .ok (.d (.int (cell.fmod many))) M' := mod_ok hmz
      have d2 : ∀ {M' : Ms}, gDivI (.d (.int cell)) (.d (.int many)) M' = .ok (.d (.int (cell.fdiv many))) M' := div_ok hmz (by omega)
      have d3 : ∀ {M' : Ms}, gPowI (.d (.int 10)) (.d (.int 18)) M' = .ok (.d (.int 1000000000000000000)) M' := by
        intro M'
        have z := pow10_ok (j := 18) (M := M') (by decide)
        simpa using z
      have hcond : ∀ {M' : Ms} , M'[0]? = some (poolM ns p1 p2 p3 p4) → pAndT (pB (pOp gEqD (pOp gModI (pCall gInt1 (pCons (pOp gIx (pVar 0) (pC (.int 4))) (pNil))) (pC (.int 8))) (pC (.int 0)))) (pB (pOp gLtI (pOp gIx (pVar 0) (pC (.int 1))) (pCall gLen (pCons (pOp gIx (pVar 0) (pC (.int 0))) (pNil))))) [some (.r 0), some (.d (.int many)), none, none, none] M' = .ok true M' := by
        intro M' h
        unfold poolM at h
        simp [h, e8, c2, c3, atI, ixN, pSeq, pNext, pIf, pSet, pDrop, pRet, pRetN, pAsg, pVar, pC, pK, pCons, pNil, pTup, pLst, pDat, pMut, pOp, pB, pChain, pAndT, pOrT, pNotT, pAndV, pOrV, pNotV, pTru, pIfE, pNeg, pCall, pCallL, pCallQ, pCallG, pRaise, R.bind, R.to, R.bindN, O.toR, PR.to, truth, allD, view, viewAll, itemsL, itemsT, lenW, tagD, tagW, isTy, tyOk, scalar, R.freeze, pFor, pItL, pItT, pItS, pRng1, pRng2, qName, qNil, qCons, qTup, pSub, pNo, pSo, pYes, pBrk, pCnt, startS, clearO, gInt, gAddI, gSubI, gLtI, gLeI, gGtI, gGeI, gEqD, gNeD, gIsN, gIsB, gStr, gIsi, gLen, gAbs, gInt1, gMin2, gMax2, gSum, gMaxI, gMinI, gList, gSorted, gIx, gInD, isNonD, viewI, catW, pCat, gMaxT, pFld, pSetF, pMeth, pMake, insOf, putW, noAtt, pTry, pListRev, pSlL, pSlT, pIsi2, allD_nil, eqv_int, shaped_int, allD_ints, allD_map, intsOf_map]
      have hcell1 : pSet 3 (pCall gAbs (pCons (pOp gIx (pOp gIx (pVar 0) (pC (.int 0))) (pOp gIx (pVar 0) (pC (.int 1)))) (pNil))) [some (.r 0), some (.d (.int many)), none, none, none] M = .nx [some (.r 0), some (.d (.int many)), none, some (.d (.int cell)), none] M := by
        rw [set_ok (x := .d (.int cell)) (M' := M)]
        · rfl
        · have i0 : pOp gIx (pVar 0) (pC (.int 0)) [some (.r 0), some (.d (.int many)), none, none, none] M = .ok (.d (.list (ns.map .int))) M := by
            unfold poolM at hM
            simp [hM, atI, ixN, pSeq, pNext, pIf, pSet, pDrop, pRet, pRetN, pAsg, pVar, pC, pK, pCons, pNil, pTup, pLst, pDat, pMut, pOp, pB, pChain, pAndT, pOrT, pNotT, pAndV, pOrV, pNotV, pTru, pIfE, pNeg, pCall, pCallL, pCallQ, pCallG, pRaise, R.bind, R.to, R.bindN, O.toR, PR.to, truth, allD, view, viewAll, itemsL, itemsT, lenW, tagD, tagW, isTy, tyOk, scalar, R.freeze, pFor, pItL, pItT, pItS, pRng1, pRng2, qName, qNil, qCons, qTup, pSub, pNo, pSo, pYes, pBrk, pCnt, startS, clearO, gInt, gAddI, gSubI, gLtI, gLeI, gGtI, gGeI, gEqD, gNeD, gIsN, gIsB, gStr, gIsi, gLen, gAbs, gInt1, gMin2, gMax2, gSum, gMaxI, gMinI, gList, gSorted, gIx, gInD, isNonD, viewI, catW, pCat, gMaxT, pFld, pSetF, pMeth, pMake, insOf, putW, noAtt, pTry, pListRev, pSlL, pSlT, pIsi2, allD_nil, eqv_int, shaped_int, allD_ints, allD_map, intsOf_map]
          have i1 : pOp gIx (pVar 0) (pC (.int 1)) [some (.r 0), some (.d (.int many)), none, none, none] M = .ok (.d (.int p1)) M := by
            unfold poolM at hM
            simp [hM, atI, ixN, pSeq, pNext, pIf, pSet, pDrop, pRet, pRetN, pAsg, pVar, pC, pK, pCons, pNil, pTup, pLst, pDat, pMut, pOp, pB, pChain, pAndT, pOrT, pNotT, pAndV, pOrV, pNotV, pTru, pIfE, pNeg, pCall, pCallL, pCallQ, pCallG, pRaise, R.bind, R.to, R.bindN, O.toR, PR.to, truth, allD, view, viewAll, itemsL, itemsT, lenW, tagD, tagW, isTy, tyOk, scalar, R.freeze, pFor, pItL, pItT, pItS, pRng1, pRng2, qName, qNil, qCons, qTup, pSub, pNo, pSo, pYes, pBrk, pCnt, startS, clearO, gInt, gAddI, gSubI, gLtI, gLeI, gGtI, gGeI, gEqD, gNeD, gIsN, gIsB, gStr, gIsi, gLen, gAbs, gInt1, gMin2, gMax2, gSum, gMaxI, gMinI, gList, gSorted, gIx, gInD, isNonD, viewI, catW, pCat, gMaxT, pFld, pSetF, pMeth, pMake, insOf, putW, noAtt, pTry, pListRev, pSlL, pSlT, pIsi2, allD_nil, eqv_int, shaped_int, allD_ints, allD_map, intsOf_map]
          have i2 : pOp gIx (pOp gIx (pVar 0) (pC (.int 0))) (pOp gIx (pVar 0) (pC (.int 1))) [some (.r 0), some (.d (.int many)), none, none, none] M = .ok (wi (ns.getD p1.toNat 0)) M := by
            show ((pOp gIx (pVar 0) (pC (.int 0))) _ M).bind _ = _
            rw [i0]
            show ((pOp gIx (pVar 0) (pC (.int 1))) _ M).bind _ = _
            rw [i1]
            exact g1
          unfold pCall pCons pNil
          rw [i2]
          simp only [R.bind, wi, gAbs, ea]
      have hsub1 : pSub (pOp gAddI (pOp gIx (pVar 0) (pC (.int 1))) (pC (.int 1))) (pVar 0) (pC (.int 1)) [some (.r 0), some (.d (.int many)), none, some (.d (.int cell)), none] M = .nx [some (.r 0), some (.d (.int many)), none, some (.d (.int cell)), none] (M.set 0 (poolM ns (p1 + 1) p2 p3 p4)) := by
        unfold poolM at hM ⊢
        simp [hM, atI, ixN, pSeq, pNext, pIf, pSet, pDrop, pRet, pRetN, pAsg, pVar, pC, pK, pCons, pNil, pTup, pLst, pDat, pMut, pOp, pB, pChain, pAndT, pOrT, pNotT, pAndV, pOrV, pNotV, pTru, pIfE, pNeg, pCall, pCallL, pCallQ, pCallG, pRaise, R.bind, R.to, R.bindN, O.toR, PR.to, truth, allD, view, viewAll, itemsL, itemsT, lenW, tagD, tagW, isTy, tyOk, scalar, R.freeze, pFor, pItL, pItT, pItS, pRng1, pRng2, qName, qNil, qCons, qTup, pSub, pNo, pSo, pYes, pBrk, pCnt, startS, clearO, gInt, gAddI, gSubI, gLtI, gLeI, gGtI, gGeI, gEqD, gNeD, gIsN, gIsB, gStr, gIsi, gLen, gAbs, gInt1, gMin2, gMax2, gSum, gMaxI, gMinI, gList, gSorted, gIx, gInD, isNonD, viewI, catW, pCat, gMaxT, pFld, pSetF, pMeth, pMake, insOf, putW, noAtt, pTry, pListRev, pSlL, pSlT, pIsi2, allD_nil, eqv_int, shaped_int, allD_ints, allD_map, intsOf_map]
      by_cases c4 : 1000000000000000000 ≤ cell
      · refine ⟨cell.fmod many, M.set 0 (poolM ns (p1 + 1) (cell.fdiv many) p3 p4), ?_, Int.fmod_nonneg_of_pos _ h0, Int.fmod_lt_of_pos _ h0, ⟨ns, p1 + 1, _, p3, p4, gs _, by omega⟩, by simp, other _⟩
        rw [seq_rt (x := .d (.int (cell.fmod many))) (M' := M.set 0 (poolM ns (p1 + 1) (cell.fdiv many) p3 p4)) (by
          rw [if_tt (hcond hM), seq_nx hcell1, seq_nx hsub1]
          unfold poolM
          simp [gs, d1, d2, d3, c4, atI, ixN, pSeq, pNext, pIf, pSet, pDrop, pRet, pRetN, pAsg, pVar, pC, pK, pCons, pNil, pTup, pLst, pDat, pMut, pOp, pB, pChain, pAndT, pOrT, pNotT, pAndV, pOrV, pNotV, pTru, pIfE, pNeg, pCall, pCallL, pCallQ, pCallG, pRaise, R.bind, R.to, R.bindN, O.toR, PR.to, truth, allD, view, viewAll, itemsL, itemsT, lenW, tagD, tagW, isTy, tyOk, scalar, R.freeze, pFor, pItL, pItT, pItS, pRng1, pRng2, qName, qNil, qCons, qTup, pSub, pNo, pSo, pYes, pBrk, pCnt, startS, clearO, gInt, gAddI, gSubI, gLtI, gLeI, gGtI, gGeI, gEqD, gNeD, gIsN, gIsB, gStr, gIsi, gLen, gAbs, gInt1, gMin2, gMax2, gSum, gMaxI, gMinI, gList, gSorted, gIx, gInD, isNonD, viewI, catW, pCat, gMaxT, pFld, pSetF, pMeth, pMake, insOf, putW, noAtt, pTry, pListRev, pSlL, pSlT, pIsi2, allD_nil, eqv_int, shaped_int, allD_ints, allD_map, intsOf_map])]
        rfl
      · obtain ⟨v, t1, t2, t3⟩ := draw_tail (M := M.set 0 (poolM ns (p1 + 1) p2 cell p4)) (a := none) (b := some (.d (.int cell))) (gs _) h0
        rw [List.set_set] at t1
        refine ⟨v, M.set 0 (poolM ns (p1 + 1) p2 cell (p4 + 1)), ?_, t2, t3, ⟨ns, p1 + 1, _, _, _, gs _, by omega⟩, by simp, other _⟩
        rw [seq_nx (s' := [some (.r 0), some (.d (.int many)), none, some (.d (.int cell)), none]) (M' := M.set 0 (poolM ns (p1 + 1) p2 cell p4)) (by
          rw [if_tt (hcond hM), seq_nx hcell1, seq_nx hsub1]
          unfold poolM
          simp [gs, d3, c4, atI, ixN, pSeq, pNext, pIf, pSet, pDrop, pRet, pRetN, pAsg, pVar, pC, pK, pCons, pNil, pTup, pLst, pDat, pMut, pOp, pB, pChain, pAndT, pOrT, pNotT, pAndV, pOrV, pNotV, pTru, pIfE, pNeg, pCall, pCallL, pCallQ, pCallG, pRaise, R.bind, R.to, R.bindN, O.toR, PR.to, truth, allD, view, viewAll, itemsL, itemsT, lenW, tagD, tagW, isTy, tyOk, scalar, R.freeze, pFor, pItL, pItT, pItS, pRng1, pRng2, qName, qNil, qCons, qTup, pSub, pNo, pSo, pYes, pBrk, pCnt, startS, clearO, gInt, gAddI, gSubI, gLtI, gLeI, gGtI, gGeI, gEqD, gNeD, gIsN, gIsB, gStr, gIsi, gLen, gAbs, gInt1, gMin2, gMax2, gSum, gMaxI, gMinI, gList, gSorted, gIx, gInD, isNonD, viewI, catW, pCat, gMaxT, pFld, pSetF, pMeth, pMake, insOf, putW, noAtt, pTry, pListRev, pSlL, pSlT, pIsi2, allD_nil, eqv_int, shaped_int, allD_ints, allD_map, intsOf_map])]
        rw [t1]
        rfl
    · obtain ⟨v, t1, t2, t3⟩ := draw_tail (M := M) (a := none) (b := none) hM h0
      refine ⟨v, M.set 0 (poolM ns p1 p2 p3 (p4 + 1)), ?_, t2, t3, ⟨ns, p1, _, _, _, gs _, hp⟩, by simp, other _⟩
      rw [seq_nx (s' := [some (.r 0), some (.d (.int many)), none, none, none]) (M' := M) (by
        rw [if_ff (M' := M) (by
          unfold poolM at hM
          by_cases c3 : p4.fmod 8 = 0
          · have c5 : ¬ p1 < ns.length := fun z => c2 ⟨c3, z⟩
            simp [hM, e8, c3, c5, atI, ixN, pSeq, pNext, pIf, pSet, pDrop, pRet, pRetN, pAsg, pVar, pC, pK, pCons, pNil, pTup, pLst, pDat, pMut, pOp, pB, pChain, pAndT, pOrT, pNotT, pAndV, pOrV, pNotV, pTru, pIfE, pNeg, pCall, pCallL, pCallQ, pCallG, pRaise, R.bind, R.to, R.bindN, O.toR, PR.to, truth, allD, view, viewAll, itemsL, itemsT, lenW, tagD, tagW, isTy, tyOk, scalar, R.freeze, pFor, pItL, pItT, pItS, pRng1, pRng2, qName, qNil, qCons, qTup, pSub, pNo, pSo, pYes, pBrk, pCnt, startS, clearO, gInt, gAddI, gSubI, gLtI, gLeI, gGtI, gGeI, gEqD, gNeD, gIsN, gIsB, gStr, gIsi, gLen, gAbs, gInt1, gMin2, gMax2, gSum, gMaxI, gMinI, gList, gSorted, gIx, gInD, isNonD, viewI, catW, pCat, gMaxT, pFld, pSetF, pMeth, pMake, insOf, putW, noAtt, pTry, pListRev, pSlL, pSlT, pIsi2, allD_nil, eqv_int, shaped_int, allD_ints, allD_map, intsOf_map]
          · have c3' : (p4.fmod 8 == 0) = false := by simpa using c3
            simp [hM, e8, c3', atI, ixN, pSeq, pNext, pIf, pSet, pDrop, pRet, pRetN, pAsg, pVar, pC, pK, pCons, pNil, pTup, pLst, pDat, pMut, pOp, pB, pChain, pAndT, pOrT, pNotT, pAndV, pOrV, pNotV, pTru, pIfE, pNeg, pCall, pCallL, pCallQ, pCallG, pRaise, R.bind, R.to, R.bindN, O.toR, PR.to, truth, allD, view, viewAll, itemsL, itemsT, lenW, tagD, tagW, isTy, tyOk, scalar, R.freeze, pFor, pItL, pItT, pItS, pRng1, pRng2, qName, qNil, qCons, qTup, pSub, pNo, pSo, pYes, pBrk, pCnt, startS, clearO, gInt, gAddI, gSubI, gLtI, gLeI, gGtI, gGeI, gEqD, gNeD, gIsN, gIsB, gStr, gIsi, gLen, gAbs, gInt1, gMin2, gMax2, gSum, gMaxI, gMinI, gList, gSorted, gIx, gInD, isNonD, viewI, catW, pCat, gMaxT, pFld, pSetF, pMeth, pMake, insOf, putW, noAtt, pTry, pListRev, pSlL, pSlT, pIsi2, allD_nil, eqv_int, shaped_int, allD_ints, allD_map, intsOf_map])]
        rfl)]
      rw [t1]
      rfl
abbrev f__law_draw : PF := f0__law_draw
abbrev N__law_pick : List Str := ["pool", "rows"]
def b__law_pick : PSx :=
  pRet (pOp gIx (pVar 1) (pCallG f__law_draw [] (pCons (pVar 0) (pCons (pCall gLen (pCons (pVar 1) (pNil))) (pNil)))))
def f0__law_pick : PF := runG N__law_pick.length (["pool", "rows"] : List Str).length (b__law_pick)
theorem run__law_pick {ws : List W} {M : Ms} (h : ws.length = 2) : f0__law_pick ws M = (b__law_pick (startS 2 ws) M).toR := runG_pos h
/-- the pool has changed, nothing else -/
def Only0 (M M' : Ms) : Prop := PoolOk M' ∧ M'.length = M.length ∧ ∀ i, i ≠ 0 → M'[i]? = M[i]?
theorem draw_ok' {M : Ms} (h : PoolOk M) {many : Int} (h0 : 0 < many) (h1 : many ≤ 1000000000) : ∃ v M', f0__law_draw [.r 0, .d (.int many)] M = .ok (.d (.int v)) M' ∧ 0 ≤ v ∧ v < many ∧ Only0 M M' := by
  obtain ⟨v, M', a, b, c, d, e, f⟩ := draw_ok h h0 h1
  exact ⟨v, M', a, b, c, d, e, f⟩
theorem Only0.trans {M M1 M2 : Ms} (a : Only0 M M1) (b : Only0 M1 M2) : Only0 M M2 := ⟨b.1, b.2.1.trans a.2.1, fun i hi => (b.2.2 i hi).trans (a.2.2 i hi)⟩
theorem drawE {s : Sl} {M : Ms} {j : Nat} {pe : PEx} {many : Int} (h : PoolOk M) (hs : s[j]? = some (some (.r 0))) (hp : pe s M = .ok (.d (.int many)) M) (h0 : 0 < many) (h1 : many ≤ 1000000000) : ∃ v M', pCallG f0__law_draw [] (pCons (pVar j) (pCons pe pNil)) s M = .ok (.d (.int v)) M' ∧ 0 ≤ v ∧ v < many ∧ Only0 M M' := by
  obtain ⟨v, M', a, b⟩ := draw_ok' h h0 h1
  refine ⟨v, M', ?_, b⟩
  unfold pCallG
  rw [cons_ok (var_ok hs) (cons_ok hp nil_ok)]
  simp only [R.bind, List.map_nil, List.append_nil]
  exact a
theorem pick_data {M : Ms} {ds : List PyData} (h : PoolOk M) (h1 : 1 ≤ ds.length) (h2 : ds.length ≤ 1000000) : ∃ d M', d ∈ ds ∧ f0__law_pick [.r 0, .d (.list ds)] M = .ok (.d d) M' ∧ Only0 M M' := by
  rw [run__law_pick rfl]
  unfold b__law_pick
  show ∃ d M', _ ∧ O.toR (pRet _ [some (.r 0), some (.d (.list ds))] M) = _ ∧ _
  obtain ⟨v, M', e, v0, v1, o⟩ := drawE (s := [some (.r 0), some (.d (.list ds))]) (j := 0) (pe := pCall gLen (pCons (pVar 1) pNil)) h rfl (len_list rfl) (by omega) (by omega)
  obtain ⟨k, rfl⟩ := Int.eq_ofNat_of_zero_le v0
  have hv : k < ds.length := by omega
  refine ⟨ds[k], M', List.getElem_mem hv, ?_, o⟩
  rw [ret_ok (x := .d ds[k]) (M' := M') (by
    rw [op_ok (var_ok rfl) e]
    unfold gIx itemsL
    simp only
    rw [atI_nat, List.getElem?_map, List.getElem?_eq_getElem hv]
    rfl)]
  rfl
theorem pick_mut {M : Ms} {j : Nat} {ws : List W} (h : PoolOk M) (hj : j ≠ 0) (hM : M[j]? = some (.lst ws)) (h1 : 1 ≤ ws.length) (h2 : ws.length ≤ 1000000) : ∃ w M', w ∈ ws ∧ f0__law_pick [.r 0, .r j] M = .ok w M' ∧ Only0 M M' := by
  rw [run__law_pick rfl]
  unfold b__law_pick
  show ∃ d M', _ ∧ O.toR (pRet _ [some (.r 0), some (.r j)] M) = _ ∧ _
  obtain ⟨v, M', e, v0, v1, o⟩ := drawE (s := [some (.r 0), some (.r j)]) (j := 0) (pe := pCall gLen (pCons (pVar 1) pNil)) (many := ws.length) h rfl (by
    rw [call1 (var_ok rfl)]
    simp [gLen, lenW, itemsL, hM]) (by omega) (by omega)
  obtain ⟨k, rfl⟩ := Int.eq_ofNat_of_zero_le v0
  have hv : k < ws.length := by omega
  have hM' : M'[j]? = some (.lst ws) := (o.2.2 j hj).trans hM
  refine ⟨ws[k], M', List.getElem_mem hv, ?_, o⟩
  rw [ret_ok (x := ws[k]) (M' := M') (by
    rw [op_ok (var_ok rfl) e]
    unfold gIx itemsL
    simp only [hM']
    rw [atI_nat, List.getElem?_eq_getElem hv])]
  rfl
theorem pickE {s : Sl} {M : Ms} {j : Nat} {pe : PEx} {ds : List PyData} (h : PoolOk M) (hs : s[j]? = some (some (.r 0))) (hp : pe s M = .ok (.d (.list ds)) M) (h1 : 1 ≤ ds.length) (h2 : ds.length ≤ 1000000) : ∃ d M', d ∈ ds ∧ pCallG f0__law_pick [] (pCons (pVar j) (pCons pe pNil)) s M = .ok (.d d) M' ∧ Only0 M M' := by
  obtain ⟨d, M', a, b, c⟩ := pick_data h h1 h2
  refine ⟨d, M', a, ?_, c⟩
  unfold pCallG
  rw [cons_ok (var_ok hs) (cons_ok hp nil_ok)]
  simp only [R.bind, List.map_nil, List.append_nil]
  exact b
abbrev f__law_pick : PF := f0__law_pick
abbrev N__law_refusal : List Str := ["problem", "kinds", "found", "k"]
def b__law_refusal (c1 c2 : Addr) (b1 b2 : Bool) (a : Addr) : PSx :=
  pSeq (pSet 1 (pDat (pLst (pCons (pCall (gIsE a (.ref c1) b1) (pCons (pVar 0) (pCons (pK (.ref c1)) pNil))) (pCons (pCall (gIsE a (.ref c2) b2) (pCons (pVar 0) (pCons (pK (.ref c2)) pNil))) pNil)))))
  (pSeq (pSet 2 (pDat (pLc (pRng1 (pC (.int 2))) (qName 3) (pTru (pOp gIx (pVar 1) (pVar 3))) (pOp gIx (pDat (pLst (pCons (pC (.str "number")) (pCons (pC (.str "paper")) pNil)))) (pVar 3)) [3])))
  (pRet (pIfE (pAndT (pB (pOp gEqD (pCall gLen (pCons (pVar 2) pNil)) (pC (.int 1)))) (pTru (pCall (gIsE a (.ty "ValueError") true) (pCons (pVar 0) (pCons (pK (.ty "ValueError")) pNil))))) (pOp gIx (pVar 2) (pC (.int 0))) (pC (.str "several")))))
theorem refusal_is (c1 c2 : Addr) (b1 b2 : Bool) (a : Addr) (ws : List W) (M : Ms) (s : Str) (hb : (b1 = true ∧ b2 = false ∧ s = "number") ∨ (b1 = false ∧ b2 = true ∧ s = "paper")) : gHot s a ws M ≠ .stuck → runG N__law_refusal.length (["problem"] : List Str).length (b__law_refusal c1 c2 b1 b2 a) ws M = gHot s a ws M := by
  intro h
  match ws, h with
  | [], h => exact absurd rfl h
  | [.d _], h => exact absurd rfl h
  | [.r _], h => exact absurd rfl h
  | _ :: _ :: _, h => exact absurd (by simp [gHot]) h
  | [.k u], h =>
    have hu : u = .ref a := by
      by_cases z : u = .ref a
      · exact z
      · exact absurd (by simp [gHot, z]) h
    subst hu
    have z1 : 1 ≤ sizeLine := by decide
    have z2 : 2 ≤ sizeLine := by decide
    have i2 : -(2 ^ 62) ≤ (2 : Int) ∧ (2 : Int) < 2 ^ 62 := small62 (by decide) (by decide)
    have rg : rngW 0 2 = [W.d (.int 0), W.d (.int 1)] := by rfl
    have it : ∀ {s : Sl}, pRng1 (pC (.int 2)) s M = .ok [W.d (.int 0), W.d (.int 1)] M := fun {s} => by
      have z := rng1_okI (p := pC (.int 2)) (s := s) (M := M) (j := 2) rfl i2
      rw [z, show (2 : Int).toNat = 2 from rfl, rg]
    have rn : runG N__law_refusal.length (["problem"] : List Str).length (b__law_refusal c1 c2 b1 b2 a) [.k (.ref a)] M = (b__law_refusal c1 c2 b1 b2 a (startS 4 [.k (.ref a)]) M).toR := runG_pos rfl
    rw [rn]
    unfold b__law_refusal
    show O.toR (pSeq _ _ [some (.k (.ref a)), none, none, none] M) = _
    rw [seq_nx (s' := [some (.k (.ref a)), some (.d (.list [.bool b1, .bool b2])), none, none]) (M' := M) (by simp [gIsE, z2, pSeq, pNext, pIf, pSet, pDrop, pRet, pRetN, pAsg, pVar, pC, pK, pCons, pNil, pTup, pLst, pDat, pMut, pOp, pB, pChain, pAndT, pOrT, pNotT, pAndV, pOrV, pNotV, pTru, pIfE, pNeg, pCall, pCallL, pCallQ, pCallG, pRaise, R.bind, R.to, R.bindN, O.toR, PR.to, truth, allD, view, viewAll, itemsL, itemsT, lenW, tagD, tagW, isTy, tyOk, scalar, R.freeze, pFor, pItL, pItT, pItS, pRng1, pRng2, qName, qNil, qCons, qTup, pSub, pNo, pSo, pYes, pBrk, pCnt, startS, clearO, gInt, gAddI, gSubI, gLtI, gLeI, gGtI, gGeI, gEqD, gNeD, gIsN, gIsB, gStr, gIsi, gLen, gAbs, gInt1, gMin2, gMax2, gSum, gMaxI, gMinI, gList, gSorted, gIx, gInD, isNonD, viewI, catW, pCat, gMaxT, pFld, pSetF, pMeth, pMake, insOf, putW, noAtt, pTry, pListRev, pSlL, pSlT, pIsi2, allD_nil, eqv_int, shaped_int, allD_ints, allD_map, intsOf_map])]
    have key : ∀ x : Str, (if b1 = true then (if b2 = true then (["number", "paper"] : List Str) else ["number"]) else (if b2 = true then ["paper"] else [])) = [x] → pLc (pRng1 (pC (.int 2))) (qName 3) (pTru (pOp gIx (pVar 1) (pVar 3))) (pOp gIx (pDat (pLst (pCons (pC (.str "number")) (pCons (pC (.str "paper")) pNil)))) (pVar 3)) [3] [some (.k (.ref a)), some (.d (.list [.bool b1, .bool b2])), none, none] M = .ok [W.d (.str x)] M := fun x hx => by
      unfold pLc
      rw [it]
      cases b1 <;> cases b2 <;> simp only [if_true, if_false, Bool.false_eq_true, List.cons.injEq, and_true, reduceCtorEq, and_false] at hx
      · subst hx
        simp [wipeS, lcL, atI, ixN, z2, pSeq, pNext, pIf, pSet, pDrop, pRet, pRetN, pAsg, pVar, pC, pK, pCons, pNil, pTup, pLst, pDat, pMut, pOp, pB, pChain, pAndT, pOrT, pNotT, pAndV, pOrV, pNotV, pTru, pIfE, pNeg, pCall, pCallL, pCallQ, pCallG, pRaise, R.bind, R.to, R.bindN, O.toR, PR.to, truth, allD, view, viewAll, itemsL, itemsT, lenW, tagD, tagW, isTy, tyOk, scalar, R.freeze, pFor, pItL, pItT, pItS, pRng1, pRng2, qName, qNil, qCons, qTup, pSub, pNo, pSo, pYes, pBrk, pCnt, startS, clearO, gInt, gAddI, gSubI, gLtI, gLeI, gGtI, gGeI, gEqD, gNeD, gIsN, gIsB, gStr, gIsi, gLen, gAbs, gInt1, gMin2, gMax2, gSum, gMaxI, gMinI, gList, gSorted, gIx, gInD, isNonD, viewI, catW, pCat, gMaxT, pFld, pSetF, pMeth, pMake, insOf, putW, noAtt, pTry, pListRev, pSlL, pSlT, pIsi2, allD_nil, eqv_int, shaped_int, allD_ints, allD_map, intsOf_map]
      · subst hx
        simp [wipeS, lcL, atI, ixN, z2, pSeq, pNext, pIf, pSet, pDrop, pRet, pRetN, pAsg, pVar, pC, pK, pCons, pNil, pTup, pLst, pDat, pMut, pOp, pB, pChain, pAndT, pOrT, pNotT, pAndV, pOrV, pNotV, pTru, pIfE, pNeg, pCall, pCallL, pCallQ, pCallG, pRaise, R.bind, R.to, R.bindN, O.toR, PR.to, truth, allD, view, viewAll, itemsL, itemsT, lenW, tagD, tagW, isTy, tyOk, scalar, R.freeze, pFor, pItL, pItT, pItS, pRng1, pRng2, qName, qNil, qCons, qTup, pSub, pNo, pSo, pYes, pBrk, pCnt, startS, clearO, gInt, gAddI, gSubI, gLtI, gLeI, gGtI, gGeI, gEqD, gNeD, gIsN, gIsB, gStr, gIsi, gLen, gAbs, gInt1, gMin2, gMax2, gSum, gMaxI, gMinI, gList, gSorted, gIx, gInD, isNonD, viewI, catW, pCat, gMaxT, pFld, pSetF, pMeth, pMake, insOf, putW, noAtt, pTry, pListRev, pSlL, pSlT, pIsi2, allD_nil, eqv_int, shaped_int, allD_ints, allD_map, intsOf_map]
    have kk := key s (by rcases hb with ⟨rfl, rfl, rfl⟩ | ⟨rfl, rfl, rfl⟩ <;> rfl)
    rw [seq_nx (s' := [some (.k (.ref a)), some (.d (.list [.bool b1, .bool b2])), some (.d (.list [.str s])), none]) (M' := M) (set_ok (dat_ok kk rfl))]
    simp [gIsE, gHot, atI, ixN, eqv_int, shaped_int, pSeq, pNext, pIf, pSet, pDrop, pRet, pRetN, pAsg, pVar, pC, pK, pCons, pNil, pTup, pLst, pDat, pMut, pOp, pB, pChain, pAndT, pOrT, pNotT, pAndV, pOrV, pNotV, pTru, pIfE, pNeg, pCall, pCallL, pCallQ, pCallG, pRaise, R.bind, R.to, R.bindN, O.toR, PR.to, truth, allD, view, viewAll, itemsL, itemsT, lenW, tagD, tagW, isTy, tyOk, scalar, R.freeze, pFor, pItL, pItT, pItS, pRng1, pRng2, qName, qNil, qCons, qTup, pSub, pNo, pSo, pYes, pBrk, pCnt, startS, clearO, gInt, gAddI, gSubI, gLtI, gLeI, gGtI, gGeI, gEqD, gNeD, gIsN, gIsB, gStr, gIsi, gLen, gAbs, gInt1, gMin2, gMax2, gSum, gMaxI, gMinI, gList, gSorted, gIx, gInD, isNonD, viewI, catW, pCat, gMaxT, pFld, pSetF, pMeth, pMake, insOf, putW, noAtt, pTry, pListRev, pSlL, pSlT, pIsi2, allD_nil, eqv_int, shaped_int, allD_ints, allD_map, intsOf_map]
abbrev N__law_is_day : List Str := ["order", "day", "rows", "first", "every", "last"]
def b__law_is_day : PSx :=
  pSeq (pAsg (pVar 0) (qTup 4 (qCons (qName 2) (qCons (qName 3) (qCons (qName 4) (qCons (qName 5) (qNil)))))))
  (pRet (pAndV (pOp gGeI (pVar 1) (pVar 3)) (pAndV (pOp gEqD (pOp gModI (pCall gInt1 (pCons (pOp gSubI (pVar 1) (pVar 3)) (pNil))) (pVar 4)) (pC (.int 0))) (pAndV (pOrV (pOp (gIsN false) (pVar 5) (pC .none)) (pOp gLeI (pVar 1) (pVar 5))) (pOp gLeI (pVar 1) (pC (.int 100000)))))))
def f0__law_is_day : PF := runG N__law_is_day.length (["order", "day"] : List Str).length (b__law_is_day)
theorem run__law_is_day {ws : List W} {M : Ms} (h : ws.length = 2) : f0__law_is_day ws M = (b__law_is_day (startS 6 ws) M).toR := runG_pos h
def isDay (f e tp d : Int) : Bool := decide (f ≤ d) && (decide ((d - f).fmod e = 0) && (decide (d ≤ tp) && decide (d ≤ 100000)))
def q__law_is_day : List PyData → PR := fun ds => match ds with
  | [.tuple [rows, .int f, .int e, last], .int d] => (match topD last with
    | some tp => if 1 ≤ e ∧ e ≤ 1000 then .ok (.bool (isDay f e tp d)) else .stuck
    | none => .stuck)
  | _ => .stuck
theorem pure__law_is_day : ∀ ds, q__law_is_day ds ≠ .stuck → f0__law_is_day.pure ds = q__law_is_day ds := by
  intro ds h
  match ds, h with
  | [.tuple [rows, .int f, .int e, last], .int d], h =>
    unfold PF.pure
    rw [run__law_is_day rfl]
    unfold q__law_is_day at h ⊢
    cases ht : topD last with
    | none => simp only [ht] at h; exact absurd rfl h
    | some tp =>
      simp only [ht] at h ⊢
      by_cases hc : 1 ≤ e ∧ e ≤ 1000
      · rw [if_pos hc]
        obtain ⟨c1, c2⟩ := hc
        show (O.toR (b__law_is_day [some (.d (.tuple [rows, .int f, .int e, last])), some (.d (.int d)), none, none, none, none] [])).freeze = _
        unfold b__law_is_day
        rw [seq_nx (s' := [some (.d (.tuple [rows, .int f, .int e, last])), some (.d (.int d)), some (.d rows), some (.d (.int f)), some (.d (.int e)), some (.d last)]) (M' := []) (by
          simp [pAsg, qTup, qCons, qNil, qName, itemsT, pVar, R.to])]
        have hm : ∀ {M : Ms}, gModI (.d (.int (d - f))) (.d (.int e)) M = .ok (.d (.int ((d - f).fmod e))) M := mod_ok (by omega)
        unfold isDay
        by_cases q1 : f ≤ d
        · by_cases q2 : (d - f).fmod e = 0
          · cases last with
            | none =>
              simp only [topD, Option.some.injEq] at ht
              subst ht
              by_cases q4 : d ≤ 100000 <;> simp [q1, q2, q4, hm, eqv_int, shaped_int, pSeq, pNext, pIf, pSet, pDrop, pRet, pRetN, pAsg, pVar, pC, pK, pCons, pNil, pTup, pLst, pDat, pMut, pOp, pB, pChain, pAndT, pOrT, pNotT, pAndV, pOrV, pNotV, pTru, pIfE, pNeg, pCall, pCallL, pCallQ, pCallG, pRaise, R.bind, R.to, R.bindN, O.toR, PR.to, truth, allD, view, viewAll, itemsL, itemsT, lenW, tagD, tagW, isTy, tyOk, scalar, R.freeze, pFor, pItL, pItT, pItS, pRng1, pRng2, qName, qNil, qCons, qTup, pSub, pNo, pSo, pYes, pBrk, pCnt, startS, clearO, gInt, gAddI, gSubI, gLtI, gLeI, gGtI, gGeI, gEqD, gNeD, gIsN, gIsB, gStr, gIsi, gLen, gAbs, gInt1, gMin2, gMax2, gSum, gMaxI, gMinI, gList, gSorted, gIx, gInD, isNonD, viewI, catW, pCat, gMaxT, pFld, pSetF, pMeth, pMake, insOf, putW, noAtt, pTry, pListRev, pSlL, pSlT, pIsi2, allD_nil, eqv_int, shaped_int, allD_ints, allD_map, intsOf_map]
            | int l =>
              simp only [topD, Option.some.injEq] at ht
              subst ht
              by_cases q3 : d ≤ l <;> by_cases q4 : d ≤ 100000 <;> simp [q1, q2, q3, q4, hm, eqv_int, shaped_int, pSeq, pNext, pIf, pSet, pDrop, pRet, pRetN, pAsg, pVar, pC, pK, pCons, pNil, pTup, pLst, pDat, pMut, pOp, pB, pChain, pAndT, pOrT, pNotT, pAndV, pOrV, pNotV, pTru, pIfE, pNeg, pCall, pCallL, pCallQ, pCallG, pRaise, R.bind, R.to, R.bindN, O.toR, PR.to, truth, allD, view, viewAll, itemsL, itemsT, lenW, tagD, tagW, isTy, tyOk, scalar, R.freeze, pFor, pItL, pItT, pItS, pRng1, pRng2, qName, qNil, qCons, qTup, pSub, pNo, pSo, pYes, pBrk, pCnt, startS, clearO, gInt, gAddI, gSubI, gLtI, gLeI, gGtI, gGeI, gEqD, gNeD, gIsN, gIsB, gStr, gIsi, gLen, gAbs, gInt1, gMin2, gMax2, gSum, gMaxI, gMinI, gList, gSorted, gIx, gInD, isNonD, viewI, catW, pCat, gMaxT, pFld, pSetF, pMeth, pMake, insOf, putW, noAtt, pTry, pListRev, pSlL, pSlT, pIsi2, allD_nil, eqv_int, shaped_int, allD_ints, allD_map, intsOf_map]
            | _ => simp [topD] at ht
          · have q2' : ((d - f).fmod e == 0) = false := by simpa using q2
            simp [q1, q2, q2', hm, eqv_int, shaped_int, pSeq, pNext, pIf, pSet, pDrop, pRet, pRetN, pAsg, pVar, pC, pK, pCons, pNil, pTup, pLst, pDat, pMut, pOp, pB, pChain, pAndT, pOrT, pNotT, pAndV, pOrV, pNotV, pTru, pIfE, pNeg, pCall, pCallL, pCallQ, pCallG, pRaise, R.bind, R.to, R.bindN, O.toR, PR.to, truth, allD, view, viewAll, itemsL, itemsT, lenW, tagD, tagW, isTy, tyOk, scalar, R.freeze, pFor, pItL, pItT, pItS, pRng1, pRng2, qName, qNil, qCons, qTup, pSub, pNo, pSo, pYes, pBrk, pCnt, startS, clearO, gInt, gAddI, gSubI, gLtI, gLeI, gGtI, gGeI, gEqD, gNeD, gIsN, gIsB, gStr, gIsi, gLen, gAbs, gInt1, gMin2, gMax2, gSum, gMaxI, gMinI, gList, gSorted, gIx, gInD, isNonD, viewI, catW, pCat, gMaxT, pFld, pSetF, pMeth, pMake, insOf, putW, noAtt, pTry, pListRev, pSlL, pSlT, pIsi2, allD_nil, eqv_int, shaped_int, allD_ints, allD_map, intsOf_map]
        · simp [q1, pSeq, pNext, pIf, pSet, pDrop, pRet, pRetN, pAsg, pVar, pC, pK, pCons, pNil, pTup, pLst, pDat, pMut, pOp, pB, pChain, pAndT, pOrT, pNotT, pAndV, pOrV, pNotV, pTru, pIfE, pNeg, pCall, pCallL, pCallQ, pCallG, pRaise, R.bind, R.to, R.bindN, O.toR, PR.to, truth, allD, view, viewAll, itemsL, itemsT, lenW, tagD, tagW, isTy, tyOk, scalar, R.freeze, pFor, pItL, pItT, pItS, pRng1, pRng2, qName, qNil, qCons, qTup, pSub, pNo, pSo, pYes, pBrk, pCnt, startS, clearO, gInt, gAddI, gSubI, gLtI, gLeI, gGtI, gGeI, gEqD, gNeD, gIsN, gIsB, gStr, gIsi, gLen, gAbs, gInt1, gMin2, gMax2, gSum, gMaxI, gMinI, gList, gSorted, gIx, gInD, isNonD, viewI, catW, pCat, gMaxT, pFld, pSetF, pMeth, pMake, insOf, putW, noAtt, pTry, pListRev, pSlL, pSlT, pIsi2, allD_nil, eqv_int, shaped_int, allD_ints, allD_map, intsOf_map]
      · rw [if_neg hc] at h
        exact absurd rfl h
abbrev N__law_refused : List Str := ["rows", "first", "every", "last", "problem"]
def b__law_refused : PSx :=
  pSeq (pTry catK 4 (pDrop (pCallQ q_checked_order [] (pCons (pVar 0) (pCons (pVar 1) (pCons (pVar 2) (pCons (pVar 3) (pNil))))))) (suHot codeK 4))
  (pRet (pC (.str "none")))
def f0__law_refused : PF := runG N__law_refused.length (["rows", "first", "every", "last"] : List Str).length (b__law_refused)
theorem run__law_refused {ws : List W} {M : Ms} (h : ws.length = 4) : f0__law_refused ws M = (b__law_refused (startS 5 ws) M).toR := runG_pos h
theorem try_exc {b : PSx} {s s' : Sl} {M M' : Ms} {y : Str} (h : b s M = .exc ⟨y, none⟩ s' M') (hc : catK y = some true) (hl : 4 < s'.length) : pTry catK 4 b (suHot codeK 4) s M = .rt (.d (.str (codeK y))) M' := by
  unfold pTry
  rw [h]
  simp only [hc]
  have e : suHot codeK 4 ⟨y, none⟩ 0 (s'.set 4 (some (.k (.ref 0)))) M' = .rt (.d (.str (codeK y))) M' := by
    unfold suHot
    simp only
    rw [ret_ok (x := .d (.str (codeK y))) (M' := M') (by
      unfold pCallG
      rw [cons_ok (var_ok (x := .k (.ref 0)) (List.getElem?_set_self hl)) nil_ok]
      simp [R.bind, gHot])]
  rw [e]
  rfl
/-- what is refused, by its kind -/
def q__law_refused : List PyData → PR := fun ds => match ds with
  | [a, b, c, d] => (match orderR a b c d with
    | .exc ⟨y, none⟩ => if catK y = some true then .ok (.str (codeK y)) else .stuck
    | _ => .stuck)
  | _ => .stuck
theorem pure__law_refused : ∀ ds, q__law_refused ds ≠ .stuck → f0__law_refused.pure ds = q__law_refused ds := by
  intro ds h
  match ds, h with
  | [a, b, c, d], h =>
    unfold PF.pure
    rw [run__law_refused rfl]
    show (O.toR (b__law_refused [some (.d a), some (.d b), some (.d c), some (.d d), none] [])).freeze = _
    unfold q__law_refused at h ⊢
    simp only at h ⊢
    cases ho : orderR a b c d with
    | stuck => rw [ho] at h; exact absurd rfl h
    | ok x => rw [ho] at h; exact absurd rfl h
    | exc e =>
      obtain ⟨y, ar⟩ := e
      cases ar with
      | some z => rw [ho] at h; exact absurd rfl h
      | none =>
        rw [ho] at h
        simp only at h ⊢
        by_cases hc : catK y = some true
        · rw [if_pos hc]
          have hd : pDrop (pCallQ q_checked_order [] (pCons (pVar 0) (pCons (pVar 1) (pCons (pVar 2) (pCons (pVar 3) (pNil)))))) [some (.d a), some (.d b), some (.d c), some (.d d), none] [] = .exc ⟨y, none⟩ [some (.d a), some (.d b), some (.d c), some (.d d), none] [] := by
            unfold pDrop pCallQ
            rw [cons_ok (var_ok rfl) (cons_ok (var_ok rfl) (cons_ok (var_ok rfl) (cons_ok (var_ok rfl) nil_ok)))]
            simp only [R.bind, allD, Option.map, List.append_nil, q_checked_order, ho, PR.to, R.to]
          unfold b__law_refused
          rw [seq_rt (try_exc hd hc (by show 4 < 5; decide))]
          rfl
        · rw [if_neg hc] at h
          exact absurd rfl h
theorem Only0.refl {M : Ms} (h : PoolOk M) : Only0 M M := ⟨h, rfl, fun _ _ => rfl⟩
theorem same_true {p q : PEx} {s : Sl} {M M1 M2 : Ms} {d : PyData} (h1 : p s M = .ok (.d d) M1) (h2 : q s M1 = .ok (.d d) M2) (hd : sameOk 5 d = true) : pNotT (pTru (pCallQ q__law_same [] (pCons p (pCons q pNil)))) s M = .ok false M2 := by
  have z : q__law_same [d, d] = .ok (.bool true) := qs_ok hd
  refine not_ok (k := true) (tru_ok (x := .d (.bool true)) ?_ rfl)
  rw [call_data (ds := [d, d]) (cons_ok h1 (cons_ok h2 nil_ok)), z]
  rfl
theorem drawJ {s : Sl} {M : Ms} {j : Nat} {m : Int} (h : PoolOk M) (hs : s[j]? = some (some (.r 0))) (h0 : 0 < m) (h1 : m ≤ 1000000000) : ∃ v M', pCallG f__law_draw [] (pCons (pVar j) (pCons (pC (.int m)) pNil)) s M = .ok (.d (.int v)) M' ∧ 0 ≤ v ∧ v < m ∧ Only0 M M' := drawE h hs rfl h0 h1
theorem pickJ {s : Sl} {M M1 : Ms} {j : Nat} {pe : PEx} {ds : List PyData} (h : PoolOk M1) (hs : s[j]? = some (some (.r 0))) (hp : pe s M = .ok (.d (.list ds)) M1) (h1 : 1 ≤ ds.length) (h2 : ds.length ≤ 1000000) : ∃ d M', d ∈ ds ∧ pCallG f__law_pick [] (pCons (pVar j) (pCons pe pNil)) s M = .ok (.d d) M' ∧ Only0 M1 M' := by
  obtain ⟨d, M', a, b, c⟩ := pick_data h h1 h2
  refine ⟨d, M', a, ?_, c⟩
  rw [callG_ok (cons_ok (var_ok hs) (cons_ok hp nil_ok))]
  exact b
theorem sameAll_of {n : Nat} : ∀ {ds : List PyData}, (∀ d ∈ ds, sameOk n d = true) → sameAll n ds = true
  | [], _ => by simp [sameAll]
  | d :: ds, h => by
    rw [sameAll, h d List.mem_cons_self, sameAll_of fun x hx => h x (List.mem_cons_of_mem _ hx)]
    rfl
theorem pool_set {M : Ms} {j : Nat} {x : MO} (h : PoolOk M) (hj : j ≠ 0) : PoolOk (M.set j x) := by
  obtain ⟨ns, p1, p2, p3, p4, w1, w2⟩ := h
  exact ⟨ns, p1, p2, p3, p4, by rw [List.getElem?_set_ne hj]; exact w1, w2⟩
theorem pool_app {M : Ms} {x : Ms} (h : PoolOk M) : PoolOk (M ++ x) := by
  obtain ⟨ns, p1, p2, p3, p4, w1, w2⟩ := h
  exact ⟨ns, p1, p2, p3, p4, by rw [List.getElem?_append_left (List.getElem?_eq_some_iff.mp w1).1]; exact w1, w2⟩
abbrev N_law : List Str := ["script", "pool", "rows", "standing", "orders", "k", "first", "order", "name", "upto", "after", "later", "many", "every", "day", "end", "left", "wrong", "step", "last", "one"]
def lp0_law (C_Standing : Addr) : PSx :=
  pIf (pB (pOp gNeD (pCallQ q__law_refused [] (pCons (pVar 2) (pCons (pVar 6) (pCons (pVar 18) (pCons (pVar 19) (pNil)))))) (pC (.str "number")))) (pRet (pC (.bool false))) (pNext)
def lp1_law (C_Standing : Addr) : PSx :=
  pIf (pB (pOp gNeD (pCallQ q__law_refused [] (pCons (pVar 17) (pCons (pC (.int 0)) (pCons (pC (.int 1)) (pCons (pC .none) (pNil)))))) (pC (.str "paper")))) (pRet (pC (.bool false))) (pNext)
def lc2_law (C_Standing : Addr) : PAx :=
  pLc (pItL (pVar 13)) (qTup 2 (qCons (qName 14) (qCons (qName 20) (qNil)))) (pOrT (pB (pOp gNeD (pVar 20) (pVar 8))) (pB (pOp gLeI (pVar 14) (pVar 15)))) (pTup (pCons (pVar 14) (pCons (pVar 20) (pNil)))) [14, 20]
def lc3_law (C_Standing : Addr) : PAx :=
  pLc (pItL (pDat (pCallL gSortedK (pCons (pVar 4) (pNil))))) (qName 8) (pTru (pCallQ q__law_is_day [] (pCons (pGetD (pVar 4) (pVar 8)) (pCons (pVar 14) (pNil))))) (pTup (pCons (pVar 14) (pCons (pVar 8) (pNil)))) [8]
def lp4_law (C_Standing : Addr) : PSx :=
  pSet 13 (pDat (pCat (pVar 13) (pDat ((lc3_law C_Standing)))))
def lc5_law (C_Standing : Addr) : PAx :=
  pLc (pRng2 (pOp gAddI (pVar 10) (pC (.int 1))) (pOp gAddI (pVar 10) (pC (.int 60)))) (qName 14) (pTru (pCallQ q__law_is_day [] (pCons (pVar 7) (pCons (pVar 14) (pNil))))) (pVar 14) [14]
def lc6_law (C_Standing : Addr) : PAx :=
  pLc (pRng1 (pOp gAddI (pVar 9) (pC (.int 1)))) (qName 14) (pTru (pCallQ q__law_is_day [] (pCons (pVar 7) (pCons (pVar 14) (pNil))))) (pVar 14) [14]
def lp7_law (C_Standing : Addr) : PSx :=
  pSeq (pSet 6 (pCallG f__law_draw [] (pCons (pVar 1) (pCons (pC (.int 20)) (pNil)))))
  (pSeq (pSet 7 (pTup (pCons (pTup (pCons (pTup (pCons (pC (.str "a.a")) (pCons (pOp gSubI (pNeg (pC (.int 5))) (pVar 5)) (pNil)))) (pCons (pTup (pCons (pC (.str "a.b")) (pCons (pOp gAddI (pC (.int 5)) (pVar 5)) (pNil)))) (pNil)))) (pCons (pVar 6) (pCons (pOp gAddI (pC (.int 1)) (pCallG f__law_draw [] (pCons (pVar 1) (pCons (pC (.int 7)) (pNil))))) (pCons (pCallG f__law_pick [] (pCons (pVar 1) (pCons (pDat (pLst (pCons (pC .none) (pCons (pOp gAddI (pVar 6) (pCallG f__law_draw [] (pCons (pVar 1) (pCons (pC (.int 20)) (pNil))))) (pNil))))) (pNil)))) (pNil)))))))
  (pSeq (pSet 8 (pOp gIx (pDat (pLst (pCons (pC (.str "x")) (pCons (pC (.str "yy")) (pCons (pC (.str "zed")) (pNil)))))) (pVar 5)))
  (pSeq (pPutD (pVar 7) (pVar 4) (pVar 8))
  (pSeq (pDrop (pMeth C_Standing "add" ((f_Standing_add C_Standing)) [] (pVar 3) (pCons (pVar 8) (pCons (pOp gIx (pVar 7) (pC (.int 0))) (pCons (pOp gIx (pVar 7) (pC (.int 1))) (pCons (pOp gIx (pVar 7) (pC (.int 2))) (pCons (pOp gIx (pVar 7) (pC (.int 3))) (pNil))))))))
  (pSeq (pIf (pNotT (pTru (pCallQ q__law_same [] (pCons (pCallQ q_checked_order [] (pCons (pOp gIx (pVar 7) (pC (.int 0))) (pCons (pOp gIx (pVar 7) (pC (.int 1))) (pCons (pOp gIx (pVar 7) (pC (.int 2))) (pCons (pOp gIx (pVar 7) (pC (.int 3))) (pNil)))))) (pCons (pVar 7) (pNil)))))) (pRet (pC (.bool false))) (pNext))
  (pSeq (pSet 9 (pCallG f__law_draw [] (pCons (pVar 1) (pCons (pC (.int 50)) (pNil)))))
  (pSeq (pIf (pNotT (pTru (pCallQ q__law_same [] (pCons (pCallQ q_days_of [] (pCons (pVar 7) (pCons (pVar 9) (pNil)))) (pCons (pDat ((lc6_law C_Standing))) (pNil)))))) (pRet (pC (.bool false))) (pNext))
  (pSeq (pSet 10 (pOp gSubI (pCallG f__law_draw [] (pCons (pVar 1) (pCons (pC (.int 45)) (pNil)))) (pC (.int 1))))
  (pSeq (pSet 11 (pDat ((lc5_law C_Standing))))
  (pIf (pNotT (pTru (pCallQ q__law_same [] (pCons (pCallQ q_next_day [] (pCons (pVar 7) (pCons (pVar 10) (pNil)))) (pCons (pIfE (pB (pOp gGtI (pCall gLen (pCons (pVar 11) (pNil))) (pC (.int 0)))) (pOp gIx (pVar 11) (pC (.int 0))) (pC .none)) (pNil)))))) (pRet (pC (.bool false))) (pNext)))))))))))
def b_law (C_Standing : Addr) : PSx :=
  pSeq (pSet 2 (pTup (pCons (pTup (pCons (pC (.str "a.a")) (pCons (pNeg (pC (.int 5))) (pNil)))) (pCons (pTup (pCons (pC (.str "a.b")) (pCons (pC (.int 5)) (pNil)))) (pNil)))))
  (pSeq (pSet 3 (pMake C_Standing ((f_Standing_init C_Standing)) [] pNil))
  (pSeq (pSet 4 (pNewD))
  (pSeq (pFor (pRng1 (pOp gAddI (pC (.int 1)) (pCallG f__law_draw [] (pCons (pVar 1) (pCons (pC (.int 3)) (pNil)))))) (qName 5) ((lp7_law C_Standing)))
  (pSeq (pSet 10 (pOp gSubI (pCallG f__law_draw [] (pCons (pVar 1) (pCons (pC (.int 30)) (pNil)))) (pC (.int 1))))
  (pSeq (pSet 12 (pCallG f__law_draw [] (pCons (pVar 1) (pCons (pC (.int 9)) (pNil)))))
  (pSeq (pSet 13 (pDat (pLst (pNil))))
  (pSeq (pFor (pRng2 (pOp gAddI (pVar 10) (pC (.int 1))) (pOp gAddI (pVar 10) (pC (.int 150)))) (qName 14) ((lp4_law C_Standing)))
  (pSeq (pIf (pNotT (pTru (pCallQ q__law_same [] (pCons (pMeth C_Standing "coming" ((f_Standing_coming C_Standing)) [] (pVar 3) (pCons (pVar 10) (pCons (pVar 12) (pNil)))) (pCons (pDat (pSlL (pVar 13) (pNo) (pSo (pVar 12)))) (pNil)))))) (pRet (pC (.bool false))) (pNext))
  (pSeq (pSet 8 (pCallG f__law_pick [] (pCons (pVar 1) (pCons (pDat (pCallL gSortedK (pCons (pVar 4) (pNil)))) (pNil)))))
  (pSeq (pSet 15 (pCallG f__law_draw [] (pCons (pVar 1) (pCons (pC (.int 30)) (pNil)))))
  (pSeq (pDrop (pMeth C_Standing "end" ((f_Standing_end C_Standing)) [] (pVar 3) (pCons (pVar 8) (pCons (pVar 15) (pNil)))))
  (pSeq (pSet 16 (pDat ((lc2_law C_Standing))))
  (pSeq (pIf (pNotT (pTru (pCallQ q__law_same [] (pCons (pMeth C_Standing "coming" ((f_Standing_coming C_Standing)) [] (pVar 3) (pCons (pVar 10) (pCons (pVar 12) (pNil)))) (pCons (pDat (pSlL (pVar 16) (pNo) (pSo (pVar 12)))) (pNil)))))) (pRet (pC (.bool false))) (pNext))
  (pSeq (pIf (pOrT (pB (pOp gNeD (pCallQ q_next_day [] (pCons (pTup (pCons (pVar 2) (pCons (pC (.int 99999)) (pCons (pC (.int 1)) (pCons (pC .none) (pNil)))))) (pCons (pC (.int 99999)) (pNil)))) (pC (.int 100000)))) (pB (pOp (gIsN true) (pCallQ q_next_day [] (pCons (pTup (pCons (pVar 2) (pCons (pC (.int 99999)) (pCons (pC (.int 1)) (pCons (pC .none) (pNil)))))) (pCons (pC (.int 100000)) (pNil)))) (pC .none)))) (pRet (pC (.bool false))) (pNext))
  (pSeq (pFor (pItL (pDat (pLst (pCons (pTup (pNil)) (pCons (pTup (pCons (pTup (pCons (pC (.str "a.a")) (pCons (pC (.int 5)) (pNil)))) (pNil))) (pCons (pTup (pCons (pTup (pCons (pC (.str "a")) (pCons (pNeg (pC (.int 5))) (pNil)))) (pCons (pTup (pCons (pC (.str "a.b")) (pCons (pC (.int 5)) (pNil)))) (pNil)))) (pCons (pTup (pCons (pTup (pCons (pC (.str "a.a")) (pCons (pNeg (pC (.int 5))) (pNil)))) (pCons (pTup (pCons (pC (.str "a.a")) (pCons (pC (.int 5)) (pNil)))) (pNil)))) (pCons (pOp gCatT (pVar 2) (pTup (pCons (pC (.int 5)) (pNil)))) (pNil))))))))) (qName 17) ((lp1_law C_Standing)))
  (pSeq (pFor (pItL (pDat (pLst (pCons (pTup (pCons (pNeg (pC (.int 1))) (pCons (pC (.int 1)) (pCons (pC .none) (pNil))))) (pCons (pTup (pCons (pC (.bool true)) (pCons (pC (.int 1)) (pCons (pC .none) (pNil))))) (pCons (pTup (pCons (pC (.int 0)) (pCons (pC (.int 0)) (pCons (pC .none) (pNil))))) (pCons (pTup (pCons (pC (.int 0)) (pCons (pC (.int 1001)) (pCons (pC .none) (pNil))))) (pCons (pTup (pCons (pC (.int 7)) (pCons (pC (.int 1)) (pCons (pC (.int 6)) (pNil))))) (pCons (pTup (pCons (pC (.int 0)) (pCons (pC (.int 1)) (pCons (pC (.int 100001)) (pNil))))) (pNil)))))))))) (qTup 3 (qCons (qName 6) (qCons (qName 18) (qCons (qName 19) (qNil))))) ((lp0_law C_Standing)))
  (pRet (pC (.bool true)))))))))))))))))))
def f0_law (C_Standing : Addr) : PF := runG N_law.length (["script"] : List Str).length (b_law C_Standing)
theorem run_law (C_Standing : Addr) {ws : List W} {M : Ms} (h : ws.length = 1) : f0_law C_Standing ws M = (b_law C_Standing (startS 21 ws) M).toR := runG_pos h
end
end Z

set_option linter.all false
set_option autoImplicit false
set_option maxRecDepth 100000
set_option maxHeartbeats 4000000
namespace Z
open PySem PySem.Spec PyProof.Rows L2 L2H
/-! ### days of an order -/
theorem isDay_iff {f e tp d : Int} (he : 1 ≤ e) : isDay f e tp d = true ↔ (∃ k : Nat, d = f + k * e) ∧ d ≤ tp ∧ d ≤ 100000 := by
  unfold isDay
  simp only [Bool.and_eq_true, decide_eq_true_eq]
  constructor
  · rintro ⟨h1, h2, h3, h4⟩
    refine ⟨⟨((d - f).fdiv e).toNat, ?_⟩, h3, h4⟩
    have z := Int.mul_fdiv_add_fmod (d - f) e
    have nn : 0 ≤ (d - f).fdiv e := Int.fdiv_nonneg (by omega) (by omega)
    rw [h2] at z
    have e1 : (((d - f).fdiv e).toNat : Int) = (d - f).fdiv e := by omega
    rw [e1, Int.mul_comm]
    omega
  · rintro ⟨⟨k, rfl⟩, h3, h4⟩
    have p : 0 ≤ (k : Int) * e := Int.mul_nonneg (by omega) (by omega)
    refine ⟨by omega, ?_, h3, h4⟩
    have : f + k * e - f = k * e := by omega
    rw [this]
    exact Int.mul_fmod_left _ _
theorem nextRaw_spec {f e a : Int} (he : 1 ≤ e) : (∃ k : Nat, nextRaw f e a = f + k * e) ∧ a < nextRaw f e a ∧ (∀ k : Nat, a < f + k * e → nextRaw f e a ≤ f + k * e) := by
  unfold nextRaw
  by_cases h : a < f
  · rw [if_pos h]
    refine ⟨⟨0, by simp⟩, h, fun k _ => ?_⟩
    have p : 0 ≤ (k : Int) * e := Int.mul_nonneg (by omega) (by omega)
    omega
  · rw [if_neg h]
    have nn : 0 ≤ (a - f).fdiv e := Int.fdiv_nonneg (by omega) (by omega)
    have z := Int.mul_fdiv_add_fmod (a - f) e
    have m0 := Int.fmod_nonneg_of_pos (a - f) (show 0 < e by omega)
    have m1 := Int.fmod_lt_of_pos (a - f) (show 0 < e by omega)
    generalize (a - f).fdiv e = q at *
    have e1 : (q + 1) * e = e * q + e := by rw [Int.add_mul, Int.one_mul, Int.mul_comm]
    refine ⟨⟨(q + 1).toNat, ?_⟩, by omega, fun k hk => ?_⟩
    · have e2 : ((q + 1).toNat : Int) = q + 1 := by omega
      rw [e2]
    · have lt : q < k := by
        rcases Int.lt_or_le q k with hlt | hle
        · exact hlt
        · have : (k : Int) * e ≤ q * e := Int.mul_le_mul_of_nonneg_right hle (by omega)
          rw [Int.mul_comm q e] at this
          omega
      have : (q + 1) * e ≤ k * e := Int.mul_le_mul_of_nonneg_right (by omega) (by omega)
      omega
theorem nextRaw_le {f e a : Int} (he : 1 ≤ e) : nextRaw f e a ≤ max f (a + e) := by
  unfold nextRaw
  by_cases h : a < f
  · rw [if_pos h]; omega
  · rw [if_neg h]
    have z := Int.mul_fdiv_add_fmod (a - f) e
    have m0 := Int.fmod_nonneg_of_pos (a - f) (show 0 < e by omega)
    generalize (a - f).fdiv e = q at *
    have e1 : (q + 1) * e = e * q + e := by rw [Int.add_mul, Int.one_mul, Int.mul_comm]
    omega
theorem nextD_some {f e tp a d : Int} (he : 1 ≤ e) (ht : tp ≤ 100000) (h : nextD f e tp a = some d) : isDay f e tp d = true ∧ a < d ∧ ∀ x, isDay f e tp x = true → a < x → d ≤ x := by
  unfold nextD at h
  split at h
  · rename_i hle
    cases h
    obtain ⟨s1, s2, s3⟩ := nextRaw_spec (f := f) (a := a) he
    refine ⟨(isDay_iff he).mpr ⟨s1, hle, by omega⟩, s2, fun x hx hax => ?_⟩
    obtain ⟨⟨k, rfl⟩, _⟩ := (isDay_iff he).mp hx
    exact s3 k hax
  · cases h
theorem nextD_none {f e tp a : Int} (he : 1 ≤ e) (h : nextD f e tp a = none) : ∀ x, isDay f e tp x = true → ¬ a < x := by
  intro x hx hax
  unfold nextD at h
  split at h
  · cases h
  · rename_i hle
    obtain ⟨⟨k, rfl⟩, h2, _⟩ := (isDay_iff he).mp hx
    have s3 := (nextRaw_spec (f := f) (a := a) he).2.2 k hax
    omega
/-- sorted lists of the same numbers -/
theorem ints_uniq {l m : List Int} (h1 : l.Pairwise (· < ·)) (h2 : m.Pairwise (· < ·)) (h : ∀ x, x ∈ l ↔ x ∈ m) : l = m := by
  have n1 : l.Nodup := h1.imp fun hab => by omega
  have n2 : m.Nodup := h2.imp fun hab => by omega
  refine perm_uniq (le := (· ≤ ·)) ?_ (h1.imp fun hab => by omega) (h2.imp fun hab => by omega) fun a _ b _ x y => by omega
  exact perm_of_sub n2 (fun x hx => (h x).mpr hx) (by
    have a := perm_of_sub_len n1 fun x hx => (h x).mp hx
    have b := perm_of_sub_len n2 fun x hx => (h x).mpr hx
    omega)
end Z

set_option linter.all false
set_option autoImplicit false
set_option maxRecDepth 100000
set_option maxHeartbeats 4000000
namespace Z
open PySem PySem.Spec PyProof.Rows L2 L2H
theorem count_iff {f e en : Int} (he : 1 ≤ e) (k : Nat) : k < dayCount f e en ↔ f + k * e ≤ en := by
  unfold dayCount
  by_cases h : f ≤ en
  · rw [if_pos h]
    have nn : 0 ≤ (en - f) / e := Int.ediv_nonneg (by omega) (by omega)
    have z : (k : Int) ≤ (en - f) / e ↔ k * e ≤ en - f := Int.le_ediv_iff_mul_le (by omega)
    constructor
    · intro hk
      have := z.mp (by omega)
      omega
    · intro hk
      have := z.mpr (by omega)
      omega
  · rw [if_neg h]
    have p : 0 ≤ (k : Int) * e := Int.mul_nonneg (by omega) (by omega)
    omega
theorem range_inc {n : Nat} {g : Nat → Int} (h : ∀ i j, i < j → g i < g j) : ((List.range n).map g).Pairwise (· < ·) := by
  rw [List.pairwise_map]
  exact List.pairwise_lt_range.imp fun hab => h _ _ hab
def upTo (lo : Int) (n : Nat) : List Int := (List.range n).map fun i => lo + (i : Nat)
theorem upTo_mem {lo : Int} {n : Nat} {x : Int} : x ∈ upTo lo n ↔ lo ≤ x ∧ x < lo + n := by
  unfold upTo
  rw [List.mem_map]
  constructor
  · rintro ⟨i, hi, rfl⟩
    have := List.mem_range.mp hi
    omega
  · rintro ⟨h1, h2⟩
    exact ⟨(x - lo).toNat, List.mem_range.mpr (by omega), by omega⟩
theorem upTo_inc (lo : Int) (n : Nat) : (upTo lo n).Pairwise (· < ·) := range_inc fun i j h => by omega
theorem rngW_upTo (lo : Int) (n : Nat) : rngW lo n = (upTo lo n).map wi := by
  unfold rngW upTo
  rw [List.map_map]
  rfl
theorem days_eq {f e tp en upto : Int} (he : 1 ≤ e) (hf : 0 ≤ f) (h0 : 0 ≤ upto) (hu : upto ≤ 100000) (hen : en = if tp < upto then tp else upto) : (List.range (dayCount f e en)).map (fun k => f + (k : Nat) * e) = (upTo 0 (upto + 1).toNat).filter (isDay f e tp) := by
  refine ints_uniq (range_inc fun i j h => ?_) ((upTo_inc _ _).sublist List.filter_sublist) fun x => ?_
  · have : (i : Int) * e < j * e := Int.mul_lt_mul_of_pos_right (by omega) (by omega)
    omega
  · rw [List.mem_map, List.mem_filter, upTo_mem, isDay_iff he]
    constructor
    · rintro ⟨k, hk, rfl⟩
      have h1 := (count_iff he k).mp (List.mem_range.mp hk)
      have p : 0 ≤ (k : Int) * e := Int.mul_nonneg (by omega) (by omega)
      have : f + k * e ≤ upto ∧ f + k * e ≤ tp := by split at hen <;> omega
      exact ⟨⟨by omega, by omega⟩, ⟨k, rfl⟩, this.2, by omega⟩
    · rintro ⟨⟨h1, h2⟩, ⟨k, rfl⟩, h3, h4⟩
      refine ⟨k, List.mem_range.mpr ((count_iff he k).mpr ?_), rfl⟩
      split at hen <;> omega
/-! ### the next so many days -/
def genD (f e tp : Int) : Nat → Int → List Int
  | 0, _ => []
  | n + 1, a => match nextD f e tp a with
    | none => []
    | some d => d :: genD f e tp n d
section
variable {f e tp : Int}
theorem genD_mem (he : 1 ≤ e) (ht : tp ≤ 100000) : ∀ (n : Nat) (a : Int), (∀ x ∈ genD f e tp n a, isDay f e tp x = true ∧ a < x) ∧ (genD f e tp n a).Pairwise (· < ·) ∧ (genD f e tp n a).length ≤ n
  | 0, a => ⟨fun x h => (by cases h), List.Pairwise.nil, Nat.le_refl _⟩
  | n + 1, a => by
    unfold genD
    cases h : nextD f e tp a with
    | none => exact ⟨fun x h => (by cases h), List.Pairwise.nil, Nat.zero_le _⟩
    | some d =>
      obtain ⟨s1, s2, s3⟩ := nextD_some he ht h
      obtain ⟨i1, i2, i3⟩ := genD_mem he ht n d
      refine ⟨fun x hx => ?_, List.pairwise_cons.mpr ⟨fun x hx => (i1 x hx).2, i2⟩, by simp; omega⟩
      rcases List.mem_cons.mp hx with rfl | hx
      · exact ⟨s1, s2⟩
      · exact ⟨(i1 x hx).1, by have := (i1 x hx).2; omega⟩
theorem genD_all (he : 1 ≤ e) (ht : tp ≤ 100000) : ∀ (n : Nat) (a x : Int), isDay f e tp x = true → a < x → x ∈ genD f e tp n a ∨ ((genD f e tp n a).length = n ∧ ∀ y ∈ genD f e tp n a, y < x)
  | 0, a, x, _, _ => .inr ⟨rfl, fun y h => (by cases h)⟩
  | n + 1, a, x, hx, hax => by
    unfold genD
    cases h : nextD f e tp a with
    | none => exact absurd hax (nextD_none he h x hx)
    | some d =>
      obtain ⟨s1, s2, s3⟩ := nextD_some he ht h
      have hdx := s3 x hx hax
      by_cases q : d = x
      · exact .inl (by rw [q]; exact List.mem_cons_self)
      · rcases genD_all he ht n d x hx (by omega) with r | ⟨r1, r2⟩
        · exact .inl (List.mem_cons_of_mem _ r)
        · refine .inr ⟨by simp [r1], fun y hy => ?_⟩
          rcases List.mem_cons.mp hy with rfl | hy
          · omega
          · exact r2 y hy
theorem genD_le (he : 1 ≤ e) (ht : tp ≤ 100000) : ∀ (n : Nat) (a : Int), ∀ x ∈ genD f e tp n a, x ≤ max f (a + e) + n * e
  | 0, a, x, h => by cases h
  | n + 1, a, x, hx => by
    unfold genD at hx
    cases h : nextD f e tp a with
    | none => rw [h] at hx; cases hx
    | some d =>
      rw [h] at hx
      have hd : d ≤ max f (a + e) := by
        unfold nextD at h
        split at h
        · cases h; exact nextRaw_le he
        · cases h
      have hf : f ≤ d := by
        obtain ⟨⟨k, rfl⟩, _⟩ := (isDay_iff he).mp (nextD_some he ht h).1
        have p : 0 ≤ (k : Int) * e := Int.mul_nonneg (by omega) (by omega)
        omega
      have e1 : ((n + 1 : Nat) : Int) * e = n * e + e := by rw [Int.natCast_add, Int.add_mul]; simp
      have p : 0 ≤ (n : Int) * e := Int.mul_nonneg (by omega) (by omega)
      rcases List.mem_cons.mp hx with rfl | hx
      · omega
      · have := genD_le he ht n d x hx
        omega
end
/-! ### pairs -/
abbrev Pr := Int × Str
def ltP (p q : Pr) : Prop := p.1 < q.1 ∨ (p.1 = q.1 ∧ p.2.cps.toList < q.2.cps.toList)
def pairD (p : Pr) : PyData := .tuple [.int p.1, .str p.2]
theorem dataLt_pairD (p q : Pr) : PySem.W.dataLt (pairD p) (pairD q) = true ↔ ltP p q := by
  unfold pairD ltP
  rw [PySem.W.dataLt_pair (by simp [PySem.W.alike]) (by simp [PySem.W.alike]), PySem.W.dataLt_int, PySem.W.dataLt_str]
  simp only [eqv_int, eqv_str]
  by_cases h1 : p.1 = q.1
  · rw [if_pos (by simpa using h1)]
    by_cases h2 : p.2 = q.2
    · rw [if_pos (by simpa using h2), h1, h2]
      simp [List.lt_irrefl]
    · rw [if_neg (by simpa using h2)]
      simp [h1]
  · rw [if_neg (by simpa using h1)]
    simp [h1]
theorem ltP_irrefl (p : Pr) : ¬ ltP p p := fun h => by
  rcases h with h | ⟨_, h⟩
  · omega
  · exact List.lt_irrefl _ h
theorem ltP_asymm {p q : Pr} (h1 : ltP p q) (h2 : ltP q p) : False := by
  rcases h1 with h1 | ⟨e1, h1⟩ <;> rcases h2 with h2 | ⟨e2, h2⟩
  · omega
  · omega
  · omega
  · exact List.lt_irrefl _ (List.lt_trans h1 h2)
theorem ltP_total {p q : Pr} (h1 : ¬ ltP p q) (h2 : ¬ ltP q p) : p = q := by
  obtain ⟨a, b⟩ := p
  obtain ⟨c, d⟩ := q
  unfold ltP at h1 h2
  simp only [not_or, not_and] at h1 h2
  have e : a = c := by omega
  subst e
  have l1 : leS d b := List.not_lt.mp (h1.2 rfl)
  have l2 : leS b d := List.not_lt.mp (h2.2 rfl)
  rw [leS_anti l2 l1]
def sortPP (l : List Pr) : List Pr := l.mergeSort (PySem.W.dataLe false pairD)
theorem sortPP_map (l : List Pr) : sortD (l.map pairD) = (sortPP l).map pairD := (PySem.W.sort_maps pairD fun _ _ _ _ => rfl).symm
theorem sortPP_perm (l : List Pr) : (sortPP l).Perm l := List.mergeSort_perm _ _
theorem sortPP_pw {l : List Pr} (nd : l.Nodup) : (sortPP l).Pairwise ltP := by
  have h := PySem.W.sort_pairwise (le := PySem.W.dataLe false pairD) (PySem.W.sortLe_total _ _ _) l
  have n : (sortPP l).Nodup := (sortPP_perm l).nodup_iff.mpr nd
  refine (h.and n).imp ?_
  intro a b ⟨hab, ne⟩
  rw [PySem.W.dataLe_eq] at hab
  simp only [cond_false, Bool.not_eq_true'] at hab
  have h1 : ¬ ltP b a := fun z => by rw [(dataLt_pairD b a).mpr z] at hab; cases hab
  by_cases q : ltP a b
  · exact q
  · exact absurd (ltP_total q h1) ne
theorem sortable_pairs (l : List Pr) : sortable (l.map pairD) = true := by
  unfold sortable allAlike
  simp only [Bool.and_eq_true, Bool.or_eq_true, List.all_eq_true]
  refine ⟨⟨fun d hd e he => ?_, .inl fun d hd => ?_⟩, fun d hd => ?_⟩
  · obtain ⟨i, _, rfl⟩ := List.mem_map.mp hd
    obtain ⟨j, _, rfl⟩ := List.mem_map.mp he
    simp [pairD, PySem.W.alike, PySem.W.alikeAll]
  · obtain ⟨i, _, rfl⟩ := List.mem_map.mp hd
    rfl
  · obtain ⟨i, _, rfl⟩ := List.mem_map.mp hd
    simp [pairD, PyData.depth, PyData.depthAll]
theorem take_eq : ∀ (m : Nat) (A B : List Pr), A.Pairwise ltP → B.Pairwise ltP → (∀ x ∈ A, x ∈ B) → (∀ x ∈ B.take m, x ∈ A) → A.take m = B.take m
  | 0, A, B, _, _, _, _ => by simp
  | m + 1, A, [], _, _, h, _ => by
    have : A = [] := List.eq_nil_iff_forall_not_mem.mpr fun x hx => by cases h x hx
    rw [this]
  | m + 1, [], b :: B, _, _, _, h => by
    have := h b (by simp)
    cases this
  | m + 1, a :: A, b :: B, hA, hB, h1, h2 => by
    obtain ⟨a1, a2⟩ := List.pairwise_cons.mp hA
    obtain ⟨b1, b2⟩ := List.pairwise_cons.mp hB
    have e : a = b := by
      rcases List.mem_cons.mp (h1 a List.mem_cons_self) with e | ha
      · exact e
      · rcases List.mem_cons.mp (h2 b (by simp)) with e | hb
        · exact e.symm
        · exact (ltP_asymm (b1 a ha) (a1 b hb)).elim
    subst e
    rw [List.take_succ_cons, List.take_succ_cons]
    congr 1
    refine take_eq m A B a2 b2 (fun x hx => ?_) fun x hx => ?_
    · rcases List.mem_cons.mp (h1 x (List.mem_cons_of_mem _ hx)) with e | hx'
      · subst e; exact absurd (a1 x hx) (ltP_irrefl x)
      · exact hx'
    · rcases List.mem_cons.mp (h2 x (by rw [List.take_succ_cons]; exact List.mem_cons_of_mem _ hx)) with e | hx'
      · subst e; exact absurd (b1 x (List.mem_of_mem_take hx)) (ltP_irrefl x)
      · exact hx'
theorem not_first {m : Nat} {S B : List Pr} {x : Pr} (hB : B.Pairwise ltP) (hS : S.Nodup) (hl : S.length = m) (h : ∀ s ∈ S, s ∈ B ∧ ltP s x) : x ∉ B.take m := by
  intro hx
  obtain ⟨L, R, e⟩ := List.append_of_mem hx
  have hLm : L.length < m := by
    have := congrArg List.length e
    rw [List.length_append, List.length_cons, List.length_take] at this
    omega
  have sub : ∀ s ∈ S, s ∈ L := fun s hs => by
    obtain ⟨s1, s2⟩ := h s hs
    have hB' : B = L ++ x :: (R ++ B.drop m) := by
      have := List.take_append_drop m B
      rw [e, List.append_assoc] at this
      exact this.symm
    rw [hB'] at s1 hB
    rcases List.mem_append.mp s1 with s1 | s1
    · exact s1
    · obtain ⟨_, p2, _⟩ := List.pairwise_append.mp hB
      rcases List.mem_cons.mp s1 with rfl | s1
      · exact absurd s2 (ltP_irrefl s)
      · exact (ltP_asymm s2 ((List.pairwise_cons.mp p2).1 s s1)).elim
  have := perm_of_sub_len hS sub
  omega
/-- an order as it is kept -/
structure Od where
  nm : Str
  rows : PyData
  f : Int
  e : Int
  last : PyData
  tp : Int
structure Od.ok (o : Od) : Prop where
  e1 : 1 ≤ o.e
  e2 : o.e ≤ 7
  f0 : 0 ≤ o.f
  f1 : o.f ≤ 19
  top : topD o.last = some o.tp
  tp1 : o.tp ≤ 100000
def pairsOf (os : List Od) (many : Nat) (a : Int) : List Pr := os.flatMap fun o => (genD o.f o.e o.tp many a).map fun d => (d, o.nm)
theorem pairs_mem {os : List Od} {many : Nat} {a : Int} {p : Pr} : p ∈ pairsOf os many a ↔ ∃ o ∈ os, o.nm = p.2 ∧ p.1 ∈ genD o.f o.e o.tp many a := by
  unfold pairsOf
  rw [List.mem_flatMap]
  constructor
  · rintro ⟨o, ho, h⟩
    obtain ⟨d, hd, rfl⟩ := List.mem_map.mp h
    exact ⟨o, ho, rfl, hd⟩
  · rintro ⟨o, ho, h1, h2⟩
    exact ⟨o, ho, List.mem_map.mpr ⟨p.1, h2, by rw [h1]⟩⟩
theorem pairs_nodup {many : Nat} {a : Int} : ∀ {os : List Od}, (∀ o ∈ os, o.ok) → (os.map (·.nm)).Nodup → (pairsOf os many a).Nodup
  | [], _, _ => List.nodup_nil
  | o :: os, hok, nd => by
    obtain ⟨n1, n2⟩ := List.nodup_cons.mp (show (o.nm :: os.map (·.nm)).Nodup from nd)
    have ok := hok o List.mem_cons_self
    have ih := pairs_nodup (many := many) (a := a) (os := os) (fun p hp => hok p (List.mem_cons_of_mem _ hp)) n2
    unfold pairsOf at ih ⊢
    rw [List.flatMap_cons, List.nodup_append]
    refine ⟨?_, ih, fun x hx y hy => ?_⟩
    · have h := (genD_mem (f := o.f) ok.e1 ok.tp1 many a).2.1
      have : (genD o.f o.e o.tp many a).Nodup := h.imp fun hab => by omega
      refine List.Pairwise.map _ ?_ this
      intro x y hne z
      exact hne (congrArg Prod.fst z)
    · obtain ⟨d, _, rfl⟩ := List.mem_map.mp hx
      obtain ⟨o', ho', h'⟩ := List.mem_flatMap.mp hy
      obtain ⟨d', _, rfl⟩ := List.mem_map.mp h'
      intro z
      exact n1 (List.mem_map.mpr ⟨o', ho', (congrArg Prod.snd z).symm⟩)
theorem coming_eq {os : List Od} {B : List Pr} {many : Nat} {a : Int} (hok : ∀ o ∈ os, o.ok) (nd : (os.map (·.nm)).Nodup) (hB : B.Pairwise ltP) (hm : many ≤ 8) (ha : -1 ≤ a)
    (hmem : ∀ p : Pr, p ∈ B ↔ ∃ o ∈ os, o.nm = p.2 ∧ isDay o.f o.e o.tp p.1 = true ∧ a < p.1 ∧ p.1 < a + 150) : (sortPP (pairsOf os many a)).take many = B.take many := by
  have win : ∀ o ∈ os, ∀ x ∈ genD o.f o.e o.tp many a, isDay o.f o.e o.tp x = true ∧ a < x ∧ x < a + 150 := fun o ho x hx => by
    have ok := hok o ho
    obtain ⟨h1, h2⟩ := (genD_mem (f := o.f) ok.e1 ok.tp1 many a).1 x hx
    have h3 := genD_le (f := o.f) ok.e1 ok.tp1 many a x hx
    refine ⟨h1, h2, ?_⟩
    have a1 := ok.e2
    have a2 := ok.f1
    have : (many : Int) * o.e ≤ 8 * 7 := by
      have m1 : (many : Int) * o.e ≤ many * 7 := Int.mul_le_mul_of_nonneg_left ok.e2 (by omega)
      omega
    omega
  refine take_eq many _ B (sortPP_pw (pairs_nodup hok nd)) hB (fun p hp => ?_) fun p hp => ?_
  · obtain ⟨o, ho, h1, h2⟩ := pairs_mem.mp ((sortPP_perm _).mem_iff.mp hp)
    exact (hmem p).mpr ⟨o, ho, h1, win o ho _ h2⟩
  · refine (sortPP_perm _).mem_iff.mpr (pairs_mem.mpr ?_)
    obtain ⟨o, ho, h1, h2, h3, h4⟩ := (hmem p).mp (List.mem_of_mem_take hp)
    refine ⟨o, ho, h1, ?_⟩
    have ok := hok o ho
    rcases genD_all (f := o.f) ok.e1 ok.tp1 many a p.1 h2 h3 with r | ⟨r1, r2⟩
    · exact r
    · exfalso
      refine not_first (S := (genD o.f o.e o.tp many a).map fun d => (d, o.nm)) hB ?_ (by rw [List.length_map, r1]) (fun s hs => ?_) hp
      · have : (genD o.f o.e o.tp many a).Nodup := (genD_mem (f := o.f) ok.e1 ok.tp1 many a).2.1.imp fun hab => by omega
        refine List.Pairwise.map _ ?_ this
        intro x y hne z
        exact hne (congrArg Prod.fst z)
      · obtain ⟨d, hd, rfl⟩ := List.mem_map.mp hs
        exact ⟨(hmem _).mpr ⟨o, ho, rfl, win o ho d hd⟩, .inl (r2 d hd)⟩
end Z

set_option linter.all false
set_option autoImplicit false
set_option maxRecDepth 100000
set_option maxHeartbeats 4000000
namespace Z
open PySem PySem.Spec PyProof.Rows L2 L2H
def ordD (o : Od) : PyData := .tuple [o.rows, .int o.f, .int o.e, o.last]
def kvsOf (os : List Od) : List (PyData × W) := os.map fun o => (.str o.nm, .d (ordD o))
theorem eqK_str (a b : Str) : eqK (.str a) (.str b) = decide (a = b) := rfl
theorem val_in {o : Od} : ∀ {os : List Od}, (os.map (·.nm)).Nodup → o ∈ os → valP (kvsOf os) (.str o.nm) = some (.d (ordD o))
  | [], _, h => by cases h
  | p :: os, nd, h => by
    obtain ⟨n1, n2⟩ := List.nodup_cons.mp (show (p.nm :: os.map (·.nm)).Nodup from nd)
    by_cases e : p.nm = o.nm
    · have ep : p = o := by
        rcases List.mem_cons.mp h with h | h
        · exact h.symm
        · exact absurd (List.mem_map.mpr ⟨o, h, e.symm⟩) n1
      subst ep
      simp [valP, kvsOf, List.find?_cons, eqK_str]
    · have ho : o ∈ os := (List.mem_cons.mp h).resolve_left fun z => e (by rw [z])
      have ih := val_in n2 ho
      unfold valP kvsOf at ih ⊢
      rw [List.map_cons, List.find?_cons]
      simp only [eqK_str, e, decide_false]
      exact ih
theorem any_kvs (nm : Str) : ∀ os : List Od, ((kvsOf os).any fun p => eqK p.1 (.str nm)) = decide (nm ∈ os.map (·.nm))
  | [] => by simp [kvsOf]
  | p :: os => by
    have ih := any_kvs nm os
    unfold kvsOf at ih ⊢
    rw [List.map_cons, List.any_cons, ih, eqK_str]
    by_cases e : p.nm = nm
    · simp [e]
    · have e' : ¬ nm = p.nm := fun z => e z.symm
      simp [e, e']
theorem val_out {nm : Str} : ∀ {os : List Od}, nm ∉ os.map (·.nm) → valP (kvsOf os) (.str nm) = none
  | [], _ => rfl
  | p :: os, h => by
    simp only [List.map_cons, List.mem_cons, not_or] at h
    have ih := val_out h.2
    have e : ¬ p.nm = nm := fun z => h.1 z.symm
    unfold valP kvsOf at ih ⊢
    rw [List.map_cons, List.find?_cons]
    simp only [eqK_str, e, decide_false]
    exact ih
theorem put_out {o : Od} {os : List Od} (h : o.nm ∉ os.map (·.nm)) : putP (kvsOf os) (.str o.nm) (.d (ordD o)) = kvsOf (os ++ [o]) := by
  unfold putP
  rw [any_kvs, if_neg (by simpa using h)]
  unfold kvsOf
  rw [List.map_append]
  rfl
def swapO (o' : Od) (os : List Od) : List Od := os.map fun p => if p.nm = o'.nm then o' else p
theorem put_in {o' : Od} {os : List Od} (h : o'.nm ∈ os.map (·.nm)) : putP (kvsOf os) (.str o'.nm) (.d (ordD o')) = kvsOf (swapO o' os) := by
  unfold putP
  rw [any_kvs, if_pos (by simpa using h)]
  unfold kvsOf swapO
  rw [List.map_map, List.map_map]
  refine List.map_congr_left fun p _ => ?_
  simp only [Function.comp_apply]
  by_cases e : p.nm = o'.nm
  · have q : eqK (PyData.str p.nm) (.str o'.nm) = true := by rw [eqK_str]; simpa using e
    rw [if_pos q, if_pos e, e]
  · have q : ¬ eqK (PyData.str p.nm) (.str o'.nm) = true := by rw [eqK_str]; simpa using e
    rw [if_neg q, if_neg e]
theorem keys_kvs : ∀ os : List Od, keysS (kvsOf os) = some (os.map (·.nm))
  | [] => rfl
  | p :: os => by
    have ih := keys_kvs os
    unfold kvsOf at ih ⊢
    rw [List.map_cons]
    unfold keysS
    simp only [ih]
    rfl
theorem look1 {f m : Str} {x : W} (h : (m == f) = false) : [(f, x)].lookup m = none := by simp [List.lookup, h]
structure Stg (C : Addr) (i m : Nat) (os : List Od) (M : Ms) : Prop where
  ins : M[i]? = some (.ins C [("_orders", .r m)])
  dic : M[m]? = some (.dic false (kvsOf os))
section
variable {C : Addr} {i m : Nat} {os : List Od} {M : Ms}
theorem stg_fld (h : Stg C i m os M) {s : Sl} {j : Nat} (hs : s[j]? = some (some (.r i))) : pFld C "_orders" (pVar j) s M = .ok (.r m) M := fld_of hs h.ins rfl
theorem sorted_keys {s : Sl} {M M' : Ms} {p : PEx} {j : Nat} (hp : p s M = .ok (.r j) M') (hd : M'[j]? = some (.dic false (kvsOf os))) (hl : os.length < 64) (hs : sortS (os.map (·.nm)) = os.map (·.nm)) : pDat (pCallL gSortedK (pCons p pNil)) s M = .ok (.d (.list ((os.map (·.nm)).map .str))) M' := by
  refine dat_ok (ws := strsW (os.map (·.nm))) ?_ (allD_strs _)
  rw [callL1 hp]
  unfold gSortedK
  simp only [dicOf_dic hd, keys_kvs]
  rw [if_pos (by rw [List.length_map]; exact hl), hs]
theorem names_ok (h : Stg C i m os M) (hl : os.length < 64) (hs : sortS (os.map (·.nm)) = os.map (·.nm)) : f0_Standing_names C [.r i] M = .ok (.d (.list ((os.map (·.nm)).map .str))) M := by
  rw [run_Standing_names C rfl]
  unfold b_Standing_names
  show O.toR (pRet _ [some (.r i)] M) = _
  rw [ret_ok (sorted_keys (stg_fld h rfl) h.dic hl hs)]
  rfl
theorem order_ok (h : Stg C i m os M) {o : Od} (ho : o ∈ os) (nd : (os.map (·.nm)).Nodup) : f0_Standing_order C [.r i, .d (.str o.nm)] M = .ok (.d (ordD o)) M := by
  rw [run_Standing_order C rfl]
  unfold b_Standing_order
  show O.toR (pSeq _ _ [some (.r i), some (.d (.str o.nm))] M) = _
  have hv := val_in nd ho
  have hf := stg_fld h (s := [some (.r i), some (.d (.str o.nm))]) (j := 0) rfl
  rw [seq_nx (s' := [some (.r i), some (.d (.str o.nm))]) (M' := M) (by
    rw [if_ff (M' := M) (by
      refine pB_ok ?_
      rw [din_ok (var_ok rfl) hf (dicOf_dic h.dic) rfl, hv]
      rfl)]
    rfl)]
  rw [ret_ok (getD_ok hf (var_ok rfl) (dicOf_dic h.dic) rfl hv)]
  rfl
theorem add_lc (h : Stg C i m os M) {s : Sl} (hs : s[0]? = some (some (.r i))) {Rw : PyData} (h2 : s[2]? = some (some (.d Rw))) (hl : s.length = 8) (nd : (os.map (·.nm)).Nodup) (hn : os.length ≤ 40)
    (hr : ∀ p ∈ os, SeqAt.shaped p.rows = true ∧ PyData.eqv p.rows Rw = false) (hR : SeqAt.shaped Rw = true) : pDat (pLock (pickP (pFld C "_orders" (pVar 0))) ((lc0_Standing_add C))) s M = .ok (.d (.list [])) M := by
  refine dat_ok (ws := []) ?_ rfl
  have hml : m < M.length := (List.getElem?_eq_some_iff.mp h.dic).1
  refine lock_ok (i := m) (t := false) (kvs := kvsOf os) (by unfold pickP; rw [stg_fld h hs]) h.dic ?_
  obtain ⟨M1, hM1⟩ : ∃ M1, M1 = M.set m (.dlk false (kvsOf os)) := ⟨_, rfl⟩
  rw [← hM1]
  have ne : m ≠ i := fun e => by have := h.ins; rw [← e, h.dic] at this; cases this
  have i1 : M1[i]? = some (.ins C [("_orders", .r m)]) := by rw [hM1, List.getElem?_set_ne ne]; exact h.ins
  have d1 : M1[m]? = some (.dlk false (kvsOf os)) := by rw [hM1]; exact List.getElem?_set_self hml
  have ks : pKeys (pFld C "_orders" (pVar 0)) s M1 = .ok (os.map fun o => .d (.str o.nm)) M1 := by
    unfold pKeys
    rw [fld_of (f := "_orders") hs i1 rfl]
    simp only [R.bind, d1]
    unfold kvsOf
    rw [List.map_map]
    rfl
  unfold lc0_Standing_add pLc
  rw [ks]
  simp only [R.bind]
  rw [if_pos (by rw [List.length_map]; exact Nat.le_trans hn (by decide))]
  rw [lcL_pure (fun _ => false) id]
  · simp
  · intro x hx
    obtain ⟨p, hp, rfl⟩ := List.mem_map.mp hx
    refine ⟨_, rfl, ?_, fun z => by cases z⟩
    have v7 : ((wipeS s [7]).set 7 (some (.d (.str p.nm))))[7]? = some (some (.d (.str p.nm))) := set_at (n := 8) (by simp [wipeS, hl]) (by decide)
    have v0 : ((wipeS s [7]).set 7 (some (.d (.str p.nm))))[0]? = some (some (.r i)) := has_set (has_set hs (by decide)) (by decide)
    have v2 : ((wipeS s [7]).set 7 (some (.d (.str p.nm))))[2]? = some (some (.d Rw)) := has_set (has_set h2 (by decide)) (by decide)
    obtain ⟨r1, r2⟩ := hr p hp
    refine pB_ok ?_
    rw [op_ok (ixT_ok (i := 0) (d := p.rows) (getD_ok (fld_of (f := "_orders") v0 i1 rfl) (var_ok v7) (dicOf_dlk d1) rfl (val_in nd hp)) rfl) (var_ok v2)]
    simp only [gEqD, view, r1, hR, and_self, if_true, r2]
theorem add_ok' (h : Stg C i m os M) {o : Od} (hnm : isNameD (.str o.nm) = true) (hor : orderR o.rows (.int o.f) (.int o.e) o.last = .ok (ordD o)) (nd : (os.map (·.nm)).Nodup) (hout : o.nm ∉ os.map (·.nm)) (hn : os.length < 40)
    (hr : ∀ p ∈ os, SeqAt.shaped p.rows = true ∧ PyData.eqv p.rows o.rows = false) (hR : SeqAt.shaped o.rows = true) :
    f0_Standing_add C [.r i, .d (.str o.nm), .d o.rows, .d (.int o.f), .d (.int o.e), .d o.last] M = .ok (.d .none) (M.set m (.dic false (kvsOf (os ++ [o])))) := by
  rw [run_Standing_add C rfl]
  unfold b_Standing_add
  obtain ⟨s0, hs0⟩ : ∃ s0 : Sl, s0 = [some (.r i), some (.d (.str o.nm)), some (.d o.rows), some (.d (.int o.f)), some (.d (.int o.e)), some (.d o.last), none, none] := ⟨_, rfl⟩
  show O.toR (pSeq _ _ [some (.r i), some (.d (.str o.nm)), some (.d o.rows), some (.d (.int o.f)), some (.d (.int o.e)), some (.d o.last), none, none] M) = _
  rw [← hs0]
  have a0 : s0[0]? = some (some (.r i)) := by rw [hs0]; rfl
  have a1 : s0[1]? = some (some (.d (.str o.nm))) := by rw [hs0]; rfl
  have a2 : s0[2]? = some (some (.d o.rows)) := by rw [hs0]; rfl
  have a3 : s0[3]? = some (some (.d (.int o.f))) := by rw [hs0]; rfl
  have a4 : s0[4]? = some (some (.d (.int o.e))) := by rw [hs0]; rfl
  have a5 : s0[5]? = some (some (.d o.last)) := by rw [hs0]; rfl
  have l0 : s0.length = 8 := by rw [hs0]; rfl
  clear hs0
  have c1 : pCallQ q_checked_name [] (pCons (pVar 1) (pNil)) s0 M = .ok (.d (.str o.nm)) M := by
    rw [call_data (ds := [.str o.nm]) (cons_ok (var_ok a1) nil_ok)]
    simp [q_checked_name, hnm, PR.to]
  rw [seq_nx (drop_ok c1)]
  have c2 : pCallQ q_checked_order [] (pCons (pVar 2) (pCons (pVar 3) (pCons (pVar 4) (pCons (pVar 5) (pNil))))) s0 M = .ok (.d (ordD o)) M := by
    rw [call_data (ds := [o.rows, .int o.f, .int o.e, o.last]) (cons_ok (var_ok a2) (cons_ok (var_ok a3) (cons_ok (var_ok a4) (cons_ok (var_ok a5) nil_ok))))]
    show (orderR _ _ _ _).to M = _
    rw [hor]
    rfl
  rw [seq_nx (set_ok c2)]
  obtain ⟨s1, hs1⟩ : ∃ s1, s1 = s0.set 6 (some (.d (ordD o))) := ⟨_, rfl⟩
  rw [← hs1]
  have b0 : s1[0]? = some (some (.r i)) := by rw [hs1]; exact has_set a0 (by decide)
  have b1 : s1[1]? = some (some (.d (.str o.nm))) := by rw [hs1]; exact has_set a1 (by decide)
  have b2 : s1[2]? = some (some (.d o.rows)) := by rw [hs1]; exact has_set a2 (by decide)
  have b6 : s1[6]? = some (some (.d (ordD o))) := by rw [hs1]; exact set_at l0 (by decide)
  have l1 : s1.length = 8 := by rw [hs1, List.length_set]; exact l0
  have hf := stg_fld h b0
  rw [seq_nx (s' := s1) (M' := M) (by
    rw [if_ff (M' := M) (by
      rw [or_ff (M' := M) (by
        refine pB_ok ?_
        rw [din_ok (var_ok b1) hf (dicOf_dic h.dic) rfl, val_out hout]
        rfl)]
      exact tru_ok (add_lc h b0 b2 l1 nd (by omega) hr hR) rfl)]
    rfl)]
  rw [seq_nx (s' := s1) (M' := M) (by
    rw [if_ff (M' := M) (by
      refine pB_ok ?_
      rw [op_ok (x := .d (.int (kvsOf os).length)) (y := .d (.int 40)) (M' := M) (M'' := M) (by rw [call1 hf]; unfold gLenD; simp only [dicM_dic h.dic]) rfl]
      have e : ¬ (40 : Int) ≤ (kvsOf os).length := by unfold kvsOf; rw [List.length_map]; omega
      simp [gGeI, gInt, e])]
    rfl)]
  rw [putD_ok (var_ok b6) hf (var_ok b1) (dicM_dic h.dic) rfl (by unfold kvsOf; rw [List.length_map]; omega), put_out hout]
  rfl
/-! ### coming -/
def prW (nm : Str) (d : Int) : W := .d (pairD (d, nm))
theorem next_ok {o : Od} (hok : o.ok) {s : Sl} {M M' : Ms} {pe pa : PEx} {a : Int} (h1 : pe s M = .ok (.d (ordD o)) M') (h2 : pa s M' = .ok (.d (.int a)) M') : pCallQ q_next_day [] (pCons pe (pCons pa (pNil))) s M = .ok (.d (optD (nextD o.f o.e o.tp a))) M' := by
  rw [call_data (ds := [ordD o, .int a]) (cons_ok h1 (cons_ok h2 nil_ok))]
  unfold ordD q_next_day
  have := hok.e1
  have := hok.e2
  simp only [hok.top]
  rw [if_pos ⟨by omega, by omega⟩]
  rfl
theorem coming_in (h : Stg C i m os M) {o : Od} (ho : o ∈ os) (hok : o.ok) (nd : (os.map (·.nm)).Nodup) {r : Nat} (hr : M.length = r) : ∀ (ws : List W) (a : Int) (s : Sl) (L : List W), s.length = 7 → s[0]? = some (some (.r i)) → s[3]? = some (some (.r r)) → s[4]? = some (some (.d (.str o.nm))) → s[5]? = some (some (.d (optD (nextD o.f o.e o.tp a)))) → L.length + ws.length ≤ 1000 →
    ∃ s', forL (qName 6) (lp0_Standing_coming C) ws s (M ++ [.lst L]) = .nx s' (M ++ [.lst (L ++ (genD o.f o.e o.tp ws.length a).map (prW o.nm))]) ∧ s'.length = 7 ∧ ∀ j, j ≠ 5 → j ≠ 6 → s'[j]? = s[j]?
  | [], a, s, L, hl, _, _, _, _, _ => ⟨s, by rw [forL]; simp [genD], hl, fun _ _ _ => rfl⟩
  | x :: ws, a, s, L, hl, h0, h3, h4, h5, hn => by
    rw [List.length_cons] at hn
    obtain ⟨s1, hs1⟩ : ∃ s1, s1 = s.set 6 (some x) := ⟨_, rfl⟩
    have k0 : s1[0]? = some (some (.r i)) := by rw [hs1]; exact has_set h0 (by decide)
    have k3 : s1[3]? = some (some (.r r)) := by rw [hs1]; exact has_set h3 (by decide)
    have k4 : s1[4]? = some (some (.d (.str o.nm))) := by rw [hs1]; exact has_set h4 (by decide)
    have k5 : s1[5]? = some (some (.d (optD (nextD o.f o.e o.tp a)))) := by rw [hs1]; exact has_set h5 (by decide)
    have kl : s1.length = 7 := by rw [hs1, List.length_set]; exact hl
    have kk : ∀ j, j ≠ 6 → s1[j]? = s[j]? := fun j hj => by rw [hs1, List.getElem?_set_ne (Ne.symm hj)]
    have hg : qName 6 x s (M ++ [.lst L]) = some s1 := by rw [hs1]; rfl
    have mr : (M ++ [MO.lst L])[r]? = some (.lst L) := by rw [← hr]; simp
    rw [forL, hg]
    simp only
    cases hd : nextD o.f o.e o.tp a with
    | none =>
      have eb : lp0_Standing_coming C s1 (M ++ [.lst L]) = .nx s1 (M ++ [.lst L]) := by
        unfold lp0_Standing_coming
        rw [if_ff (M' := M ++ [.lst L]) (by
          refine pB_ok ?_
          rw [op_ok (y := .d .none) (M'' := M ++ [.lst L]) (var_ok k5) rfl, hd]
          rfl)]
        rfl
      rw [eb]
      simp only
      obtain ⟨s', q1, q2, q3⟩ := coming_in h ho hok nd hr ws a s1 L kl k0 k3 k4 k5 (by omega)
      refine ⟨s', ?_, q2, fun j j1 j2 => (q3 j j1 j2).trans (kk j j2)⟩
      rw [q1]
      have e0 : genD o.f o.e o.tp (x :: ws).length a = [] := by rw [List.length_cons]; unfold genD; rw [hd]
      have e1 : genD o.f o.e o.tp ws.length a = [] := by
        cases ws with
        | nil => rfl
        | cons y ws => rw [List.length_cons]; unfold genD; rw [hd]
      rw [e0, e1]
    | some d =>
      have hst : Stg C i m os (M ++ [.lst (L ++ [prW o.nm d])]) := ⟨by rw [List.getElem?_append_left (List.getElem?_eq_some_iff.mp h.ins).1]; exact h.ins, by rw [List.getElem?_append_left (List.getElem?_eq_some_iff.mp h.dic).1]; exact h.dic⟩
      have e1 : (M ++ [MO.lst L]).set r (.lst (L ++ [prW o.nm d])) = M ++ [.lst (L ++ [prW o.nm d])] := by
        rw [← hr, List.set_append_right _ _ (Nat.le_refl _)]
        simp
      have eb : lp0_Standing_coming C s1 (M ++ [.lst L]) = .nx (s1.set 5 (some (.d (optD (nextD o.f o.e o.tp d))))) (M ++ [.lst (L ++ [prW o.nm d])]) := by
        unfold lp0_Standing_coming
        rw [if_tt (M' := M ++ [.lst L]) (by
          refine pB_ok ?_
          rw [op_ok (y := .d .none) (M'' := M ++ [.lst L]) (var_ok k5) rfl, hd]
          rfl)]
        have ap := app_ok (s := s1) (o := pVar 3) (e := pTup (pCons (pVar 5) (pCons (pVar 4) (pNil)))) (y := prW o.nm d) (var_ok k3) mr (tup_ok (ds := [.int d, .str o.nm]) (cons_ok (var_ok (by rw [k5, hd]; rfl)) (cons_ok (var_ok k4) nil_ok)) (by show 2 ≤ 1000; decide)) mr (by omega)
        rw [e1] at ap
        rw [seq_nx ap]
        exact set_ok (next_ok hok (getD_ok (stg_fld hst k0) (var_ok k4) (dicOf_dic hst.dic) rfl (val_in nd ho)) (var_ok (by rw [k5, hd]; rfl)))
      rw [eb]
      simp only
      obtain ⟨s', q1, q2, q3⟩ := coming_in h ho hok nd hr ws d (s1.set 5 (some (.d (optD (nextD o.f o.e o.tp d))))) (L ++ [prW o.nm d]) (by rw [List.length_set]; exact kl) (has_set k0 (by decide)) (has_set k3 (by decide)) (has_set k4 (by decide)) (set_at kl (by decide)) (by rw [List.length_append, List.length_singleton]; omega)
      refine ⟨s', ?_, q2, fun j j1 j2 => by rw [q3 j j1 j2, List.getElem?_set_ne (Ne.symm j1)]; exact kk j j2⟩
      rw [q1]
      have e0 : genD o.f o.e o.tp (x :: ws).length a = d :: genD o.f o.e o.tp ws.length d := by rw [List.length_cons, genD, hd]
      rw [e0, List.map_cons, List.append_assoc]
      rfl
theorem pairs_take_succ {many : Nat} {a : Int} {k : Nat} {o : Od} (h : os[k]? = some o) : pairsOf (os.take (k + 1)) many a = pairsOf (os.take k) many a ++ (genD o.f o.e o.tp many a).map fun d => (d, o.nm) := by
  unfold pairsOf
  rw [List.take_add_one, h]
  simp [List.flatMap_append]
theorem pairs_len {many : Nat} {a : Int} : ∀ (l : List Od), (∀ o ∈ l, o.ok) → (pairsOf l many a).length ≤ many * l.length
  | [], _ => Nat.zero_le _
  | o :: l, h => by
    have ok := h o List.mem_cons_self
    have ih := pairs_len (many := many) (a := a) l fun p hp => h p (List.mem_cons_of_mem _ hp)
    have g := (genD_mem (f := o.f) ok.e1 ok.tp1 many a).2.2
    unfold pairsOf at ih ⊢
    rw [List.flatMap_cons, List.length_append, List.length_map, List.length_cons, Nat.mul_add, Nat.mul_one]
    omega
theorem coming_ok (h : Stg C i m os M) (hok : ∀ o ∈ os, o.ok) (nd : (os.map (·.nm)).Nodup) (hs : sortS (os.map (·.nm)) = os.map (·.nm)) (hl : os.length ≤ 3) {many : Nat} {a : Int} (hm : many ≤ 8) :
    ∃ x, f0_Standing_coming C [.r i, .d (.int a), .d (.int many)] M = .ok (.d (.list (((sortPP (pairsOf os many a)).take many).map pairD))) (M ++ [x]) := by
  rw [run_Standing_coming C rfl]
  unfold b_Standing_coming
  obtain ⟨s0, hs0⟩ : ∃ s0 : Sl, s0 = [some (.r i), some (.d (.int a)), some (.d (.int many)), none, none, none, none] := ⟨_, rfl⟩
  show ∃ x, O.toR (pSeq _ _ [some (.r i), some (.d (.int a)), some (.d (.int many)), none, none, none, none] M) = _
  rw [← hs0]
  have a0 : s0[0]? = some (some (.r i)) := by rw [hs0]; rfl
  have a1 : s0[1]? = some (some (.d (.int a))) := by rw [hs0]; rfl
  have a2 : s0[2]? = some (some (.d (.int many))) := by rw [hs0]; rfl
  have l0 : s0.length = 7 := by rw [hs0]; rfl
  clear hs0
  rw [seq_nx (s' := s0) (M' := M) (by
    rw [if_ff (M' := M) (by
      refine not_ok (k := true) (tru_ok (x := .d (.bool true)) ?_ rfl)
      rw [call_data (ds := [.int many, .int 0, .int 1000]) (cons_ok (var_ok a2) (cons_ok rfl (cons_ok rfl nil_ok)))]
      have e : isNumberD (.int many) 0 1000 = true := by simp [isNumberD]; omega
      simp [q_is_number, e, PR.to])]
    rfl)]
  have nl : pMut (pLst pNil) s0 M = .ok (.r M.length) (M ++ [.lst []]) := mut_ok (lst_ok nil_ok (by show 0 ≤ 1000; decide))
  rw [seq_nx (set_ok nl)]
  obtain ⟨r, hr⟩ : ∃ r, M.length = r := ⟨_, rfl⟩
  rw [hr]
  obtain ⟨s1, hs1⟩ : ∃ s1, s1 = s0.set 3 (some (.r r)) := ⟨_, rfl⟩
  rw [← hs1]
  have b0 : s1[0]? = some (some (.r i)) := by rw [hs1]; exact has_set a0 (by decide)
  have b1 : s1[1]? = some (some (.d (.int a))) := by rw [hs1]; exact has_set a1 (by decide)
  have b2 : s1[2]? = some (some (.d (.int many))) := by rw [hs1]; exact has_set a2 (by decide)
  have b3 : s1[3]? = some (some (.r r)) := by rw [hs1]; exact set_at l0 (by decide)
  have l1 : s1.length = 7 := by rw [hs1, List.length_set]; exact l0
  have stg : ∀ x, Stg C i m os (M ++ [x]) := fun x => ⟨by rw [List.getElem?_append_left (List.getElem?_eq_some_iff.mp h.ins).1]; exact h.ins, by rw [List.getElem?_append_left (List.getElem?_eq_some_iff.mp h.dic).1]; exact h.dic⟩
  have it : pItL (pMeth C "names" ((f_Standing_names C)) [] (pVar 0) pNil) s1 (M ++ [.lst []]) = .ok (((os.map (·.nm)).map .str).map W.d) (M ++ [.lst []]) := by
    unfold pItL
    rw [meth_ok (var_ok b0) (noAtt_of (stg _).ins (look1 (by decide +kernel))) nil_ok (names_ok (stg _) (by omega) hs)]
    rfl
  have pl : ∀ k, k ≤ os.length → (pairsOf (os.take k) many a).length ≤ 24 := fun k hk => by
    have := pairs_len (many := many) (a := a) (os.take k) fun o ho => hok o (List.mem_of_mem_take ho)
    rw [List.length_take] at this
    have e : many * min k os.length ≤ 8 * 3 := Nat.mul_le_mul hm (by omega)
    omega
  obtain ⟨s2, M2, e2, k0, k2, k3, kl, hM2⟩ := forL_all (g := qName 4) (b := lp1_Standing_coming C) (ws := ((os.map (·.nm)).map .str).map W.d) (s := s1) (M := M ++ [.lst []])
    (I := fun k s' M' => s'[0]? = some (some (.r i)) ∧ s'[2]? = some (some (.d (.int many))) ∧ s'[3]? = some (some (.r r)) ∧ (s'.length = 7 ∧ s'[1]? = some (some (.d (.int a)))) ∧ M' = M ++ [.lst ((pairsOf (os.take k) many a).map fun p => .d (pairD p))]) ⟨b0, b2, b3, ⟨l1, b1⟩, by simp [pairsOf]⟩ fun x k s' M' hx ⟨c0, c2, c3, ⟨cl, c1⟩, hM'⟩ => by
      subst hM'
      rw [List.getElem?_map, List.getElem?_map, List.getElem?_map, Option.map_map, Option.map_map] at hx
      obtain ⟨o, ho, rfl⟩ := Option.map_eq_some_iff.mp hx
      have hmem : o ∈ os := List.mem_of_getElem? ho
      have hk : k < os.length := (List.getElem?_eq_some_iff.mp ho).1
      obtain ⟨t, ht⟩ : ∃ t, t = s'.set 4 (some (.d (.str o.nm))) := ⟨_, rfl⟩
      have d0 : t[0]? = some (some (.r i)) := by rw [ht]; exact has_set c0 (by decide)
      have d1 : t[1]? = some (some (.d (.int a))) := by rw [ht]; exact has_set c1 (by decide)
      have d2 : t[2]? = some (some (.d (.int many))) := by rw [ht]; exact has_set c2 (by decide)
      have d3 : t[3]? = some (some (.r r)) := by rw [ht]; exact has_set c3 (by decide)
      have d4 : t[4]? = some (some (.d (.str o.nm))) := by rw [ht]; exact set_at cl (by decide)
      have dl : t.length = 7 := by rw [ht, List.length_set]; exact cl
      have nx := next_ok (hok o hmem) (s := t) (pe := pGetD (pFld C "_orders" (pVar 0)) (pVar 4)) (pa := pVar 1) (getD_ok (stg_fld (stg (.lst ((pairsOf (os.take k) many a).map fun p => .d (pairD p)))) d0) (var_ok d4) (dicOf_dic (stg _).dic) rfl (val_in nd hmem)) (var_ok d1)
      obtain ⟨u, hu⟩ : ∃ u, u = t.set 5 (some (.d (optD (nextD o.f o.e o.tp a)))) := ⟨_, rfl⟩
      have rg : pRng1 (pVar 2) u (M ++ [.lst ((pairsOf (os.take k) many a).map fun p => .d (pairD p))]) = .ok (rngW 0 many) (M ++ [.lst ((pairsOf (os.take k) many a).map fun p => .d (pairD p))]) := by
        have z := rng1_okM (p := pVar 2) (s := u) (M := M ++ [.lst ((pairsOf (os.take k) many a).map fun p => .d (pairD p))]) (j := (many : Int)) (var_ok (by rw [hu]; exact has_set d2 (by decide))) (small62 (by omega) (by omega))
        rw [Int.toNat_natCast] at z
        exact z
      have rl : (rngW 0 many).length = many := by unfold rngW; rw [List.length_map, List.length_range]
      obtain ⟨s3, q1, q2, q3⟩ := coming_in h hmem (hok o hmem) nd hr (rngW 0 many) a u ((pairsOf (os.take k) many a).map fun p => .d (pairD p)) (by rw [hu, List.length_set]; exact dl) (by rw [hu]; exact has_set d0 (by decide)) (by rw [hu]; exact has_set d3 (by decide)) (by rw [hu]; exact has_set d4 (by decide)) (by rw [hu]; exact set_at dl (by decide)) (by
        rw [List.length_map, rl]
        have := pl k (by omega)
        omega)
      refine ⟨t, s3, M ++ [.lst (((pairsOf (os.take k) many a).map fun p => .d (pairD p)) ++ (genD o.f o.e o.tp (rngW 0 many).length a).map (prW o.nm))], by rw [ht]; rfl, ?_, ?_⟩
      · unfold lp1_Standing_coming
        rw [seq_nx (set_ok nx), ← hu]
        exact (for_ok rg).trans q1
      · have keep : ∀ j, j ≠ 5 → j ≠ 6 → s3[j]? = t[j]? := fun j j1 j2 => by rw [q3 j j1 j2, hu, List.getElem?_set_ne (Ne.symm j1)]
        refine ⟨(keep 0 (by decide) (by decide)).trans d0, (keep 2 (by decide) (by decide)).trans d2, (keep 3 (by decide) (by decide)).trans d3, ⟨q2, (keep 1 (by decide) (by decide)).trans d1⟩, ?_⟩
        rw [pairs_take_succ ho, rl, List.map_append, List.map_map]
        rfl
  rw [seq_nx ((for_ok it).trans e2)]
  have eos : os.take ((((os.map (·.nm)).map PyData.str).map W.d).length) = os := by
    rw [List.length_map, List.length_map, List.length_map]
    exact List.take_of_length_le (Nat.le_refl _)
  rw [eos] at hM2
  refine ⟨.lst ((pairsOf os many a).map fun p => .d (pairD p)), ?_⟩
  have mr : M2[r]? = some (.lst ((pairsOf os many a).map fun p => .d (pairD p))) := by rw [hM2, ← hr]; simp
  have vw : view M2 (.r r) = some (.list ((pairsOf os many a).map pairD)) := by
    unfold view
    simp only [mr]
    rw [show (pairsOf os many a).map (fun p => W.d (pairD p)) = ((pairsOf os many a).map pairD).map W.d by rw [List.map_map]; rfl, allD_map]
    rfl
  have so : pDat (pCallL gSorted (pCons (pVar 3) (pNil))) s2 M2 = .ok (.d (.list ((sortPP (pairsOf os many a)).map pairD))) M2 := by
    refine dat_ok (ws := ((sortPP (pairsOf os many a)).map pairD).map W.d) ?_ (allD_map _)
    rw [callL1 (var_ok k3)]
    unfold gSorted
    simp only [vw, sortable_pairs, if_true, sortPP_map]
  have sl : pDat (pSlL (pDat (pCallL gSorted (pCons (pVar 3) (pNil)))) (pNo) (pSo (pVar 2))) s2 M2 = .ok (.d (.list (((sortPP (pairsOf os many a)).take many).map pairD))) M2 := by
    refine dat_ok (ws := (((sortPP (pairsOf os many a)).take many).map pairD).map W.d) ?_ (allD_map _)
    unfold pSlL
    rw [so]
    simp only [R.bind, pNo, pSo]
    rw [var_ok k2]
    simp only [itemsL]
    rw [cutW_take, ← List.map_take, ← List.map_take]
  rw [ret_ok sl, hM2]
  rfl
end
end Z

set_option linter.all false
set_option autoImplicit false
set_option maxRecDepth 100000
set_option maxHeartbeats 4000000
namespace Z
open PySem PySem.Spec PyProof.Rows L2 L2H
/-! ### Standing(), end -/
theorem make_ok {C : Addr} {s : Sl} {M : Ms} : pMake C (f_Standing_init C) [] pNil s M = .ok (.r M.length) (M ++ [.ins C [("_orders", .r (M.length + 1))], .dic false []]) := by
  have h : f_Standing_init C [.r M.length] (M ++ [.ins C []]) = .ok (.d .none) (M ++ [.ins C [("_orders", .r (M.length + 1))], .dic false []]) := by
    show f0_Standing_init C [.r M.length] (M ++ [.ins C []]) = _
    rw [run_Standing_init C rfl]
    unfold b_Standing_init
    show O.toR (pSetF C "_orders" pNewD (pVar 0) [some (.r M.length)] (M ++ [.ins C []])) = _
    have e1 : pVar 0 [some (W.r M.length)] (M ++ [MO.ins C []] ++ [MO.dic false []]) = .ok (.r M.length) (M ++ [MO.ins C []] ++ [MO.dic false []]) := rfl
    have e2 : insOf C (M ++ [MO.ins C []] ++ [MO.dic false []]) (.r M.length) = some (M.length, []) := by
      unfold insOf
      have : (M ++ [MO.ins C []] ++ [MO.dic false []])[M.length]? = some (.ins C []) := by
        rw [List.append_assoc, List.getElem?_append_right (Nat.le_refl _)]
        simp
      simp only [this, if_true]
    unfold pSetF pNewD
    simp only [R.to]
    rw [e1]
    simp only [e2]
    rw [if_pos (by decide)]
    have e3 : (M ++ [MO.ins C []] ++ [MO.dic false []]).set M.length (.ins C (putW "_orders" (.r (M ++ [MO.ins C []]).length) [])) = M ++ [.ins C [("_orders", .r (M.length + 1))], .dic false []] := by
      rw [List.append_assoc, List.set_append_right _ _ (Nat.le_refl _)]
      simp [putW]
    rw [e3]
    rfl
  unfold pMake pNil
  simp only [R.bind, List.map_nil, List.append_nil]
  rw [h]
def lastCut (l : PyData) (day : Int) : Int := match l with
  | .int t => if t < day then t else day
  | _ => day
def cutO (o : Od) (day : Int) : Od := { o with last := .int (lastCut o.last day), tp := lastCut o.last day }
def endOs (o : Od) (day : Int) (os : List Od) : List Od := if day < o.f then os.filter fun p => decide (p.nm ≠ o.nm) else swapO (cutO o day) os
def dcKvs (nm : Str) (os : List Od) : List (PyData × W) := os.foldl (fun acc p => if decide (p.nm ≠ nm) then putP acc (.str p.nm) (.d (ordD p)) else acc) []
theorem dcKvs_eq (nm : Str) : ∀ (os acc : List Od), ((acc ++ os).map (·.nm)).Nodup → os.foldl (fun acc p => if decide (p.nm ≠ nm) then putP acc (.str p.nm) (.d (ordD p)) else acc) (kvsOf acc) = kvsOf (acc ++ os.filter fun p => decide (p.nm ≠ nm))
  | [], acc, _ => by simp
  | p :: os, acc, nd => by
    rw [List.foldl_cons]
    by_cases h : p.nm = nm
    · have e : decide (p.nm ≠ nm) = false := by simp [h]
      have fe : (p :: os).filter (fun p => decide (p.nm ≠ nm)) = os.filter fun p => decide (p.nm ≠ nm) := by rw [List.filter_cons]; simp [h]
      rw [if_neg (by rw [e]; exact Bool.false_ne_true), fe]
      refine dcKvs_eq nm os acc ?_
      rw [List.map_append, List.map_cons] at nd
      rw [List.map_append]
      exact nd.sublist ((List.sublist_cons_self _ _).append_left _)
    · have e : decide (p.nm ≠ nm) = true := by simp [h]
      have fe : (p :: os).filter (fun p => decide (p.nm ≠ nm)) = p :: os.filter fun p => decide (p.nm ≠ nm) := by rw [List.filter_cons]; simp [h]
      rw [if_pos e, fe]
      have np : p.nm ∉ acc.map (·.nm) := by
        rw [List.map_append, List.nodup_append] at nd
        intro hm
        exact nd.2.2 _ hm _ (by simp) rfl
      rw [put_out np, dcKvs_eq nm os (acc ++ [p]) (by rw [List.append_assoc]; exact nd), List.append_assoc]
      rfl
section
variable {C : Addr} {i m : Nat} {os : List Od} {M : Ms}
theorem end_dc {s : Sl} (i1 : M[i]? = some (.ins C [("_orders", .r m)])) (d1 : M[m]? = some (.dlk false (kvsOf os))) (h0 : s[0]? = some (some (.r i))) {nm : Str} (h1 : s[1]? = some (some (.d (.str nm)))) (hl : s.length = 8) (nd : (os.map (·.nm)).Nodup) (hn : os.length ≤ 40)
    (hsh : SeqAt.shaped (.str nm) = true ∧ ∀ p ∈ os, SeqAt.shaped (.str p.nm) = true) :
    ∀ (l : List Od) (acc : List (PyData × W)), (∀ p ∈ l, p ∈ os) → dcL (qName 7) (pB (pOp gNeD (pVar 7) (pVar 1))) (pVar 7) (pGetD (pFld C "_orders" (pVar 0)) (pVar 7)) (wipeS s [7]) (l.map fun o => .d (.str o.nm)) acc M = .ok (l.foldl (fun acc p => if decide (p.nm ≠ nm) then putP acc (.str p.nm) (.d (ordD p)) else acc) acc) M
  | [], acc, _ => rfl
  | p :: l, acc, hm => by
    have hp := hm p List.mem_cons_self
    rw [List.map_cons, dcL]
    obtain ⟨t, ht⟩ : ∃ t, t = (wipeS s [7]).set 7 (some (W.d (.str p.nm))) := ⟨_, rfl⟩
    have v7 : t[7]? = some (some (.d (.str p.nm))) := by rw [ht]; exact set_at (n := 8) (by simp [wipeS, hl]) (by decide)
    have v0 : t[0]? = some (some (.r i)) := by rw [ht]; exact has_set (has_set h0 (by decide)) (by decide)
    have v1 : t[1]? = some (some (.d (.str nm))) := by rw [ht]; exact has_set (has_set h1 (by decide)) (by decide)
    have hq : qName 7 (W.d (.str p.nm)) (wipeS s [7]) M = some t := by rw [ht]; rfl
    rw [hq]
    simp only
    have ev : PyData.eqv (.str p.nm) (.str nm) = decide (p.nm = nm) := by
      rw [eqv_str]
      by_cases e : p.nm = nm
      · simp [e]
      · have : (p.nm == nm) = false := by simpa using e
        rw [this, decide_eq_false e]
    have tst : pB (pOp gNeD (pVar 7) (pVar 1)) t M = .ok (decide (p.nm ≠ nm)) M := by
      refine pB_ok ?_
      rw [op_ok (var_ok v7) (var_ok v1)]
      simp only [gNeD, view, hsh.1, hsh.2 p hp, and_self, if_true, ev]
      by_cases e : p.nm = nm <;> simp [e]
    rw [tst]
    simp only [R.bindN]
    rw [List.foldl_cons]
    have rest := fun acc' => end_dc i1 d1 h0 h1 hl nd hn hsh l acc' fun q hq => hm q (List.mem_cons_of_mem _ hq)
    by_cases e : decide (p.nm ≠ nm) = true
    · rw [if_pos e, if_pos e, var_ok v7]
      simp only
      rw [getD_ok (fld_of (f := "_orders") v0 i1 rfl) (var_ok v7) (dicOf_dlk d1) rfl (val_in nd hp)]
      simp only [isKey, if_true]
      exact rest _
    · rw [if_neg e, if_neg e]
      exact rest _
theorem end_ok (h : Stg C i m os M) {o : Od} (ho : o ∈ os) (hok : o.ok) (nd : (os.map (·.nm)).Nodup) (hn : os.length ≤ 40) (hsh : ∀ p ∈ os, SeqAt.shaped (.str p.nm) = true) {day : Int} (d0 : 0 ≤ day) (d1 : day ≤ 1000) :
    ∃ M' m', f0_Standing_end C [.r i, .d (.str o.nm), .d (.int day)] M = .ok (.d .none) M' ∧ Stg C i m' (endOs o day os) M' ∧ M.length ≤ M'.length ∧ ∀ k, k < M.length → k ≠ i → k ≠ m → M'[k]? = M[k]? := by
  rw [run_Standing_end C rfl]
  unfold b_Standing_end
  have hil : i < M.length := (List.getElem?_eq_some_iff.mp h.ins).1
  have hml : m < M.length := (List.getElem?_eq_some_iff.mp h.dic).1
  have ne : m ≠ i := fun e => by have := h.ins; rw [← e, h.dic] at this; cases this
  show ∃ M' m', O.toR (pSeq _ _ [some (.r i), some (.d (.str o.nm)), some (.d (.int day)), none, none, none, none, none] M) = _ ∧ _
  have e1 : pAsg (pMeth C "order" ((f_Standing_order C)) [] (pVar 0) (pCons (pVar 1) (pNil))) (qTup 4 (qCons (qName 3) (qCons (qName 4) (qCons (qName 5) (qCons (qName 6) (qNil)))))) [some (.r i), some (.d (.str o.nm)), some (.d (.int day)), none, none, none, none, none] M =
      .nx [some (.r i), some (.d (.str o.nm)), some (.d (.int day)), some (.d o.rows), some (.d (.int o.f)), some (.d (.int o.e)), some (.d o.last), none] M := by
    unfold pAsg
    rw [meth_ok (x := .r i) (var_ok rfl) (noAtt_of h.ins (look1 (by decide +kernel))) (cons_ok (var_ok rfl) nil_ok) (order_ok h ho nd)]
    simp [R.to, ordD, qTup, qCons, qNil, qName, itemsT]
  rw [seq_nx e1]
  obtain ⟨s, hs⟩ : ∃ s : Sl, s = [some (.r i), some (.d (.str o.nm)), some (.d (.int day)), some (.d o.rows), some (.d (.int o.f)), some (.d (.int o.e)), some (.d o.last), none] := ⟨_, rfl⟩
  rw [← hs]
  have a0 : s[0]? = some (some (.r i)) := by rw [hs]; rfl
  have a1 : s[1]? = some (some (.d (.str o.nm))) := by rw [hs]; rfl
  have a2 : s[2]? = some (some (.d (.int day))) := by rw [hs]; rfl
  have a3 : s[3]? = some (some (.d o.rows)) := by rw [hs]; rfl
  have a4 : s[4]? = some (some (.d (.int o.f))) := by rw [hs]; rfl
  have a5 : s[5]? = some (some (.d (.int o.e))) := by rw [hs]; rfl
  have a6 : s[6]? = some (some (.d o.last)) := by rw [hs]; rfl
  have sl : s.length = 8 := by rw [hs]; rfl
  clear hs
  rw [seq_nx (s' := s) (M' := M) (by
    rw [if_ff (M' := M) (by
      refine not_ok (k := true) (tru_ok (x := .d (.bool true)) ?_ rfl)
      rw [call_data (ds := [.int day, .int 0, .int 100000]) (cons_ok (var_ok a2) (cons_ok rfl (cons_ok rfl nil_ok)))]
      have e : isNumberD (.int day) 0 100000 = true := by simp [isNumberD]; omega
      simp [q_is_number, e, PR.to])]
    rfl)]
  have tst : pB (pOp gLtI (pVar 2) (pVar 4)) s M = .ok (decide (day < o.f)) M := by
    refine pB_ok ?_
    rw [op_ok (var_ok a2) (var_ok a4)]
    rfl
  unfold endOs
  by_cases hc : day < o.f
  · rw [if_tt (by rw [tst, decide_eq_true hc]), if_pos hc]
    obtain ⟨M1, hM1⟩ : ∃ M1, M1 = M.set m (.dlk false (kvsOf os)) := ⟨_, rfl⟩
    have i1 : M1[i]? = some (.ins C [("_orders", .r m)]) := by rw [hM1, List.getElem?_set_ne ne]; exact h.ins
    have dl1 : M1[m]? = some (.dlk false (kvsOf os)) := by rw [hM1]; exact List.getElem?_set_self hml
    have dc := end_dc i1 dl1 a0 a1 sl nd hn ⟨hsh o ho, hsh⟩ os [] fun p hp => hp
    have eq := dcKvs_eq o.nm os [] (by simpa using nd)
    rw [show kvsOf [] = [] from rfl, List.nil_append] at eq
    rw [eq] at dc
    have ks : pKeys (pFld C "_orders" (pVar 0)) s M1 = .ok (os.map fun o => .d (.str o.nm)) M1 := by
      unfold pKeys
      rw [fld_of (f := "_orders") a0 i1 rfl]
      simp only [R.bind, dl1]
      unfold kvsOf
      rw [List.map_map]
      rfl
    have lk : pLock (pickP (pFld C "_orders" (pVar 0))) (pDc (pKeys (pFld C "_orders" (pVar 0))) (qName 7) (pB (pOp gNeD (pVar 7) (pVar 1))) (pVar 7) (pGetD (pFld C "_orders" (pVar 0)) (pVar 7)) [7]) s M = .ok (.r M.length) (M ++ [.dic false (kvsOf (os.filter fun p => decide (p.nm ≠ o.nm)))]) := by
      refine lock_new (i := m) (t := false) (kvs := kvsOf os) (by unfold pickP; rw [stg_fld h a0]) h.dic ?_
      rw [← hM1]
      unfold pDc
      rw [ks]
      simp only [R.bind]
      rw [if_pos (by rw [List.length_map]; omega), dc]
      simp only [R.bindN]
      rw [hM1, List.length_set]
    obtain ⟨M2, hM2⟩ : ∃ M2, M2 = M ++ [MO.dic false (kvsOf (os.filter fun p => decide (p.nm ≠ o.nm)))] := ⟨_, rfl⟩
    rw [← hM2] at lk
    have i2 : M2[i]? = some (.ins C [("_orders", .r m)]) := by rw [hM2, List.getElem?_append_left hil]; exact h.ins
    have st : pSetF C "_orders" (pLock (pickP (pFld C "_orders" (pVar 0))) (pDc (pKeys (pFld C "_orders" (pVar 0))) (qName 7) (pB (pOp gNeD (pVar 7) (pVar 1))) (pVar 7) (pGetD (pFld C "_orders" (pVar 0)) (pVar 7)) [7])) (pVar 0) s M = .nx s (M2.set i (.ins C [("_orders", .r M.length)])) := by
      unfold pSetF
      rw [lk]
      simp only [R.to]
      rw [var_ok a0]
      have e2 : insOf C M2 (.r i) = (some (i, [("_orders", W.r m)]) : Option (Nat × List (Str × W))) := by unfold insOf; simp only [i2, if_true]
      simp only [e2]
      rw [if_pos (by show 1 < 1000; decide)]
      simp [putW]
    rw [st]
    have hi2 : i < M2.length := (List.getElem?_eq_some_iff.mp i2).1
    refine ⟨_, M.length, rfl, ⟨List.getElem?_set_self hi2, ?_⟩, by rw [List.length_set, hM2]; simp, fun k hk k1 k2 => ?_⟩
    · rw [List.getElem?_set_ne (by omega), hM2]
      simp
    · rw [List.getElem?_set_ne (Ne.symm k1), hM2, List.getElem?_append_left hk]
  · rw [if_ff (by rw [tst, decide_eq_false hc]), if_neg hc]
    have e6 : pIfE (pB (pOp (gIsN false) (pVar 6) (pC .none))) (pVar 2) (pCall gMin2 (pCons (pVar 2) (pCons (pVar 6) (pNil)))) s M = .ok (.d (.int (lastCut o.last day))) M := by
      have tp := hok.top
      cases hlast : o.last with
      | none =>
        rw [hlast] at a6
        rw [ife_tt (M' := M) (by
          refine pB_ok ?_
          rw [op_ok (y := .d .none) (M'' := M) (var_ok a6) rfl]
          rfl)]
        exact var_ok a2
      | int l =>
        rw [hlast] at a6
        rw [ife_ff (M' := M) (by
          refine pB_ok ?_
          rw [op_ok (y := .d .none) (M'' := M) (var_ok a6) rfl]
          rfl)]
        unfold pCall
        rw [cons_ok (var_ok a2) (cons_ok (var_ok a6) nil_ok)]
        rfl
      | _ => rw [hlast] at tp; simp [topD] at tp
    have tu : pTup (pCons (pVar 3) (pCons (pVar 4) (pCons (pVar 5) (pCons (pIfE (pB (pOp (gIsN false) (pVar 6) (pC .none))) (pVar 2) (pCall gMin2 (pCons (pVar 2) (pCons (pVar 6) (pNil))))) (pNil))))) s M = .ok (.d (ordD (cutO o day))) M :=
      tup_ok (ds := [o.rows, .int o.f, .int o.e, .int (lastCut o.last day)]) (cons_ok (var_ok a3) (cons_ok (var_ok a4) (cons_ok (var_ok a5) (cons_ok e6 nil_ok)))) (by show 4 ≤ 1000; decide)
    have hin : (cutO o day).nm ∈ os.map (·.nm) := List.mem_map.mpr ⟨o, ho, rfl⟩
    rw [putD_ok tu (stg_fld h a0) (var_ok a1) (dicM_dic h.dic) rfl (by unfold kvsOf; rw [List.length_map]; omega)]
    have pe : putP (kvsOf os) (.str o.nm) (.d (ordD (cutO o day))) = kvsOf (swapO (cutO o day) os) := put_in (o' := cutO o day) hin
    rw [pe]
    refine ⟨_, m, rfl, ⟨?_, List.getElem?_set_self hml⟩, by rw [List.length_set]; exact Nat.le_refl _, fun k hk k1 k2 => List.getElem?_set_ne (Ne.symm k2)⟩
    rw [List.getElem?_set_ne ne]
    exact h.ins
end
/-! ### what is left behind an end -/
theorem swap_names (o' : Od) (os : List Od) : (swapO o' os).map (·.nm) = os.map (·.nm) := by
  unfold swapO
  rw [List.map_map]
  refine List.map_congr_left fun p _ => ?_
  simp only [Function.comp_apply]
  split
  · rename_i e; exact e.symm
  · rfl
theorem cut_ok_ {o : Od} (h : o.ok) {day : Int} (d1 : day ≤ 1000) : (cutO o day).ok := ⟨h.e1, h.e2, h.f0, h.f1, rfl, by
  show lastCut o.last day ≤ 100000
  unfold lastCut
  split
  · split <;> omega
  · omega⟩
theorem isDay_cut {o : Od} (h : o.ok) {day d : Int} (d1 : day ≤ 1000) : isDay o.f o.e (cutO o day).tp d = (isDay o.f o.e o.tp d && decide (d ≤ day)) := by
  have t := h.top
  have t1 := h.tp1
  have e : (decide (d ≤ (cutO o day).tp) && decide (d ≤ 100000)) = ((decide (d ≤ o.tp) && decide (d ≤ 100000)) && decide (d ≤ day)) := by
    rw [Bool.eq_iff_iff]
    simp only [Bool.and_eq_true, decide_eq_true_eq]
    show (d ≤ lastCut o.last day ∧ _) ↔ _
    unfold lastCut
    cases hl : o.last with
    | none => rw [hl] at t; simp only [topD, Option.some.injEq] at t; simp only; omega
    | int l => rw [hl] at t; simp only [topD, Option.some.injEq] at t; simp only; split <;> omega
    | _ => rw [hl] at t; simp [topD] at t
  unfold isDay
  rw [e]
  cases decide (o.f ≤ d) <;> cases decide ((d - o.f).fmod o.e = 0) <;> simp
theorem end_mem {os : List Od} {o : Od} (ho : o ∈ os) (hok : ∀ p ∈ os, p.ok) (nd : (os.map (·.nm)).Nodup) {day : Int} (d1 : day ≤ 1000) (nm : Str) (d : Int) :
    (∃ q ∈ endOs o day os, q.nm = nm ∧ isDay q.f q.e q.tp d = true) ↔ (∃ q ∈ os, q.nm = nm ∧ isDay q.f q.e q.tp d = true) ∧ (nm ≠ o.nm ∨ d ≤ day) := by
  have same : ∀ q ∈ os, q.nm = o.nm → q = o := fun q hq e => by
    have : ∀ (l : List Od), (l.map (·.nm)).Nodup → q ∈ l → o ∈ l → q = o := by
      intro l
      induction l with
      | nil => intro _ h; cases h
      | cons p l ih =>
        intro n h1 h2
        obtain ⟨n1, n2⟩ := List.nodup_cons.mp (show (p.nm :: l.map (·.nm)).Nodup from n)
        rcases List.mem_cons.mp h1 with e1 | e1
        · rcases List.mem_cons.mp h2 with e2 | e2
          · rw [e1, e2]
          · exact absurd (List.mem_map.mpr ⟨o, e2, by rw [← e, e1]⟩) n1
        · rcases List.mem_cons.mp h2 with e2 | e2
          · exact absurd (show p.nm ∈ l.map (·.nm) from List.mem_map.mpr ⟨q, e1, by rw [e, e2]⟩) n1
          · exact ih n2 e1 e2
    exact this os nd hq ho
  unfold endOs
  by_cases hc : day < o.f
  · rw [if_pos hc]
    constructor
    · rintro ⟨q, hq, rfl, hd⟩
      obtain ⟨q1, q2⟩ := List.mem_filter.mp hq
      exact ⟨⟨q, q1, rfl, hd⟩, .inl (by simpa using q2)⟩
    · rintro ⟨⟨q, hq, rfl, hd⟩, h2⟩
      refine ⟨q, List.mem_filter.mpr ⟨hq, ?_⟩, rfl, hd⟩
      by_cases e : q.nm = o.nm
      · exfalso
        have eq := same q hq e
        subst eq
        obtain ⟨⟨k, rfl⟩, _⟩ := (isDay_iff (hok q hq).e1).mp hd
        have p : 0 ≤ (k : Int) * q.e := Int.mul_nonneg (by omega) (by have := (hok q hq).e1; omega)
        rcases h2 with h2 | h2
        · exact h2 rfl
        · omega
      · simpa using e
  · rw [if_neg hc]
    unfold swapO
    constructor
    · rintro ⟨q, hq, rfl, hd⟩
      obtain ⟨p, hp, rfl⟩ := List.mem_map.mp hq
      by_cases e : p.nm = (cutO o day).nm
      · rw [if_pos e] at hd ⊢
        have hd' : isDay o.f o.e (cutO o day).tp d = true := hd
        rw [isDay_cut (hok o ho) d1] at hd'
        simp only [Bool.and_eq_true, decide_eq_true_eq] at hd'
        exact ⟨⟨o, ho, rfl, hd'.1⟩, .inr hd'.2⟩
      · rw [if_neg e] at hd ⊢
        exact ⟨⟨p, hp, rfl, hd⟩, .inl e⟩
    · rintro ⟨⟨q, hq, rfl, hd⟩, h2⟩
      by_cases e : q.nm = (cutO o day).nm
      · refine ⟨cutO o day, List.mem_map.mpr ⟨q, hq, by rw [if_pos e]⟩, e.symm, ?_⟩
        have eq := same q hq e
        subst eq
        show isDay q.f q.e (cutO q day).tp d = true
        rw [isDay_cut (hok q hq) d1, hd]
        rcases h2 with h2 | h2
        · exact absurd rfl h2
        · simpa using h2
      · exact ⟨q, List.mem_map.mpr ⟨q, hq, by rw [if_neg e]⟩, rfl, hd⟩
theorem end_names {os : List Od} {o : Od} {day : Int} : List.Sublist ((endOs o day os).map (·.nm)) (os.map (·.nm)) := by
  unfold endOs
  split
  · exact (List.filter_sublist).map _
  · rw [swap_names]; exact List.Sublist.refl _
theorem end_oks {os : List Od} {o : Od} {day : Int} (hok : ∀ p ∈ os, p.ok) (ho : o ∈ os) (d1 : day ≤ 1000) : ∀ p ∈ endOs o day os, p.ok := by
  intro p hp
  unfold endOs at hp
  split at hp
  · exact hok p (List.mem_filter.mp hp).1
  · unfold swapO at hp
    obtain ⟨q, hq, rfl⟩ := List.mem_map.mp hp
    split
    · exact cut_ok_ (hok o ho) d1
    · exact hok q hq
end Z

set_option linter.all false
set_option autoImplicit false
set_option maxRecDepth 100000
set_option maxHeartbeats 4000000
namespace Z
open PySem PySem.Spec PyProof.Rows L2 L2H
/-! ### rows of days -/
def isDayW (f e tp : Int) (x : W) : Bool := match x with
  | .d (.int d) => isDay f e tp d
  | _ => false
theorem isday_call {rows last : PyData} {f e tp d : Int} {pe pd : PEx} {s : Sl} {M : Ms} (h1 : pe s M = .ok (.d (.tuple [rows, .int f, .int e, last])) M) (h2 : pd s M = .ok (.d (.int d)) M) (ht : topD last = some tp) (he : 1 ≤ e ∧ e ≤ 1000) :
    pTru (pCallQ q__law_is_day [] (pCons pe (pCons pd (pNil)))) s M = .ok (isDay f e tp d) M := by
  refine tru_ok (x := .d (.bool (isDay f e tp d))) ?_ rfl
  rw [call_data (ds := [.tuple [rows, .int f, .int e, last], .int d]) (cons_ok h1 (cons_ok h2 nil_ok))]
  unfold q__law_is_day
  simp only [ht, he, and_self, if_true]
  rfl
theorem day_rows {rows last : PyData} {f e tp lo : Int} {n : Nat} {it : PAx} {s : Sl} {M : Ms} (hit : it s M = .ok (rngW lo n) M) (h7 : s[7]? = some (some (.d (.tuple [rows, .int f, .int e, last])))) (hl : s.length = 21) (ht : topD last = some tp) (he : 1 ≤ e ∧ e ≤ 1000) (hn : n ≤ 1000000) :
    pDat (pLc it (qName 14) (pTru (pCallQ q__law_is_day [] (pCons (pVar 7) (pCons (pVar 14) (pNil))))) (pVar 14) [14]) s M = .ok (.d (.list (((upTo lo n).filter (isDay f e tp)).map .int))) M := by
  refine dat_ok (ws := ((upTo lo n).filter (isDay f e tp)).map wi) ?_ (allD_wi _)
  unfold pLc
  rw [hit]
  simp only [R.bind]
  rw [if_pos (by unfold rngW; rw [List.length_map, List.length_range]; exact Nat.le_trans hn (by decide))]
  rw [lcL_pure (isDayW f e tp) id]
  · rw [rngW_upTo, List.nil_append, List.map_id, List.filter_map]
    rfl
  · intro x hx
    rw [rngW_upTo] at hx
    obtain ⟨d, _, rfl⟩ := List.mem_map.mp hx
    have v14 : ((wipeS s [14]).set 14 (some (wi d)))[14]? = some (some (wi d)) := set_at (n := 21) (by simp [wipeS, hl]) (by decide)
    have v7 : ((wipeS s [14]).set 14 (some (wi d)))[7]? = some (some (.d (.tuple [rows, .int f, .int e, last]))) := has_set (has_set h7 (by decide)) (by decide)
    exact ⟨_, rfl, isday_call (var_ok v7) (var_ok v14) ht he, fun _ => var_ok v14⟩
def inDay (os : List Od) (d : Int) : List Pr := (os.filter fun o => isDay o.f o.e o.tp d).map fun o => (d, o.nm)
def nmDay (os : List Od) (d : Int) (x : W) : Bool := match x with
  | .d (.str nm) => (os.filter fun o => isDay o.f o.e o.tp d).any fun o => decide (o.nm = nm)
  | _ => false
def prOf (d : Int) (x : W) : W := match x with
  | .d (.str nm) => prW nm d
  | _ => x
theorem od_same : ∀ {os : List Od} {p o : Od}, (os.map (·.nm)).Nodup → p ∈ os → o ∈ os → p.nm = o.nm → p = o
  | [], _, _, _, h, _, _ => by cases h
  | q :: os, p, o, nd, hp, ho, e => by
    obtain ⟨n1, n2⟩ := List.nodup_cons.mp (show (q.nm :: os.map (·.nm)).Nodup from nd)
    rcases List.mem_cons.mp hp with e1 | e1
    · rcases List.mem_cons.mp ho with e2 | e2
      · rw [e1, e2]
      · exact absurd (List.mem_map.mpr ⟨o, e2, by rw [← e, e1]⟩) n1
    · rcases List.mem_cons.mp ho with e2 | e2
      · exact absurd (List.mem_map.mpr ⟨p, e1, by rw [e, e2]⟩) n1
      · exact od_same n2 e1 e2 e
theorem nmDay_eq {os : List Od} (nd : (os.map (·.nm)).Nodup) (d : Int) {o : Od} (ho : o ∈ os) : nmDay os d (.d (.str o.nm)) = isDay o.f o.e o.tp d := by
  unfold nmDay
  simp only
  rw [Bool.eq_iff_iff, List.any_eq_true]
  constructor
  · rintro ⟨p, hp, e⟩
    obtain ⟨h1, h2⟩ := List.mem_filter.mp hp
    have := od_same nd h1 ho (by simpa using e)
    rw [← this]
    exact h2
  · intro h
    exact ⟨o, List.mem_filter.mpr ⟨ho, h⟩, by simp⟩
theorem inDay_eq {os : List Od} (nd : (os.map (·.nm)).Nodup) (d : Int) : ((os.map fun o => W.d (.str o.nm)).filter (nmDay os d)).map (prOf d) = (inDay os d).map fun p => W.d (pairD p) := by
  rw [List.filter_map, List.map_map]
  unfold inDay
  rw [List.map_map]
  have : os.filter (nmDay os d ∘ fun o => W.d (.str o.nm)) = os.filter fun o => isDay o.f o.e o.tp d := List.filter_congr fun o ho => nmDay_eq nd d ho
  rw [this]
  rfl
section
variable {C : Addr} {os : List Od} {M : Ms} {s : Sl}
theorem kvs_sorted {j n : Nat} (hs : s[j]? = some (some (.r n))) (hd : M[n]? = some (.dic false (kvsOf os))) (hl : os.length < 64) (h : sortS (os.map (·.nm)) = os.map (·.nm)) : pDat (pCallL gSortedK (pCons (pVar j) pNil)) s M = .ok (.d (.list ((os.map (·.nm)).map .str))) M := sorted_keys (var_ok hs) hd hl h
theorem lc3_ok (h4 : s[4]? = some (some (.r 3))) (hd : M[3]? = some (.dic false (kvsOf os))) (hl : os.length ≤ 3) (hsl : s.length = 21) (h : sortS (os.map (·.nm)) = os.map (·.nm)) (nd : (os.map (·.nm)).Nodup) (hok : ∀ o ∈ os, o.ok) {d : Int} (h14 : s[14]? = some (some (.d (.int d)))) :
    pDat (lc3_law C) s M = .ok (.d (.list ((inDay os d).map pairD))) M := by
  refine dat_ok (ws := (inDay os d).map fun p => W.d (pairD p)) ?_ (by
    rw [show (inDay os d).map (fun p => W.d (pairD p)) = ((inDay os d).map pairD).map W.d by rw [List.map_map]; rfl]
    exact allD_map _)
  unfold lc3_law pLc pItL
  rw [kvs_sorted h4 hd (by omega) h]
  simp only [R.bind]
  rw [if_pos (by rw [List.length_map, List.length_map, List.length_map]; exact Nat.le_trans hl (by decide))]
  have em : ((os.map (·.nm)).map PyData.str).map W.d = os.map fun o => W.d (.str o.nm) := by rw [List.map_map, List.map_map]; rfl
  rw [em]
  rw [lcL_pure (nmDay os d) (prOf d)]
  · rw [inDay_eq nd, List.nil_append]
  · intro x hx
    obtain ⟨o, ho, rfl⟩ := List.mem_map.mp hx
    have v8 : ((wipeS s [8]).set 8 (some (.d (.str o.nm))))[8]? = some (some (.d (.str o.nm))) := set_at (n := 21) (by simp [wipeS, hsl]) (by decide)
    have v4 : ((wipeS s [8]).set 8 (some (.d (.str o.nm))))[4]? = some (some (.r 3)) := has_set (has_set h4 (by decide)) (by decide)
    have v14 : ((wipeS s [8]).set 8 (some (.d (.str o.nm))))[14]? = some (some (.d (.int d))) := has_set (has_set h14 (by decide)) (by decide)
    have ok := hok o ho
    have e1 := ok.e1
    have e2 := ok.e2
    refine ⟨_, rfl, ?_, fun _ => ?_⟩
    · rw [nmDay_eq nd d ho]
      exact isday_call (getD_ok (var_ok v4) (var_ok v8) (dicOf_dic hd) rfl (val_in nd ho)) (var_ok v14) ok.top ⟨e1, by omega⟩
    · exact tup_ok (ds := [.int d, .str o.nm]) (cons_ok (var_ok v14) (cons_ok (var_ok v8) nil_ok)) (by show 2 ≤ 1000; decide)
end
/-! ### every day of every order -/
def everyB (os : List Od) (ds : List Int) : List Pr := ds.flatMap (inDay os)
theorem inDay_mem {os : List Od} {d : Int} {p : Pr} : p ∈ inDay os d ↔ p.1 = d ∧ ∃ o ∈ os, o.nm = p.2 ∧ isDay o.f o.e o.tp d = true := by
  unfold inDay
  rw [List.mem_map]
  constructor
  · rintro ⟨o, ho, rfl⟩
    obtain ⟨h1, h2⟩ := List.mem_filter.mp ho
    exact ⟨rfl, o, h1, rfl, h2⟩
  · rintro ⟨e, o, h1, h2, h3⟩
    exact ⟨o, List.mem_filter.mpr ⟨h1, h3⟩, by rw [← e, h2]⟩
theorem inDay_len {os : List Od} (d : Int) : (inDay os d).length ≤ os.length := by
  unfold inDay
  rw [List.length_map]
  exact List.length_filter_le _ _
theorem everyB_len {os : List Od} : ∀ ds : List Int, (everyB os ds).length ≤ os.length * ds.length
  | [] => by simp [everyB]
  | d :: ds => by
    have ih := everyB_len (os := os) ds
    unfold everyB at ih ⊢
    have := inDay_len (os := os) d
    rw [List.flatMap_cons, List.length_append, List.length_cons, Nat.mul_add, Nat.mul_one]
    omega
theorem everyB_mem {os : List Od} {ds : List Int} {p : Pr} : p ∈ everyB os ds ↔ p.1 ∈ ds ∧ ∃ o ∈ os, o.nm = p.2 ∧ isDay o.f o.e o.tp p.1 = true := by
  unfold everyB
  rw [List.mem_flatMap]
  constructor
  · rintro ⟨d, hd, hp⟩
    obtain ⟨rfl, h⟩ := inDay_mem.mp hp
    exact ⟨hd, h⟩
  · rintro ⟨hd, h⟩
    exact ⟨p.1, hd, inDay_mem.mpr ⟨rfl, h⟩⟩
def upS (os : List Od) : Prop := (os.map (·.nm)).Pairwise fun a b => a.cps.toList < b.cps.toList
theorem everyB_pw {os : List Od} (up : upS os) {ds : List Int} (hd : ds.Pairwise (· < ·)) : (everyB os ds).Pairwise ltP := by
  unfold everyB
  rw [List.pairwise_flatMap]
  constructor
  · intro d _
    unfold inDay
    rw [List.pairwise_map]
    unfold upS at up
    rw [List.pairwise_map] at up
    exact (up.sublist List.filter_sublist).imp fun h => .inr ⟨rfl, h⟩
  · refine hd.imp fun hab x hx y hy => .inl ?_
    rw [(inDay_mem.mp hx).1, (inDay_mem.mp hy).1]
    exact hab
theorem upS_nodup {os : List Od} (up : upS os) : (os.map (·.nm)).Nodup := by
  unfold upS at up
  refine up.imp fun h e => ?_
  rw [e] at h
  exact List.lt_irrefl _ h
theorem sortS_self {l : List Str} (h : l.Pairwise fun a b => a.cps.toList < b.cps.toList) : sortS l = l := by
  refine (sortS_uniq (List.Perm.refl _) (h.imp fun hab => ?_)).symm
  exact List.le_of_lt hab
end Z

set_option linter.all false
set_option autoImplicit false
set_option maxRecDepth 100000
set_option maxHeartbeats 4000000
namespace Z
open PySem PySem.Spec PyProof.Rows L2 L2H
/-! ### one order is added -/
def rows0 : PyData := .tuple [.tuple [.str "a.a", .int (-5)], .tuple [.str "a.b", .int 5]]
def rowsK (k : Nat) : PyData := .tuple [.tuple [.str "a.a", .int (-5 - k)], .tuple [.str "a.b", .int (5 + k)]]
def nmK (k : Nat) : Str := if k = 0 then "x" else if k = 1 then "yy" else "zed"
theorem rows0_ok : rowsOkD rows0 = some true := by decide +kernel
theorem rowsK_ok : ∀ k : Nat, k < 3 → rowsOkD (rowsK k) = some true := by
  intro k hk
  match k, hk with
  | 0, _ => decide +kernel
  | 1, _ => decide +kernel
  | 2, _ => decide +kernel
theorem rowsK_sh : ∀ k : Nat, k < 3 → SeqAt.shaped (rowsK k) = true := by
  intro k hk
  match k, hk with
  | 0, _ => decide +kernel
  | 1, _ => decide +kernel
  | 2, _ => decide +kernel
theorem rowsK_ne : ∀ j k : Nat, j < k → k < 3 → PyData.eqv (rowsK j) (rowsK k) = false := by
  intro j k hj hk
  match j, k, hj, hk with
  | 0, 1, _, _ => decide +kernel
  | 0, 2, _, _ => decide +kernel
  | 1, 2, _, _ => decide +kernel
  | j + 2, k, h1, h2 => omega
  | 0, k + 3, h1, h2 => omega
  | 1, k + 3, h1, h2 => omega
theorem rowsK_same : ∀ k : Nat, sameOk 4 (rowsK k) = true := by
  intro k
  have s1 : PyData.strOk "a.a" = true := by decide +kernel
  have s2 : PyData.strOk "a.b" = true := by decide +kernel
  simp [rowsK, sameOk, sameAll, s1, s2]
theorem nmK_ok (k : Nat) : isNameD (.str (nmK k)) = true ∧ PyData.strOk (nmK k) = true := by
  unfold nmK
  split
  · constructor <;> decide +kernel
  · split
    · constructor <;> decide +kernel
    · constructor <;> decide +kernel
theorem nmK_up : ∀ n : Nat, n < 4 → ((List.range n).map nmK).Pairwise fun a b => a.cps.toList < b.cps.toList := by decide +kernel
structure Ords (os : List Od) : Prop where
  ok : ∀ o ∈ os, o.ok
  nms : os.map (·.nm) = (List.range os.length).map nmK
  rows : os.map (·.rows) = (List.range os.length).map rowsK
  len : os.length ≤ 3
section
variable {os : List Od}
theorem Ords.up (h : Ords os) : upS os := by
  unfold upS
  rw [h.nms]
  exact nmK_up _ (by have := h.len; omega)
theorem Ords.nd (h : Ords os) : (os.map (·.nm)).Nodup := upS_nodup h.up
theorem Ords.srt (h : Ords os) : sortS (os.map (·.nm)) = os.map (·.nm) := sortS_self h.up
theorem Ords.sok (h : Ords os) {o : Od} (ho : o ∈ os) : PyData.strOk o.nm = true := by
  have : o.nm ∈ os.map (·.nm) := List.mem_map.mpr ⟨o, ho, rfl⟩
  rw [h.nms] at this
  obtain ⟨k, _, e⟩ := List.mem_map.mp this
  rw [← e]
  exact (nmK_ok k).2
theorem Ords.app (h : Ords os) (hk : os.length < 3) {o : Od} (ok : o.ok) (h1 : o.nm = nmK os.length) (h2 : o.rows = rowsK os.length) : Ords (os ++ [o]) where
  ok := fun p hp => by
    rcases List.mem_append.mp hp with hp | hp
    · exact h.ok p hp
    · rw [List.mem_singleton.mp hp]; exact ok
  nms := by
    rw [List.map_append, h.nms, List.length_append, List.length_singleton, List.range_succ, List.map_append]
    simp [h1]
  rows := by
    rw [List.map_append, h.rows, List.length_append, List.length_singleton, List.range_succ, List.map_append]
    simp [h2]
  len := by rw [List.length_append, List.length_singleton]; omega
theorem Ords.out (h : Ords os) (hk : os.length < 3) : nmK os.length ∉ os.map (·.nm) := by
  rw [h.nms]
  intro hm
  obtain ⟨j, hj, e⟩ := List.mem_map.mp hm
  have hj' := List.mem_range.mp hj
  have p := nmK_up (os.length + 1) (by omega)
  rw [List.range_succ, List.map_append, List.pairwise_append] at p
  have z := p.2.2 (nmK j) (List.mem_map.mpr ⟨j, hj, rfl⟩) (nmK os.length) (by simp)
  rw [e] at z
  exact List.lt_irrefl _ z
theorem Ords.dif (h : Ords os) (hk : os.length < 3) : ∀ p ∈ os, SeqAt.shaped p.rows = true ∧ PyData.eqv p.rows (rowsK os.length) = false := by
  intro p hp
  have : p.rows ∈ os.map (·.rows) := List.mem_map.mpr ⟨p, hp, rfl⟩
  rw [h.rows] at this
  obtain ⟨j, hj, e⟩ := List.mem_map.mp this
  have hj' := List.mem_range.mp hj
  rw [← e]
  exact ⟨rowsK_sh j (by omega), rowsK_ne j _ hj' hk⟩
end
structure LM (C : Addr) (os : List Od) (M : Ms) : Prop where
  pool : PoolOk M
  stg : Stg C 1 2 os M
  dic : M[3]? = some (.dic false (kvsOf os))
theorem LM.only {C : Addr} {os : List Od} {M M' : Ms} (h : LM C os M) (o : Only0 M M') : LM C os M' := ⟨o.1, ⟨(o.2.2 1 (by decide)).trans h.stg.ins, (o.2.2 2 (by decide)).trans h.stg.dic⟩, (o.2.2 3 (by decide)).trans h.dic⟩
theorem LM.app {C : Addr} {os : List Od} {M : Ms} (h : LM C os M) (x : MO) : LM C os (M ++ [x]) := ⟨pool_app h.pool, ⟨by rw [List.getElem?_append_left (List.getElem?_eq_some_iff.mp h.stg.ins).1]; exact h.stg.ins, by rw [List.getElem?_append_left (List.getElem?_eq_some_iff.mp h.stg.dic).1]; exact h.stg.dic⟩, by rw [List.getElem?_append_left (List.getElem?_eq_some_iff.mp h.dic).1]; exact h.dic⟩
structure SB (s : Sl) : Prop where
  l : s.length = 21
  s1 : s[1]? = some (some (.r 0))
  s2 : s[2]? = some (some (.d rows0))
  s3 : s[3]? = some (some (.r 1))
  s4 : s[4]? = some (some (.r 3))
theorem SB.set {s : Sl} (h : SB s) {k : Nat} (hk : 5 ≤ k) (y : Option W) : SB (s.set k y) := ⟨by rw [List.length_set]; exact h.l, has_set h.s1 (by omega), has_set h.s2 (by omega), has_set h.s3 (by omega), has_set h.s4 (by omega)⟩
theorem SB.at {s : Sl} (h : SB s) {k : Nat} (hk : k < 21) (x : W) : (s.set k (some x))[k]? = some (some x) := set_at h.l hk
theorem endOf_eq {last : PyData} {tp u : Int} (h : topD last = some tp) (hu : u ≤ 100000) : endOf last u = some (if tp < u then tp else u) := by
  cases last with
  | none =>
    simp only [topD, Option.some.injEq] at h
    subst h
    unfold endOf
    rw [if_neg (by omega)]
  | int l =>
    simp only [topD, Option.some.injEq] at h
    subst h
    rfl
  | _ => simp [topD] at h
theorem days_call {o : Od} (hok : o.ok) (tp0 : 0 ≤ o.tp) {u : Int} (u0 : 0 ≤ u) (u1 : u ≤ 1000) : q_days_of [ordD o, .int u] = .ok (.list (((upTo 0 (u + 1).toNat).filter (isDay o.f o.e o.tp)).map .int)) := by
  have := hok.e1
  have := hok.e2
  have := hok.f0
  have := hok.f1
  have := hok.tp1
  unfold ordD q_days_of
  simp only [endOf_eq hok.top (show u ≤ 100000 by omega)]
  rw [if_pos (by split <;> omega)]
  have e := days_eq (f := o.f) (e := o.e) (tp := o.tp) (en := if o.tp < u then o.tp else u) (upto := u) hok.e1 hok.f0 u0 (by omega) rfl
  rw [← e, List.map_map]
  rfl
theorem head_eq {f e tp a : Int} (e1 : 1 ≤ e) (e2 : e ≤ 7) (f1 : f ≤ 19) (ht : tp ≤ 100000) (ha : -1 ≤ a) : nextD f e tp a = ((upTo (a + 1) 59).filter (isDay f e tp)).head? := by
  have inc : ((upTo (a + 1) 59).filter (isDay f e tp)).Pairwise (· < ·) := (upTo_inc _ _).sublist List.filter_sublist
  have mem : ∀ x, x ∈ (upTo (a + 1) 59).filter (isDay f e tp) → a < x ∧ isDay f e tp x = true := fun x hx => by
    obtain ⟨h1, h2⟩ := List.mem_filter.mp hx
    have := upTo_mem.mp h1
    exact ⟨by omega, h2⟩
  cases hd : nextD f e tp a with
  | none =>
    have h := nextD_none e1 hd
    have : (upTo (a + 1) 59).filter (isDay f e tp) = [] := List.eq_nil_iff_forall_not_mem.mpr fun x hx => h x (mem x hx).2 (mem x hx).1
    rw [this]
    rfl
  | some d =>
    obtain ⟨h1, h2, h3⟩ := nextD_some e1 ht hd
    have hle : d ≤ max f (a + e) := by
      unfold nextD at hd
      split at hd
      · cases hd; exact nextRaw_le e1
      · cases hd
    have hin : d ∈ (upTo (a + 1) 59).filter (isDay f e tp) := List.mem_filter.mpr ⟨upTo_mem.mpr ⟨by omega, by omega⟩, h1⟩
    cases hL : (upTo (a + 1) 59).filter (isDay f e tp) with
    | nil => rw [hL] at hin; cases hin
    | cons h L =>
      rw [hL] at hin inc mem
      have m := mem h List.mem_cons_self
      have le := h3 h m.2 m.1
      rcases List.mem_cons.mp hin with e | hin
      · rw [e]; rfl
      · have := (List.pairwise_cons.mp inc).1 d hin
        omega
theorem head_val {s : Sl} {M : Ms} {L : List Int} (h : s[11]? = some (some (.d (.list (L.map .int))))) : pIfE (pB (pOp gGtI (pCall gLen (pCons (pVar 11) (pNil))) (pC (.int 0)))) (pOp gIx (pVar 11) (pC (.int 0))) (pC .none) s M = .ok (.d (optD L.head?)) M := by
  have hl := len_list (i := 11) (M := M) h
  rw [List.length_map] at hl
  have hb : pB (pOp gGtI (pCall gLen (pCons (pVar 11) (pNil))) (pC (.int 0))) s M = .ok (decide ((0 : Int) < L.length)) M := by
    refine pB_ok ?_
    rw [op_ok hl (y := .d (.int 0)) (M'' := M) rfl]
    rfl
  cases L with
  | nil =>
    rw [ife_ff hb]
    rfl
  | cons x L =>
    have e : decide ((0 : Int) < ((x :: L).length : Nat)) = true := by simp
    rw [e] at hb
    rw [ife_tt hb]
    rw [op_ok (var_ok h) (y := .d (.int ((0 : Nat) : Int))) (M'' := M) rfl]
    unfold gIx itemsL
    simp only
    rw [atI_nat]
    rfl
theorem ints_same {n : Nat} {L : List Int} (h : L.length ≤ 1000000) : sameOk (n + 1) (.list (L.map .int)) = true := by
  unfold sameOk
  rw [sameAll_of fun d hd => by
    obtain ⟨i, _, rfl⟩ := List.mem_map.mp hd
    cases n <;> simp [sameOk]]
  simp [h]
theorem opt_same {n : Nat} (x : Option Int) : sameOk n (optD x) = true := by
  cases x <;> cases n <;> simp [optD, sameOk]
theorem upTo_len (lo : Int) (n : Nat) : (upTo lo n).length = n := by unfold upTo; rw [List.length_map, List.length_range]
theorem filt_len {lo : Int} {n : Nat} {p : Int → Bool} (h : n ≤ 1000000) : ((upTo lo n).filter p).length ≤ 1000000 := by
  have := List.length_filter_le p (upTo lo n)
  rw [upTo_len] at this
  omega
end Z

set_option linter.all false
set_option autoImplicit false
set_option maxRecDepth 100000
set_option maxHeartbeats 4000000
namespace Z
open PySem PySem.Spec PyProof.Rows L2 L2H
theorem step_ok {C : Addr} {os : List Od} {s : Sl} {M : Ms} (H : Ords os) (b : SB s) (m : LM C os M) (hk : os.length < 3) (h5 : s[5]? = some (some (.d (.int os.length)))) :
    ∃ o s' M', lp7_law C s M = .nx s' M' ∧ Ords (os ++ [o]) ∧ SB s' ∧ LM C (os ++ [o]) M' := by
  obtain ⟨v, M1, e1, v0, v1, o1⟩ := drawJ (m := 20) m.pool b.s1 (by decide) (by decide)
  have m1 := m.only o1
  obtain ⟨s1, hs1⟩ : ∃ s1, s1 = s.set 6 (some (.d (.int v))) := ⟨_, rfl⟩
  have b1 : SB s1 := by rw [hs1]; exact b.set (by decide) _
  have v5 : s1[5]? = some (some (.d (.int os.length))) := by rw [hs1]; exact has_set h5 (by decide)
  have v6 : s1[6]? = some (some (.d (.int v))) := by rw [hs1]; exact b.at (by decide) _
  obtain ⟨u, M2, e2, u0, u1, o2⟩ := drawJ (m := 7) m1.pool b1.s1 (by decide) (by decide)
  have m2 := m1.only o2
  obtain ⟨y, M3, e3, y0, y1, o3⟩ := drawJ (m := 20) m2.pool b1.s1 (by decide) (by decide)
  have m3 := m2.only o3
  have lst : pDat (pLst (pCons (pC .none) (pCons (pOp gAddI (pVar 6) (pCallG f__law_draw [] (pCons (pVar 1) (pCons (pC (.int 20)) (pNil))))) (pNil)))) s1 M2 = .ok (.d (.list [.none, .int (v + y)])) M3 :=
    dat_ok (lst_ok (cons_ok rfl (cons_ok (add_ok (M'' := M3) (var_ok v6) e3) nil_ok)) (by show 2 ≤ 1000; decide)) rfl
  obtain ⟨la, M4, hla, e4, o4⟩ := pickJ (ds := [.none, .int (v + y)]) m3.pool b1.s1 lst (by show 1 ≤ 2; decide) (by show 2 ≤ 1000000; decide)
  have m4 := m3.only o4
  obtain ⟨tp, htp, tp0, tp1⟩ : ∃ tp, topD la = some tp ∧ 0 ≤ tp ∧ tp ≤ 100000 := by
    rcases List.mem_cons.mp hla with rfl | hla
    · exact ⟨100000, rfl, by decide, by decide⟩
    · rw [List.mem_singleton.mp hla]
      exact ⟨v + y, rfl, by omega, by omega⟩
  obtain ⟨o, ho⟩ : ∃ o : Od, o = ⟨nmK os.length, rowsK os.length, v, 1 + u, la, tp⟩ := ⟨_, rfl⟩
  have ok : o.ok := by
    rw [ho]
    exact ⟨by show 1 ≤ 1 + u; omega, by show 1 + u ≤ 7; omega, v0, by show v ≤ 19; omega, htp, tp1⟩
  have onm : o.nm = nmK os.length := by rw [ho]
  have orw : o.rows = rowsK os.length := by rw [ho]
  have otp : 0 ≤ o.tp := by rw [ho]; exact tp0
  have H' := H.app hk ok onm orw
  have k3 : (rowsK os.length) = .tuple [.tuple [.str "a.a", .int (-5 - (os.length : Int))], .tuple [.str "a.b", .int (5 + (os.length : Int))]] := rfl
  have od : ordD o = .tuple [rowsK os.length, .int v, .int (1 + u), la] := by rw [ho]; rfl
  refine ⟨o, ?_⟩
  unfold lp7_law
  rw [seq_nx (set_ok e1), ← hs1]
  have tu : pTup (pCons (pTup (pCons (pTup (pCons (pC (.str "a.a")) (pCons (pOp gSubI (pNeg (pC (.int 5))) (pVar 5)) (pNil)))) (pCons (pTup (pCons (pC (.str "a.b")) (pCons (pOp gAddI (pC (.int 5)) (pVar 5)) (pNil)))) (pNil)))) (pCons (pVar 6) (pCons (pOp gAddI (pC (.int 1)) (pCallG f__law_draw [] (pCons (pVar 1) (pCons (pC (.int 7)) (pNil))))) (pCons (pCallG f__law_pick [] (pCons (pVar 1) (pCons (pDat (pLst (pCons (pC .none) (pCons (pOp gAddI (pVar 6) (pCallG f__law_draw [] (pCons (pVar 1) (pCons (pC (.int 20)) (pNil))))) (pNil))))) (pNil)))) (pNil))))) s1 M1 = .ok (.d (ordD o)) M4 := by
    rw [od]
    refine tup_ok (ds := [rowsK os.length, .int v, .int (1 + u), la]) (cons_ok (M1 := M1) ?_ (cons_ok (var_ok v6) (cons_ok (M1 := M2) (add_ok (M'' := M2) (M' := M1) rfl e2) (cons_ok e4 nil_ok)))) (by show 4 ≤ 1000; decide)
    rw [k3]
    refine tup_ok (ds := [.tuple [.str "a.a", .int (-5 - (os.length : Int))], .tuple [.str "a.b", .int (5 + (os.length : Int))]]) (cons_ok (M1 := M1) ?_ (cons_ok (M1 := M1) ?_ nil_ok)) (by show 2 ≤ 1000; decide)
    · exact tup_ok (ds := [.str "a.a", .int (-5 - (os.length : Int))]) (cons_ok rfl (cons_ok (sub_ok (i := -5) (M' := M1) (M'' := M1) rfl (var_ok v5)) nil_ok)) (by show 2 ≤ 1000; decide)
    · exact tup_ok (ds := [.str "a.b", .int (5 + (os.length : Int))]) (cons_ok rfl (cons_ok (add_ok (i := 5) (M' := M1) (M'' := M1) rfl (var_ok v5)) nil_ok)) (by show 2 ≤ 1000; decide)
  rw [seq_nx (set_ok tu)]
  obtain ⟨s2, hs2⟩ : ∃ s2, s2 = s1.set 7 (some (.d (ordD o))) := ⟨_, rfl⟩
  rw [← hs2]
  have b2 : SB s2 := by rw [hs2]; exact b1.set (by decide) _
  have w5 : s2[5]? = some (some (.d (.int os.length))) := by rw [hs2]; exact has_set v5 (by decide)
  have w7 : s2[7]? = some (some (.d (ordD o))) := by rw [hs2]; exact b1.at (by decide) _
  have nm : pOp gIx (pDat (pLst (pCons (pC (.str "x")) (pCons (pC (.str "yy")) (pCons (pC (.str "zed")) (pNil)))))) (pVar 5) s2 M4 = .ok (.d (.str o.nm)) M4 := by
    have l3 : pDat (pLst (pCons (pC (.str "x")) (pCons (pC (.str "yy")) (pCons (pC (.str "zed")) (pNil))))) s2 M4 = .ok (.d (.list [.str "x", .str "yy", .str "zed"])) M4 :=
      dat_ok (lst_ok (ws := [.d (.str "x"), .d (.str "yy"), .d (.str "zed")]) (cons_ok rfl (cons_ok rfl (cons_ok rfl nil_ok))) (by show 3 ≤ 1000; decide)) rfl
    rw [op_ok l3 (var_ok w5)]
    unfold gIx itemsL
    simp only
    rw [atI_nat, onm]
    generalize os.length = n at hk
    match n, hk with
    | 0, _ => rfl
    | 1, _ => rfl
    | 2, _ => rfl
  rw [seq_nx (set_ok nm)]
  obtain ⟨s3, hs3⟩ : ∃ s3, s3 = s2.set 8 (some (.d (.str o.nm))) := ⟨_, rfl⟩
  rw [← hs3]
  have b3 : SB s3 := by rw [hs3]; exact b2.set (by decide) _
  have x7 : s3[7]? = some (some (.d (ordD o))) := by rw [hs3]; exact has_set w7 (by decide)
  have x8 : s3[8]? = some (some (.d (.str o.nm))) := by rw [hs3]; exact b2.at (by decide) _
  have hout : o.nm ∉ os.map (·.nm) := by rw [onm]; exact H.out hk
  have kl : (kvsOf os).length = os.length := by unfold kvsOf; rw [List.length_map]
  rw [seq_nx (putD_ok (var_ok x7) (var_ok b3.s4) (var_ok x8) (dicM_dic m4.dic) rfl (by omega)), put_out hout]
  obtain ⟨M5, hM5⟩ : ∃ M5, M5 = M4.set 3 (.dic false (kvsOf (os ++ [o]))) := ⟨_, rfl⟩
  rw [← hM5]
  have st5 : Stg C 1 2 os M5 := by rw [hM5]; exact ⟨by rw [List.getElem?_set_ne (by decide)]; exact m4.stg.ins, by rw [List.getElem?_set_ne (by decide)]; exact m4.stg.dic⟩
  have d5 : M5[3]? = some (.dic false (kvsOf (os ++ [o]))) := by rw [hM5]; exact List.getElem?_set_self (List.getElem?_eq_some_iff.mp m4.dic).1
  have p5 : PoolOk M5 := by rw [hM5]; exact pool_set m4.pool (by decide)
  have xo : s3[7]? = some (some (.d (.tuple [o.rows, .int o.f, .int o.e, o.last]))) := x7
  have i0 : ∀ M, pOp gIx (pVar 7) (pC (.int 0)) s3 M = .ok (.d o.rows) M := fun M => ixT_ok (i := 0) (var_ok xo) rfl
  have i1 : ∀ M, pOp gIx (pVar 7) (pC (.int 1)) s3 M = .ok (.d (.int o.f)) M := fun M => ixT_ok (i := 1) (var_ok xo) rfl
  have i2 : ∀ M, pOp gIx (pVar 7) (pC (.int 2)) s3 M = .ok (.d (.int o.e)) M := fun M => ixT_ok (i := 2) (var_ok xo) rfl
  have i3 : ∀ M, pOp gIx (pVar 7) (pC (.int 3)) s3 M = .ok (.d o.last) M := fun M => ixT_ok (i := 3) (var_ok xo) rfl
  have hor : orderR o.rows (.int o.f) (.int o.e) o.last = .ok (ordD o) := by
    have f1 := ok.f1
    have f0 := ok.f0
    have g1 := ok.e1
    have g2 := ok.e2
    unfold orderR
    rw [orw, rowsK_ok _ hk]
    have n1 : isNumberD (.int o.f) 0 100000 = true := by simp [isNumberD]; omega
    have n2 : isNumberD (.int o.e) 1 1000 = true := by simp [isNumberD]; omega
    simp only [n1, n2, Bool.true_eq_false, or_self, if_false]
    have ol : o.last = la := by rw [ho]
    have of' : o.f = v := by rw [ho]
    rcases List.mem_cons.mp hla with e | e
    · rw [ol, e]
      simp only
      rw [← orw, ← e, ← ol]
      rfl
    · rw [ol, List.mem_singleton.mp e]
      have n3 : isNumberD (.int (v + y)) o.f 100000 = true := by rw [of']; simp [isNumberD]; omega
      simp only [n3, Bool.true_eq_false, if_false]
      rw [← orw, ← List.mem_singleton.mp e, ← ol]
      rfl
  have add := add_ok' st5 (o := o) (by rw [onm]; exact (nmK_ok _).1) hor H.nd hout (by omega) (by rw [orw]; exact H.dif hk) (by rw [orw]; exact rowsK_sh _ hk)
  have ad : pMeth C "add" (f_Standing_add C) [] (pVar 3) (pCons (pVar 8) (pCons (pOp gIx (pVar 7) (pC (.int 0))) (pCons (pOp gIx (pVar 7) (pC (.int 1))) (pCons (pOp gIx (pVar 7) (pC (.int 2))) (pCons (pOp gIx (pVar 7) (pC (.int 3))) (pNil)))))) s3 M5 = .ok (.d .none) (M5.set 2 (.dic false (kvsOf (os ++ [o])))) :=
    meth_ok (var_ok b3.s3) (noAtt_of st5.ins (look1 (by decide +kernel))) (cons_ok (var_ok x8) (cons_ok (i0 _) (cons_ok (i1 _) (cons_ok (i2 _) (cons_ok (i3 _) nil_ok))))) add
  rw [seq_nx (drop_ok ad)]
  obtain ⟨M6, hM6⟩ : ∃ M6, M6 = M5.set 2 (.dic false (kvsOf (os ++ [o]))) := ⟨_, rfl⟩
  rw [← hM6]
  have m6 : LM C (os ++ [o]) M6 := by
    rw [hM6]
    exact ⟨pool_set p5 (by decide), ⟨by rw [List.getElem?_set_ne (by decide)]; exact st5.ins, List.getElem?_set_self (List.getElem?_eq_some_iff.mp st5.dic).1⟩, by rw [List.getElem?_set_ne (by decide)]; exact d5⟩
  have c1 : pCallQ q_checked_order [] (pCons (pOp gIx (pVar 7) (pC (.int 0))) (pCons (pOp gIx (pVar 7) (pC (.int 1))) (pCons (pOp gIx (pVar 7) (pC (.int 2))) (pCons (pOp gIx (pVar 7) (pC (.int 3))) (pNil))))) s3 M6 = .ok (.d (ordD o)) M6 := by
    rw [call_data (ds := [o.rows, .int o.f, .int o.e, o.last]) (cons_ok (i0 _) (cons_ok (i1 _) (cons_ok (i2 _) (cons_ok (i3 _) nil_ok))))]
    show (orderR _ _ _ _).to M6 = _
    rw [hor]
    rfl
  have sm : sameOk 5 (ordD o) = true := by
    have q1 := rowsK_same os.length
    have q2 : sameOk 4 la = true := by
      rcases List.mem_cons.mp hla with e | e
      · rw [e]; simp [sameOk]
      · rw [List.mem_singleton.mp e]; simp [sameOk]
    rw [od]
    simp only [sameOk, sameAll, q1, q2]
    simp
  rw [seq_nx (s' := s3) (M' := M6) (by rw [if_ff (same_true c1 (var_ok x7) sm)]; rfl)]
  obtain ⟨n, M7, e7, n0, n1, o7⟩ := drawJ (m := 50) m6.pool b3.s1 (by decide) (by decide)
  have m7 := m6.only o7
  rw [seq_nx (set_ok e7)]
  obtain ⟨s4, hs4⟩ : ∃ s4, s4 = s3.set 9 (some (.d (.int n))) := ⟨_, rfl⟩
  rw [← hs4]
  have b4 : SB s4 := by rw [hs4]; exact b3.set (by decide) _
  have y7 : s4[7]? = some (some (.d (ordD o))) := by rw [hs4]; exact has_set x7 (by decide)
  have y9 : s4[9]? = some (some (.d (.int n))) := by rw [hs4]; exact b3.at (by decide) _
  have g1 := ok.e1
  have g2 := ok.e2
  have c2 : pCallQ q_days_of [] (pCons (pVar 7) (pCons (pVar 9) (pNil))) s4 M7 = .ok (.d (.list (((upTo 0 (n + 1).toNat).filter (isDay o.f o.e o.tp)).map .int))) M7 := by
    rw [call_data (ds := [ordD o, .int n]) (cons_ok (var_ok y7) (cons_ok (var_ok y9) nil_ok)), days_call ok otp n0 (by omega)]
    rfl
  have r6 : pRng1 (pOp gAddI (pVar 9) (pC (.int 1))) s4 M7 = .ok (rngW 0 (n + 1).toNat) M7 := rng1_okM (add_ok (M'' := M7) (var_ok y9) rfl) (small62' (by omega) (by omega))
  have c3 : pDat (lc6_law C) s4 M7 = .ok (.d (.list (((upTo 0 (n + 1).toNat).filter (isDay o.f o.e o.tp)).map .int))) M7 := day_rows r6 (show s4[7]? = some (some (.d (.tuple [o.rows, .int o.f, .int o.e, o.last]))) from y7) b4.l ok.top ⟨g1, by omega⟩ (by omega)
  rw [seq_nx (s' := s4) (M' := M7) (by rw [if_ff (same_true c2 c3 (ints_same (filt_len (by omega))))]; rfl)]
  obtain ⟨a, M8, e8, a0, a1, o8⟩ := drawJ (m := 45) m7.pool b4.s1 (by decide) (by decide)
  have m8 := m7.only o8
  rw [seq_nx (set_ok (sub_ok (M'' := M8) e8 (j := 1) rfl))]
  obtain ⟨s5, hs5⟩ : ∃ s5, s5 = s4.set 10 (some (.d (.int (a - 1)))) := ⟨_, rfl⟩
  rw [← hs5]
  have b5 : SB s5 := by rw [hs5]; exact b4.set (by decide) _
  have z7 : s5[7]? = some (some (.d (ordD o))) := by rw [hs5]; exact has_set y7 (by decide)
  have z10 : s5[10]? = some (some (.d (.int (a - 1)))) := by rw [hs5]; exact b4.at (by decide) _
  have r5 : pRng2 (pOp gAddI (pVar 10) (pC (.int 1))) (pOp gAddI (pVar 10) (pC (.int 60))) s5 M8 = .ok (rngW (a - 1 + 1) 59) M8 := by
    have z := rng2_okM (p := pOp gAddI (pVar 10) (pC (.int 1))) (q := pOp gAddI (pVar 10) (pC (.int 60))) (s := s5) (M := M8) (i := a - 1 + 1) (j := a - 1 + 60) (add_ok (M'' := M8) (var_ok z10) rfl) (add_ok (M'' := M8) (var_ok z10) rfl) (small62' (by omega) (by omega)) (small62' (by omega) (by omega))
    rw [show (a - 1 + 60 - (a - 1 + 1)).toNat = 59 by omega] at z
    exact z
  have c5 : pDat (lc5_law C) s5 M8 = .ok (.d (.list (((upTo (a - 1 + 1) 59).filter (isDay o.f o.e o.tp)).map .int))) M8 := day_rows r5 (show s5[7]? = some (some (.d (.tuple [o.rows, .int o.f, .int o.e, o.last]))) from z7) b5.l ok.top ⟨g1, by omega⟩ (by decide)
  rw [seq_nx (set_ok c5)]
  obtain ⟨s6, hs6⟩ : ∃ s6, s6 = s5.set 11 (some (.d (.list (((upTo (a - 1 + 1) 59).filter (isDay o.f o.e o.tp)).map .int)))) := ⟨_, rfl⟩
  rw [← hs6]
  have b6 : SB s6 := by rw [hs6]; exact b5.set (by decide) _
  have t7 : s6[7]? = some (some (.d (ordD o))) := by rw [hs6]; exact has_set z7 (by decide)
  have t10 : s6[10]? = some (some (.d (.int (a - 1)))) := by rw [hs6]; exact has_set z10 (by decide)
  have t11 : s6[11]? = some (some (.d (.list (((upTo (a - 1 + 1) 59).filter (isDay o.f o.e o.tp)).map .int)))) := by rw [hs6]; exact b5.at (by decide) _
  have nx := next_ok ok (s := s6) (M := M8) (M' := M8) (a := a - 1) (var_ok t7) (var_ok t10)
  rw [head_eq g1 g2 ok.f1 ok.tp1 (by omega)] at nx
  rw [if_ff (same_true nx (head_val t11) (opt_same _))]
  exact ⟨s6, M8, rfl, H', b6, m8⟩
end Z

set_option linter.all false
set_option autoImplicit false
set_option maxRecDepth 100000
set_option maxHeartbeats 4000000
namespace Z
open PySem PySem.Spec PyProof.Rows L2 L2H
/-! ### the parts behind the orders -/
section
variable {C : Addr} {os : List Od}
theorem every_loop (H : Ords os) {s : Sl} {M : Ms} (b : SB s) (m : LM C os M) {a : Int} {many : Nat} (h10 : s[10]? = some (some (.d (.int a)))) (h12 : s[12]? = some (some (.d (.int many)))) (h13 : s[13]? = some (some (.d (.list [])))) :
    ∃ s', forL (qName 14) (lp4_law C) (rngW (a + 1) 149) s M = .nx s' M ∧ SB s' ∧ s'[10]? = some (some (.d (.int a))) ∧ s'[12]? = some (some (.d (.int many))) ∧ s'[13]? = some (some (.d (.list ((everyB os (upTo (a + 1) 149)).map pairD)))) := by
  obtain ⟨s', M', e, ⟨b', q10, q12, q13, hM⟩⟩ := forL_all (g := qName 14) (b := lp4_law C) (ws := rngW (a + 1) 149) (s := s) (M := M)
    (I := fun k s' M' => SB s' ∧ s'[10]? = some (some (.d (.int a))) ∧ s'[12]? = some (some (.d (.int many))) ∧ s'[13]? = some (some (.d (.list ((everyB os ((upTo (a + 1) 149).take k)).map pairD)))) ∧ M' = M)
    ⟨b, h10, h12, by rw [List.take_zero]; exact h13, rfl⟩ fun x k s1 M1 hx ⟨b1, p10, p12, p13, hM1⟩ => by
      subst hM1
      rw [rngW_upTo, List.getElem?_map] at hx
      obtain ⟨d, hd, rfl⟩ := Option.map_eq_some_iff.mp hx
      obtain ⟨s2, hs2⟩ : ∃ s2, s2 = s1.set 14 (some (wi d)) := ⟨_, rfl⟩
      have b2 : SB s2 := by rw [hs2]; exact b1.set (by decide) _
      have v14 : s2[14]? = some (some (.d (.int d))) := by rw [hs2]; exact b1.at (by decide) _
      have v10 : s2[10]? = some (some (.d (.int a))) := by rw [hs2]; exact has_set p10 (by decide)
      have v12 : s2[12]? = some (some (.d (.int many))) := by rw [hs2]; exact has_set p12 (by decide)
      have v13 : s2[13]? = some (some (.d (.list ((everyB os ((upTo (a + 1) 149).take k)).map pairD)))) := by rw [hs2]; exact has_set p13 (by decide)
      have kk : k < 149 := by
        have := (List.getElem?_eq_some_iff.mp hd).1
        rwa [upTo_len] at this
      have lc := lc3_ok (C := C) (s := s2) b2.s4 m.dic H.len b2.l H.srt H.nd H.ok v14
      have el := everyB_len (os := os) ((upTo (a + 1) 149).take k)
      have el2 : os.length * ((upTo (a + 1) 149).take k).length ≤ 3 * 149 := Nat.mul_le_mul H.len (by rw [List.length_take, upTo_len]; omega)
      have dl := inDay_len (os := os) d
      have hl := H.len
      have nxt : everyB os ((upTo (a + 1) 149).take (k + 1)) = everyB os ((upTo (a + 1) 149).take k) ++ inDay os d := by
        unfold everyB
        rw [List.take_add_one, hd, List.flatMap_append]
        simp
      have ct : pDat (pCat (pVar 13) (pDat (lc3_law C))) s2 M1 = .ok (.d (.list ((everyB os ((upTo (a + 1) 149).take (k + 1))).map pairD))) M1 := by
        refine dat_ok (ws := (((everyB os ((upTo (a + 1) 149).take (k + 1))).map pairD).map W.d)) ?_ (allD_map _)
        unfold pCat
        rw [var_ok v13]
        simp only [R.bind]
        rw [lc]
        simp only [catW, itemsL]
        rw [if_pos (by
          rw [List.length_map, List.length_map, List.length_map, List.length_map]
          exact Nat.le_trans (show _ ≤ 1000 by omega) (by decide))]
        rw [nxt, List.map_append, List.map_append]
      refine ⟨s2, s2.set 13 (some (.d (.list ((everyB os ((upTo (a + 1) 149).take (k + 1))).map pairD)))), M1, by rw [hs2]; rfl, ?_, b2.set (by decide) _, has_set v10 (by decide), has_set v12 (by decide), b2.at (by decide) _, rfl⟩
      unfold lp4_law
      exact set_ok ct
  subst hM
  refine ⟨s', e, b', q10, q12, ?_⟩
  rw [q13, List.take_of_length_le (by unfold rngW; rw [upTo_len, List.length_map, List.length_range]; exact Nat.le_refl _)]
theorem slice_ok {s : Sl} {M : Ms} {j : Nat} {B : List Pr} {many : Nat} (h1 : s[j]? = some (some (.d (.list (B.map pairD))))) (h12 : s[12]? = some (some (.d (.int many)))) : pDat (pSlL (pVar j) (pNo) (pSo (pVar 12))) s M = .ok (.d (.list ((B.take many).map pairD))) M := by
  refine dat_ok (ws := ((B.take many).map pairD).map W.d) ?_ (allD_map _)
  unfold pSlL
  rw [var_ok h1]
  simp only [R.bind, pNo, pSo]
  rw [var_ok h12]
  simp only [itemsL]
  rw [cutW_take, ← List.map_take, ← List.map_take]
theorem pairs_same {B : List Pr} {many : Nat} (hm : many ≤ 8) (h : ∀ p ∈ B, PyData.strOk p.2 = true) : sameOk 5 (.list ((B.take many).map pairD)) = true := by
  have hl : ((B.take many).map pairD).length ≤ 1000000 := by rw [List.length_map, List.length_take]; omega
  unfold sameOk
  rw [sameAll_of fun d hd => by
    obtain ⟨p, hp, rfl⟩ := List.mem_map.mp hd
    have := h p (List.mem_of_mem_take hp)
    simp [pairD, sameOk, sameAll, this]]
  simp only [hl, decide_true, Bool.true_and]
theorem coming_call {s : Sl} {M : Ms} {i j : Nat} (hs : s[3]? = some (some (.r i))) (h : Stg C i j os M) (hok : ∀ o ∈ os, o.ok) (up : upS os) (hl : os.length ≤ 3) {many : Nat} {a : Int} (hm : many ≤ 8) (h10 : s[10]? = some (some (.d (.int a)))) (h12 : s[12]? = some (some (.d (.int many)))) :
    ∃ x, pMeth C "coming" (f_Standing_coming C) [] (pVar 3) (pCons (pVar 10) (pCons (pVar 12) (pNil))) s M = .ok (.d (.list (((sortPP (pairsOf os many a)).take many).map pairD))) (M ++ [x]) := by
  obtain ⟨x, hx⟩ := coming_ok h hok (upS_nodup up) (sortS_self up) hl hm (a := a)
  exact ⟨x, meth_ok (var_ok hs) (noAtt_of h.ins (look1 (by decide +kernel))) (cons_ok (var_ok h10) (cons_ok (var_ok h12) nil_ok)) hx⟩
def keepP (nm : Str) (day : Int) (p : Pr) : Bool := decide (p.2 ≠ nm) || decide (p.1 ≤ day)
def keepW (nm : Str) (day : Int) (x : W) : Bool := match x with
  | .d (.tuple [.int d, .str n]) => keepP nm day (d, n)
  | _ => false
theorem lc2_ok {s : Sl} {M : Ms} (b : SB s) {B : List Pr} {nm : Str} {day : Int} (h13 : s[13]? = some (some (.d (.list (B.map pairD))))) (h8 : s[8]? = some (some (.d (.str nm)))) (h15 : s[15]? = some (some (.d (.int day)))) (hl : B.length ≤ 1000) (so : PyData.strOk nm = true ∧ ∀ p ∈ B, PyData.strOk p.2 = true) :
    pDat (lc2_law C) s M = .ok (.d (.list ((B.filter (keepP nm day)).map pairD))) M := by
  refine dat_ok (ws := ((B.filter (keepP nm day)).map pairD).map W.d) ?_ (allD_map _)
  unfold lc2_law pLc pItL
  rw [var_ok h13]
  simp only [R.bind]
  rw [if_pos (by rw [List.length_map, List.length_map]; exact Nat.le_trans hl (by decide))]
  rw [lcL_pure (keepW nm day) id]
  · rw [List.nil_append, List.map_id, List.map_map, List.filter_map, List.map_map]
    rfl
  · intro x hx
    rw [List.map_map] at hx
    obtain ⟨p, hp, rfl⟩ := List.mem_map.mp hx
    obtain ⟨s1, hs1⟩ : ∃ s1, s1 = ((wipeS s [14, 20]).set 14 (some (.d (.int p.1)))).set 20 (some (.d (.str p.2))) := ⟨_, rfl⟩
    have lw : (wipeS s [14, 20]).length = 21 := by simp [wipeS, b.l]
    have v14 : s1[14]? = some (some (.d (.int p.1))) := by rw [hs1]; exact has_set (set_at lw (by decide)) (by decide)
    have v20 : s1[20]? = some (some (.d (.str p.2))) := by rw [hs1]; exact set_at (n := 21) (by rw [List.length_set]; exact lw) (by decide)
    have v8 : s1[8]? = some (some (.d (.str nm))) := by rw [hs1]; exact has_set (has_set (has_set (has_set h8 (by decide)) (by decide)) (by decide)) (by decide)
    have v15 : s1[15]? = some (some (.d (.int day))) := by rw [hs1]; exact has_set (has_set (has_set (has_set h15 (by decide)) (by decide)) (by decide)) (by decide)
    have t1 : pB (pOp gNeD (pVar 20) (pVar 8)) s1 M = .ok (decide (p.2 ≠ nm)) M := by
      refine pB_ok ?_
      rw [op_ok (var_ok v20) (var_ok v8)]
      unfold gNeD view
      simp only [shaped_str so.1, shaped_str (so.2 p hp), and_self, if_true, eqv_str]
      by_cases e : p.2 = nm <;> simp [e]
    have t2 : pB (pOp gLeI (pVar 14) (pVar 15)) s1 M = .ok (decide (p.1 ≤ day)) M := by
      refine pB_ok ?_
      rw [op_ok (var_ok v14) (var_ok v15)]
      rfl
    refine ⟨s1, by rw [hs1]; rfl, ?_, fun _ => ?_⟩
    · show _ = R.ok (keepP nm day p) M
      unfold keepP
      by_cases e : p.2 = nm
      · have e' : decide (p.2 ≠ nm) = false := by simp [e]
        rw [e'] at t1 ⊢
        rw [or_ff t1, t2, Bool.false_or]
      · have e' : decide (p.2 ≠ nm) = true := by simp [e]
        rw [e'] at t1 ⊢
        rw [or_tt t1, Bool.true_or]
    · exact tup_ok (ds := [.int p.1, .str p.2]) (cons_ok (var_ok v14) (cons_ok (var_ok v20) nil_ok)) (by show 2 ≤ 1000; decide)
end
/-! ### what is refused -/
def wrongs : List PyData := [.tuple [], .tuple [.tuple [.str "a.a", .int 5]], .tuple [.tuple [.str "a", .int (-5)], .tuple [.str "a.b", .int 5]], .tuple [.tuple [.str "a.a", .int (-5)], .tuple [.str "a.a", .int 5]], .tuple [.tuple [.str "a.a", .int (-5)], .tuple [.str "a.b", .int 5], .int 5]]
theorem wrong_rows : ∀ d ∈ wrongs, rowsOkD d = some false := by
  intro d hd
  unfold wrongs at hd
  simp only [List.mem_cons, List.not_mem_nil, or_false] at hd
  rcases hd with rfl | rfl | rfl | rfl | rfl <;> decide +kernel
theorem paper_of {d a b c : PyData} (h : rowsOkD d = some false) : q__law_refused [d, a, b, c] = .ok (.str "paper") := by
  unfold q__law_refused orderR
  simp only [h]
  have e : catK "InvalidPaper" = some true := by simp [catK]
  rw [if_pos e]
  have e2 : codeK "InvalidPaper" = "paper" := by
    unfold codeK
    rw [if_neg (by decide +kernel)]
  rw [e2]
def numW : List (PyData × PyData × PyData) := [(.int (-1), .int 1, .none), (.bool true, .int 1, .none), (.int 0, .int 0, .none), (.int 0, .int 1001, .none), (.int 7, .int 1, .int 6), (.int 0, .int 1, .int 100001)]
theorem num_of {a b c : PyData} (h : (a, b, c) ∈ numW) : q__law_refused [rows0, a, b, c] = .ok (.str "number") := by
  have e : catK "InvalidNumber" = some true := by simp [catK]
  have e2 : codeK "InvalidNumber" = "number" := by
    unfold codeK
    rw [if_pos rfl]
  have z : orderR rows0 a b c = .exc ⟨"InvalidNumber", none⟩ := by
    unfold orderR
    rw [rows0_ok]
    simp only
    unfold numW at h
    simp only [List.mem_cons, List.not_mem_nil, or_false, Prod.mk.injEq] at h
    rcases h with ⟨rfl, rfl, rfl⟩ | ⟨rfl, rfl, rfl⟩ | ⟨rfl, rfl, rfl⟩ | ⟨rfl, rfl, rfl⟩ | ⟨rfl, rfl, rfl⟩ | ⟨rfl, rfl, rfl⟩ <;> simp [isNumberD]
  unfold q__law_refused
  simp only [z]
  rw [if_pos e, e2]
theorem kind_ne {s : Sl} {M : Ms} {p : PEx} {t : Str} (h : p s M = .ok (.d (.str t)) M) (so : PyData.strOk t = true) : pIf (pB (pOp gNeD p (pC (.str t)))) (pRet (pC (.bool false))) (pNext) s M = .nx s M := by
  rw [if_ff (M' := M) (by
    refine pB_ok ?_
    rw [op_ok h (y := .d (.str t)) (M'' := M) rfl]
    unfold gNeD view
    simp only [shaped_str so, and_self, if_true, eqv_str]
    simp)]
  rfl
theorem paper_loop {C : Addr} {s : Sl} {M : Ms} (b : SB s) : ∃ s', forL (qName 17) (lp1_law C) (wrongs.map W.d) s M = .nx s' M ∧ SB s' := by
  obtain ⟨s', M', e, b', hM⟩ := forL_keep (g := qName 17) (b := lp1_law C) (I := fun _ s' M' => SB s' ∧ M' = M) (wrongs.map W.d) 0 s M ⟨b, rfl⟩ fun x hx k s1 M1 ⟨b1, hM1⟩ => by
    subst hM1
    obtain ⟨d, hd, rfl⟩ := List.mem_map.mp hx
    refine ⟨s1.set 17 (some (.d d)), s1.set 17 (some (.d d)), M1, rfl, ?_, b1.set (by decide) _, rfl⟩
    unfold lp1_law
    refine kind_ne ?_ (by decide +kernel)
    rw [call_data (ds := [d, .int 0, .int 1, .none]) (cons_ok (var_ok (b1.at (by decide) _)) (cons_ok rfl (cons_ok rfl (cons_ok rfl nil_ok)))), paper_of (wrong_rows d hd)]
    rfl
  exact ⟨s', by rw [e, hM], b'⟩
theorem num_loop {C : Addr} {s : Sl} {M : Ms} (b : SB s) : ∃ s', forL (qTup 3 (qCons (qName 6) (qCons (qName 18) (qCons (qName 19) (qNil))))) (lp0_law C) (numW.map fun t => W.d (.tuple [t.1, t.2.1, t.2.2])) s M = .nx s' M ∧ SB s' := by
  obtain ⟨s', M', e, b', hM⟩ := forL_keep (g := qTup 3 (qCons (qName 6) (qCons (qName 18) (qCons (qName 19) (qNil))))) (b := lp0_law C) (I := fun _ s' M' => SB s' ∧ M' = M) (numW.map fun t => W.d (.tuple [t.1, t.2.1, t.2.2])) 0 s M ⟨b, rfl⟩ fun x hx k s1 M1 ⟨b1, hM1⟩ => by
    subst hM1
    obtain ⟨⟨u, v, w⟩, hd, rfl⟩ := List.mem_map.mp hx
    obtain ⟨s2, hs2⟩ : ∃ s2, s2 = ((s1.set 6 (some (.d u))).set 18 (some (.d v))).set 19 (some (.d w)) := ⟨_, rfl⟩
    have b2 : SB s2 := by rw [hs2]; exact ((b1.set (by decide) _).set (by decide) _).set (by decide) _
    have v6 : s2[6]? = some (some (.d u)) := by rw [hs2]; exact has_set (has_set (b1.at (by decide) _) (by decide)) (by decide)
    have v18 : s2[18]? = some (some (.d v)) := by rw [hs2]; exact has_set ((b1.set (by decide) _).at (by decide) _) (by decide)
    have v19 : s2[19]? = some (some (.d w)) := by rw [hs2]; exact ((b1.set (by decide) _).set (by decide) _).at (by decide) _
    refine ⟨s2, s2, M1, by rw [hs2]; rfl, ?_, b2, rfl⟩
    unfold lp0_law
    refine kind_ne ?_ (by decide +kernel)
    rw [call_data (ds := [rows0, u, v, w]) (cons_ok (var_ok b2.s2) (cons_ok (var_ok v6) (cons_ok (var_ok v18) (cons_ok (var_ok v19) nil_ok)))), num_of hd]
    rfl
  exact ⟨s', by rw [e, hM], b'⟩
end Z

set_option linter.all false
set_option autoImplicit false
set_option maxRecDepth 100000
set_option maxHeartbeats 4000000
namespace Z
open PySem PySem.Spec PyProof.Rows L2 L2H
def law0 : Sl := none :: some (.r 0) :: List.replicate (N_law.length - 2) none
theorem far1 : q_next_day [.tuple [rows0, .int 99999, .int 1, .none], .int 99999] = .ok (.int 100000) := rfl
theorem far2 : q_next_day [.tuple [rows0, .int 99999, .int 1, .none], .int 100000] = .ok .none := rfl
theorem far_tup {s : Sl} {M : Ms} (h2 : s[2]? = some (some (.d rows0))) : pTup (pCons (pVar 2) (pCons (pC (.int 99999)) (pCons (pC (.int 1)) (pCons (pC .none) (pNil))))) s M = .ok (.d (.tuple [rows0, .int 99999, .int 1, .none])) M :=
  tup_ok (ds := [rows0, .int 99999, .int 1, .none]) (cons_ok (var_ok h2) (cons_ok rfl (cons_ok rfl (cons_ok rfl nil_ok)))) (by show 4 ≤ 1000; decide)
theorem law_true_at (C : Addr) (ns : List Int) : ∃ m, b_law C law0 [poolM ns 0 0 0 0] = .rt (.d (.bool true)) m := by
  unfold b_law
  have e1 : pTup (pCons (pTup (pCons (pC (.str "a.a")) (pCons (pNeg (pC (.int 5))) (pNil)))) (pCons (pTup (pCons (pC (.str "a.b")) (pCons (pC (.int 5)) (pNil)))) (pNil))) law0 [poolM ns 0 0 0 0] = .ok (.d rows0) [poolM ns 0 0 0 0] := by
    refine tup_ok (ds := [.tuple [.str "a.a", .int (-5)], .tuple [.str "a.b", .int 5]]) (cons_ok (M1 := [poolM ns 0 0 0 0]) ?_ (cons_ok (M1 := [poolM ns 0 0 0 0]) ?_ nil_ok)) (by show 2 ≤ 1000; decide)
    · exact tup_ok (ds := [.str "a.a", .int (-5)]) (cons_ok rfl (cons_ok rfl nil_ok)) (by show 2 ≤ 1000; decide)
    · exact tup_ok (ds := [.str "a.b", .int 5]) (cons_ok rfl (cons_ok rfl nil_ok)) (by show 2 ≤ 1000; decide)
  rw [seq_nx (set_ok e1), seq_nx (set_ok make_ok)]
  have e3 : ∀ (s : Sl) (M : Ms), pNewD s M = .ok (.r M.length) (M ++ [.dic false []]) := fun _ _ => rfl
  rw [seq_nx (set_ok (e3 _ _))]
  obtain ⟨M0, hM0⟩ : ∃ M0, M0 = [poolM ns 0 0 0 0] ++ [MO.ins C [("_orders", .r ([poolM ns 0 0 0 0].length + 1))], .dic false []] ++ [.dic false []] := ⟨_, rfl⟩
  rw [← hM0]
  obtain ⟨s0, hs0⟩ : ∃ s0, s0 = ((law0.set 2 (some (.d rows0))).set 3 (some (.r [poolM ns 0 0 0 0].length))).set 4 (some (.r ([poolM ns 0 0 0 0] ++ [MO.ins C [("_orders", .r ([poolM ns 0 0 0 0].length + 1))], .dic false []]).length)) := ⟨_, rfl⟩
  rw [← hs0]
  have b0 : SB s0 := by rw [hs0]; exact ⟨rfl, rfl, rfl, rfl, rfl⟩
  have m0 : LM C [] M0 := by rw [hM0]; exact ⟨⟨ns, 0, 0, 0, 0, rfl, Int.le_refl _⟩, ⟨rfl, rfl⟩, rfl⟩
  clear hs0 hM0
  obtain ⟨v, M1, d1, v0, v1, o1⟩ := drawJ (m := 3) m0.pool b0.s1 (by decide) (by decide)
  have m1 := m0.only o1
  have rg : pRng1 (pOp gAddI (pC (.int 1)) (pCallG f__law_draw [] (pCons (pVar 1) (pCons (pC (.int 3)) (pNil))))) s0 M0 = .ok (rngW 0 (1 + v).toNat) M1 := rng1_okM (add_ok (M'' := M1) (M' := M0) rfl d1) (small62' (by omega) (by omega))
  have rl : (rngW 0 (1 + v).toNat).length = (1 + v).toNat := by unfold rngW; rw [List.length_map, List.length_range]
  obtain ⟨s1, M2, e4, ⟨os, hlen, H, b1, m2⟩⟩ := forL_all (g := qName 5) (b := lp7_law C) (ws := rngW 0 (1 + v).toNat) (s := s0) (M := M1)
    (I := fun k s' M' => ∃ os : List Od, os.length = k ∧ Ords os ∧ SB s' ∧ LM C os M')
    ⟨[], rfl, ⟨fun o h => (by cases h), rfl, rfl, by decide⟩, b0, m1⟩ fun x k s M hx ⟨os, hl, H, b, m⟩ => by
      have hk := (List.getElem?_eq_some_iff.mp hx).1
      rw [rl] at hk
      unfold rngW at hx
      rw [List.getElem?_map, List.getElem?_range (by omega)] at hx
      have hx' : x = .d (.int (0 + (k : Int))) := by simpa using hx.symm
      rw [Int.zero_add] at hx'
      have sb : SB (s.set 5 (some (.d (.int k)))) := b.set (by decide) _
      have s5 : (s.set 5 (some (.d (.int k))))[5]? = some (some (.d (.int os.length))) := by rw [b.at (by decide), hl]
      obtain ⟨o, s', M', z1, z2, z3, z4⟩ := step_ok H sb m (by omega) s5
      exact ⟨s.set 5 (some (.d (.int k))), s', M', by rw [hx']; rfl, z1, os ++ [o], by rw [List.length_append, hl]; rfl, z2, z3, z4⟩
  rw [seq_nx ((for_ok rg).trans e4)]
  rw [rl] at hlen
  have ne : 1 ≤ os.length := by omega
  clear e4 rg
  obtain ⟨a, M3, d2, a0, a1, o2⟩ := drawJ (m := 30) m2.pool b1.s1 (by decide) (by decide)
  have m3 := m2.only o2
  rw [seq_nx (set_ok (sub_ok (M'' := M3) d2 (j := 1) rfl))]
  obtain ⟨s2, hs2⟩ : ∃ s2, s2 = s1.set 10 (some (.d (.int (a - 1)))) := ⟨_, rfl⟩
  rw [← hs2]
  have b2 : SB s2 := by rw [hs2]; exact b1.set (by decide) _
  have p10 : s2[10]? = some (some (.d (.int (a - 1)))) := by rw [hs2]; exact b1.at (by decide) _
  obtain ⟨mi, M4, d3, n0, n1, o3⟩ := drawJ (m := 9) m3.pool b2.s1 (by decide) (by decide)
  have m4 := m3.only o3
  obtain ⟨many, rfl⟩ := Int.eq_ofNat_of_zero_le n0
  have hm : many ≤ 8 := by omega
  rw [seq_nx (set_ok d3)]
  have e13 : pDat (pLst (pNil)) (s2.set 12 (some (.d (.int (many : Int))))) M4 = .ok (.d (.list [])) M4 := dat_ok (lst_ok nil_ok (by show 0 ≤ 1000; decide)) rfl
  rw [seq_nx (set_ok e13)]
  obtain ⟨s3, hs3⟩ : ∃ s3, s3 = (s2.set 12 (some (.d (.int (many : Int))))).set 13 (some (.d (.list []))) := ⟨_, rfl⟩
  rw [← hs3]
  have b3 : SB s3 := by rw [hs3]; exact (b2.set (by decide) _).set (by decide) _
  have q10 : s3[10]? = some (some (.d (.int (a - 1)))) := by rw [hs3]; exact has_set (has_set p10 (by decide)) (by decide)
  have q12 : s3[12]? = some (some (.d (.int (many : Int)))) := by rw [hs3]; exact has_set (b2.at (by decide) _) (by decide)
  have q13 : s3[13]? = some (some (.d (.list []))) := by rw [hs3]; exact (b2.set (by decide) _).at (by decide) _
  have r5 : pRng2 (pOp gAddI (pVar 10) (pC (.int 1))) (pOp gAddI (pVar 10) (pC (.int 150))) s3 M4 = .ok (rngW (a - 1 + 1) 149) M4 := by
    have z := rng2_okM (p := pOp gAddI (pVar 10) (pC (.int 1))) (q := pOp gAddI (pVar 10) (pC (.int 150))) (s := s3) (M := M4) (i := a - 1 + 1) (j := a - 1 + 150) (add_ok (M'' := M4) (var_ok q10) rfl) (add_ok (M'' := M4) (var_ok q10) rfl) (small62' (by omega) (by omega)) (small62' (by omega) (by omega))
    rw [show (a - 1 + 150 - (a - 1 + 1)).toNat = 149 by omega] at z
    exact z
  obtain ⟨s4, e5, b4, t10, t12, t13⟩ := every_loop H b3 m4 q10 q12 q13
  rw [seq_nx ((for_ok r5).trans e5)]
  obtain ⟨B, hB⟩ : ∃ B, B = everyB os (upTo (a - 1 + 1) 149) := ⟨_, rfl⟩
  rw [← hB] at t13
  have Bpw : B.Pairwise ltP := by rw [hB]; exact everyB_pw H.up (upTo_inc _ _)
  have Bmem : ∀ p : Pr, p ∈ B ↔ ∃ o ∈ os, o.nm = p.2 ∧ isDay o.f o.e o.tp p.1 = true ∧ a - 1 < p.1 ∧ p.1 < a - 1 + 150 := fun p => by
    rw [hB, everyB_mem, upTo_mem]
    constructor
    · rintro ⟨hd, o, ho, h1, h2⟩
      exact ⟨o, ho, h1, h2, by omega, by omega⟩
    · rintro ⟨o, ho, h1, h2, h3, h4⟩
      exact ⟨⟨by omega, by omega⟩, o, ho, h1, h2⟩
  have Blen : B.length ≤ 1000 := by
    have z := everyB_len (os := os) (upTo (a - 1 + 1) 149)
    rw [upTo_len, ← hB] at z
    have := H.len
    omega
  have Bso : ∀ p ∈ B, PyData.strOk p.2 = true := fun p hp => by
    obtain ⟨o, ho, h1, _⟩ := (Bmem p).mp hp
    rw [← h1]
    exact H.sok ho
  obtain ⟨x, c1⟩ := coming_call b4.s3 m4.stg H.ok H.up H.len hm t10 t12
  rw [coming_eq H.ok H.nd Bpw hm (by omega) Bmem] at c1
  rw [seq_nx (s' := s4) (M' := M4 ++ [x]) (by rw [if_ff (same_true c1 (slice_ok t13 t12) (pairs_same hm Bso))]; rfl)]
  have m5 := m4.app x
  generalize M4 ++ [x] = M5 at m5
  have ks := kvs_sorted (s := s4) b4.s4 m5.dic (by have := H.len; omega) H.srt
  have ln : ((os.map (·.nm)).map PyData.str).length = os.length := by rw [List.length_map, List.length_map]
  obtain ⟨dn, M6, hdn, d6, o6⟩ := pickJ (ds := (os.map (·.nm)).map .str) m5.pool b4.s1 ks (by omega) (by have := H.len; omega)
  have m6 := m5.only o6
  obtain ⟨nm, hnm, rfl⟩ := List.mem_map.mp hdn
  obtain ⟨o, ho, rfl⟩ := List.mem_map.mp hnm
  rw [seq_nx (set_ok d6)]
  obtain ⟨s5, hs5⟩ : ∃ s5, s5 = s4.set 8 (some (.d (.str o.nm))) := ⟨_, rfl⟩
  rw [← hs5]
  have b5 : SB s5 := by rw [hs5]; exact b4.set (by decide) _
  have u8 : s5[8]? = some (some (.d (.str o.nm))) := by rw [hs5]; exact b4.at (by decide) _
  have u10 : s5[10]? = some (some (.d (.int (a - 1)))) := by rw [hs5]; exact has_set t10 (by decide)
  have u12 : s5[12]? = some (some (.d (.int (many : Int)))) := by rw [hs5]; exact has_set t12 (by decide)
  have u13 : s5[13]? = some (some (.d (.list (B.map pairD)))) := by rw [hs5]; exact has_set t13 (by decide)
  obtain ⟨day, M7, d7, y0, y1, o7⟩ := drawJ (m := 30) m6.pool b5.s1 (by decide) (by decide)
  have m7 := m6.only o7
  rw [seq_nx (set_ok d7)]
  obtain ⟨s6, hs6⟩ : ∃ s6, s6 = s5.set 15 (some (.d (.int day))) := ⟨_, rfl⟩
  rw [← hs6]
  have b6 : SB s6 := by rw [hs6]; exact b5.set (by decide) _
  have w8 : s6[8]? = some (some (.d (.str o.nm))) := by rw [hs6]; exact has_set u8 (by decide)
  have w10 : s6[10]? = some (some (.d (.int (a - 1)))) := by rw [hs6]; exact has_set u10 (by decide)
  have w12 : s6[12]? = some (some (.d (.int (many : Int)))) := by rw [hs6]; exact has_set u12 (by decide)
  have w13 : s6[13]? = some (some (.d (.list (B.map pairD)))) := by rw [hs6]; exact has_set u13 (by decide)
  have w15 : s6[15]? = some (some (.d (.int day))) := by rw [hs6]; exact b5.at (by decide) _
  obtain ⟨M8, j8, f8, st8, len8, keep8⟩ := end_ok m7.stg ho (H.ok o ho) H.nd (by have := H.len; omega) (fun p hp => shaped_str (H.sok hp)) y0 (by omega)
  have en : pMeth C "end" (f_Standing_end C) [] (pVar 3) (pCons (pVar 8) (pCons (pVar 15) (pNil))) s6 M7 = .ok (.d .none) M8 := meth_ok (var_ok b6.s3) (noAtt_of m7.stg.ins (look1 (by decide +kernel))) (cons_ok (var_ok w8) (cons_ok (var_ok w15) nil_ok)) f8
  rw [seq_nx (drop_ok en)]
  have c8 := lc2_ok (C := C) (M := M8) b6 w13 w8 w15 Blen ⟨H.sok ho, Bso⟩
  rw [seq_nx (set_ok c8)]
  obtain ⟨L, hL⟩ : ∃ L, L = B.filter (keepP o.nm day) := ⟨_, rfl⟩
  rw [← hL]
  obtain ⟨s7, hs7⟩ : ∃ s7, s7 = s6.set 16 (some (.d (.list (L.map pairD)))) := ⟨_, rfl⟩
  rw [← hs7]
  have b7 : SB s7 := by rw [hs7]; exact b6.set (by decide) _
  have z10 : s7[10]? = some (some (.d (.int (a - 1)))) := by rw [hs7]; exact has_set w10 (by decide)
  have z12 : s7[12]? = some (some (.d (.int (many : Int)))) := by rw [hs7]; exact has_set w12 (by decide)
  have z16 : s7[16]? = some (some (.d (.list (L.map pairD)))) := by rw [hs7]; exact b6.at (by decide) _
  have Eok := end_oks (day := day) H.ok ho (by omega)
  have Esub := end_names (os := os) (o := o) (day := day)
  have Eup : upS (endOs o day os) := H.up.sublist Esub
  have Elen : (endOs o day os).length ≤ 3 := by
    have z := Esub.length_le
    rw [List.length_map, List.length_map] at z
    have := H.len
    omega
  have Lmem : ∀ p : Pr, p ∈ L ↔ ∃ q ∈ endOs o day os, q.nm = p.2 ∧ isDay q.f q.e q.tp p.1 = true ∧ a - 1 < p.1 ∧ p.1 < a - 1 + 150 := fun p => by
    have em := end_mem ho H.ok H.nd (day := day) (by omega) p.2 p.1
    have kp : keepP o.nm day p = true ↔ (p.2 ≠ o.nm ∨ p.1 ≤ day) := by
      unfold keepP
      rw [Bool.or_eq_true, decide_eq_true_eq, decide_eq_true_eq]
    rw [hL, List.mem_filter, Bmem, kp]
    constructor
    · rintro ⟨⟨q, hq, h1, h2, h3, h4⟩, h5⟩
      obtain ⟨r, hr, g1, g2⟩ := em.mpr ⟨⟨q, hq, h1, h2⟩, h5⟩
      exact ⟨r, hr, g1, g2, h3, h4⟩
    · rintro ⟨r, hr, g1, g2, h3, h4⟩
      obtain ⟨⟨q, hq, h1, h2⟩, h5⟩ := em.mp ⟨r, hr, g1, g2⟩
      exact ⟨⟨q, hq, h1, h2, h3, h4⟩, h5⟩
  obtain ⟨x9, c9⟩ := coming_call b7.s3 st8 Eok Eup Elen hm z10 z12
  rw [coming_eq Eok (upS_nodup Eup) (by rw [hL]; exact Bpw.sublist List.filter_sublist) hm (by omega) Lmem] at c9
  rw [seq_nx (s' := s7) (M' := M8 ++ [x9]) (by rw [if_ff (same_true c9 (slice_ok z16 z12) (pairs_same hm fun p hp => Bso p (by rw [hL] at hp; exact (List.mem_filter.mp hp).1)))]; rfl)]
  generalize M8 ++ [x9] = M9
  have n1' : pCallQ q_next_day [] (pCons (pTup (pCons (pVar 2) (pCons (pC (.int 99999)) (pCons (pC (.int 1)) (pCons (pC .none) (pNil)))))) (pCons (pC (.int 99999)) (pNil))) s7 M9 = .ok (.d (.int 100000)) M9 := by
    rw [call_data (ds := [.tuple [rows0, .int 99999, .int 1, .none], .int 99999]) (cons_ok (far_tup b7.s2) (cons_ok rfl nil_ok)), far1]
    rfl
  have n2' : pCallQ q_next_day [] (pCons (pTup (pCons (pVar 2) (pCons (pC (.int 99999)) (pCons (pC (.int 1)) (pCons (pC .none) (pNil)))))) (pCons (pC (.int 100000)) (pNil))) s7 M9 = .ok (.d .none) M9 := by
    rw [call_data (ds := [.tuple [rows0, .int 99999, .int 1, .none], .int 100000]) (cons_ok (far_tup b7.s2) (cons_ok rfl nil_ok)), far2]
    rfl
  rw [seq_nx (s' := s7) (M' := M9) (by
    rw [if_ff (M' := M9) (by
      rw [or_ff (M' := M9) (by
        refine pB_ok ?_
        rw [op_ok n1' (y := .d (.int 100000)) (M'' := M9) rfl]
        simp [gNeD, view, shaped_int, eqv_int])]
      refine pB_ok ?_
      rw [op_ok n2' (y := .d .none) (M'' := M9) rfl]
      rfl)]
    rfl)]
  have w1 : pItL (pDat (pLst (pCons (pTup (pNil)) (pCons (pTup (pCons (pTup (pCons (pC (.str "a.a")) (pCons (pC (.int 5)) (pNil)))) (pNil))) (pCons (pTup (pCons (pTup (pCons (pC (.str "a")) (pCons (pNeg (pC (.int 5))) (pNil)))) (pCons (pTup (pCons (pC (.str "a.b")) (pCons (pC (.int 5)) (pNil)))) (pNil)))) (pCons (pTup (pCons (pTup (pCons (pC (.str "a.a")) (pCons (pNeg (pC (.int 5))) (pNil)))) (pCons (pTup (pCons (pC (.str "a.a")) (pCons (pC (.int 5)) (pNil)))) (pNil)))) (pCons (pOp gCatT (pVar 2) (pTup (pCons (pC (.int 5)) (pNil)))) (pNil)))))))) s7 M9 = .ok (wrongs.map W.d) M9 := by
    have tp : ∀ (x : Str) (p : PEx) (n : Int), (p s7 M9 = .ok (.d (.int n)) M9) → pTup (pCons (pC (.str x)) (pCons p (pNil))) s7 M9 = .ok (.d (.tuple [.str x, .int n])) M9 := fun x p n h => tup_ok (ds := [.str x, .int n]) (cons_ok rfl (cons_ok h nil_ok)) (by show 2 ≤ 1000; decide)
    have n5 : pNeg (pC (.int 5)) s7 M9 = .ok (.d (.int (-5))) M9 := rfl
    have c5 : pC (.int 5) s7 M9 = .ok (.d (.int 5)) M9 := rfl
    have g1 : pTup (pNil) s7 M9 = .ok (.d (.tuple [])) M9 := tup_ok (ds := []) nil_ok (by show 0 ≤ 1000; decide)
    have g2 : pTup (pCons (pTup (pCons (pC (.str "a.a")) (pCons (pC (.int 5)) (pNil)))) (pNil)) s7 M9 = .ok (.d (.tuple [.tuple [.str "a.a", .int 5]])) M9 := tup_ok (ds := [.tuple [.str "a.a", .int 5]]) (cons_ok (tp _ _ _ c5) nil_ok) (by show 1 ≤ 1000; decide)
    have g3 : ∀ x y : Str, pTup (pCons (pTup (pCons (pC (.str x)) (pCons (pNeg (pC (.int 5))) (pNil)))) (pCons (pTup (pCons (pC (.str y)) (pCons (pC (.int 5)) (pNil)))) (pNil))) s7 M9 = .ok (.d (.tuple [.tuple [.str x, .int (-5)], .tuple [.str y, .int 5]])) M9 := fun x y => tup_ok (ds := [.tuple [.str x, .int (-5)], .tuple [.str y, .int 5]]) (cons_ok (tp _ _ _ n5) (cons_ok (tp _ _ _ c5) nil_ok)) (by show 2 ≤ 1000; decide)
    have g4 : pOp gCatT (pVar 2) (pTup (pCons (pC (.int 5)) (pNil))) s7 M9 = .ok (.d (.tuple [.tuple [.str "a.a", .int (-5)], .tuple [.str "a.b", .int 5], .int 5])) M9 := by
      rw [op_ok (var_ok b7.s2) (tup_ok (ds := [.int 5]) (cons_ok c5 nil_ok) (by show 1 ≤ 1000; decide))]
      unfold rows0 gCatT
      simp only
      rw [if_pos ⟨by simp, by show 3 ≤ _; decide⟩]
      rfl
    unfold pItL
    rw [dat_ok (ds := wrongs) (lst_ok (cons_ok g1 (cons_ok g2 (cons_ok (g3 _ _) (cons_ok (g3 _ _) (cons_ok g4 nil_ok))))) (by show 5 ≤ 1000; decide)) (allD_map wrongs)]
    rfl
  obtain ⟨s8, e8, b8⟩ := paper_loop (C := C) (M := M9) b7
  rw [seq_nx ((for_ok w1).trans e8)]
  have w2 : pItL (pDat (pLst (pCons (pTup (pCons (pNeg (pC (.int 1))) (pCons (pC (.int 1)) (pCons (pC .none) (pNil))))) (pCons (pTup (pCons (pC (.bool true)) (pCons (pC (.int 1)) (pCons (pC .none) (pNil))))) (pCons (pTup (pCons (pC (.int 0)) (pCons (pC (.int 0)) (pCons (pC .none) (pNil))))) (pCons (pTup (pCons (pC (.int 0)) (pCons (pC (.int 1001)) (pCons (pC .none) (pNil))))) (pCons (pTup (pCons (pC (.int 7)) (pCons (pC (.int 1)) (pCons (pC (.int 6)) (pNil))))) (pCons (pTup (pCons (pC (.int 0)) (pCons (pC (.int 1)) (pCons (pC (.int 100001)) (pNil))))) (pNil))))))))) s8 M9 = .ok (numW.map fun t => W.d (.tuple [t.1, t.2.1, t.2.2])) M9 := by
    have tp : ∀ (p : PEx) (x y z : PyData), (p s8 M9 = .ok (.d x) M9) → pTup (pCons p (pCons (pC y) (pCons (pC z) (pNil)))) s8 M9 = .ok (.d (.tuple [x, y, z])) M9 := fun p x y z h => tup_ok (ds := [x, y, z]) (cons_ok h (cons_ok rfl (cons_ok rfl nil_ok))) (by show 3 ≤ 1000; decide)
    unfold pItL
    have hw := dat_ok (ds := [.tuple [.int (-1), .int 1, .none], .tuple [.bool true, .int 1, .none], .tuple [.int 0, .int 0, .none], .tuple [.int 0, .int 1001, .none], .tuple [.int 7, .int 1, .int 6], .tuple [.int 0, .int 1, .int 100001]]) (lst_ok (cons_ok (tp (pNeg (pC (.int 1))) (.int (-1)) (.int 1) (.none) rfl) (cons_ok (tp (pC (.bool true)) (.bool true) (.int 1) (.none) rfl) (cons_ok (tp (pC (.int 0)) (.int 0) (.int 0) (.none) rfl) (cons_ok (tp (pC (.int 0)) (.int 0) (.int 1001) (.none) rfl) (cons_ok (tp (pC (.int 7)) (.int 7) (.int 1) (.int 6) rfl) (cons_ok (tp (pC (.int 0)) (.int 0) (.int 1) (.int 100001) rfl) nil_ok)))))) (by show 6 ≤ 1000; decide)) rfl
    rw [hw]
    rfl
  obtain ⟨s9, e9, b9⟩ := num_loop (C := C) (M := M9) b8
  rw [seq_nx ((for_ok w2).trans e9)]
  exact ⟨M9, rfl⟩
theorem law_true : ∀ (C : Addr) (ns : List Int), ns.length ≤ 63 → ∃ m, b_law C law0 [poolM ns 0 0 0 0] = .rt (.d (.bool true)) m := fun C ns _ => law_true_at C ns
end Z

set_option linter.all false
set_option autoImplicit false
set_option maxRecDepth 100000
set_option maxHeartbeats 4000000
namespace Z
open PySem PySem.Spec PyProof.Rows L2 L2H
def top (i : Nat) : Stmt := PySem.Challenge.pw_desksagree_k93_days_of_orders.main.body.getD i (.Pass ⟨0, 0, 0, 0⟩)
structure Txt (K : PySem.W.Frag) (mg : Str → Option Value) (C_Standing : Addr) (C_DeskError : Addr) (C_InvalidNumber : Addr) (C_InvalidPaper : Addr) : Prop where
  n_ValueError : mg "ValueError" = none
  n_abs : mg "abs" = none
  n_bool : mg "bool" = none
  c_AMOUNT : ∃ t, mg "AMOUNT" = some (.int 1000000000 t)
  c_DAYS : ∃ t, mg "DAYS" = some (.int 100000 t)
  c_LETTERS : ∃ t, mg "LETTERS" = some (.str "abcdefghijklmnopqrstuvwxyz" t)
  c_LONGEST : ∃ t, mg "LONGEST" = some (.int 12 t)
  c_MOST_standing : ∃ t, mg "MOST_standing" = some (.int 40 t)
  c_ROWS : ∃ t, mg "ROWS" = some (.int 12 t)
  na_Standing__orders : NoAttr K C_Standing "_orders"
  n_int : mg "int" = none
  n_isinstance : mg "isinstance" = none
  cl_Standing : Cls K C_Standing
  g_Standing : mg "Standing" = some (.ref C_Standing)
  n_len : mg "len" = none
  n_list : mg "list" = none
  n_min : mg "min" = none
  n_range : mg "range" = none
  n_sorted : mg "sorted" = none
  n_str : mg "str" = none
  n_tuple : mg "tuple" = none
  x_InvalidNumber : ExcCl K mg "InvalidNumber"
  x_InvalidPaper : ExcCl K mg "InvalidPaper"
  d_is_name : DefAt K mg "is_name" (top 13) ["word"]
  d_checked_name : DefAt K mg "checked_name" (top 14) ["word"]
  d_is_number : DefAtD K mg "is_number" (top 15) ["value", "least", "most"]
  d_is_amount : DefAt K mg "is_amount" (top 17) ["value"]
  d_is_account : DefAt K mg "is_account" (top 29) ["word"]
  d_is_rows : DefAt K mg "is_rows" (top 33) ["rows"]
  d_checked_order : DefAt K mg "checked_order" (top 49) ["rows", "first", "every", "last"]
  d_days_of : DefAt K mg "days_of" (top 50) ["order", "upto"]
  d_next_day : DefAt K mg "next_day" (top 51) ["order", "after"]
  d_Standing_init : MakeAt K C_Standing "Standing.__init__" (inClass (top 53) 0) ["self"]
  d_Standing_names : MethAt K C_Standing "names" "Standing.names" (inClass (top 53) 3) ["self"]
  d_Standing_order : MethAt K C_Standing "order" "Standing.order" (inClass (top 53) 4) ["self", "name"]
  d_Standing_add : MethAt K C_Standing "add" "Standing.add" (inClass (top 53) 1) ["self", "name", "rows", "first", "every", "last"]
  d_Standing_end : MethAt K C_Standing "end" "Standing.end" (inClass (top 53) 2) ["self", "name", "day"]
  d_Standing_coming : MethAt K C_Standing "coming" "Standing.coming" (inClass (top 53) 7) ["self", "after", "many"]
  d__law_same : DefAt K mg "_law_same" (top 55) ["actual", "due"]
  d__law_pool : DefAt K mg "_law_pool" (top 56) ["script"]
  d__law_draw : DefAt K mg "_law_draw" (top 57) ["pool", "many"]
  d__law_pick : DefAt K mg "_law_pick" (top 58) ["pool", "rows"]
  d__law_refusal : DefAt K mg "_law_refusal" (top 59) ["problem"]
  d__law_is_day : DefAt K mg "_law_is_day" (top 60) ["order", "day"]
  d__law_refused : DefAt K mg "_law_refused" (top 61) ["rows", "first", "every", "last"]
  d_law : DefAt K mg "law" (top 62) ["script"]
  cat : ∀ y b, catK y = some b → ∃ cv, mg y = some cv ∧ PySem.W.exmOne K cv (.ref C_DeskError) = some b
  g_DeskError : mg "DeskError" = some (.ref C_DeskError)
  g_InvalidNumber : mg "InvalidNumber" = some (.ref C_InvalidNumber)
  g_InvalidPaper : mg "InvalidPaper" = some (.ref C_InvalidPaper)
  e_InvalidNumber : ExcC K C_InvalidNumber
  e_InvalidPaper : ExcC K C_InvalidPaper
  k_NN : PySem.W.kitOne K (.ref C_InvalidNumber) (.ref C_InvalidNumber) = some true
  k_NP : PySem.W.kitOne K (.ref C_InvalidNumber) (.ref C_InvalidPaper) = some false
  k_PN : PySem.W.kitOne K (.ref C_InvalidPaper) (.ref C_InvalidNumber) = some false
  k_PP : PySem.W.kitOne K (.ref C_InvalidPaper) (.ref C_InvalidPaper) = some true
  k_NV : PySem.W.kitOne K (.ref C_InvalidNumber) (.type "ValueError") = some true
  k_PV : PySem.W.kitOne K (.ref C_InvalidPaper) (.type "ValueError") = some true
section
variable {P : Program} {w : World} {K : PySem.W.Frag} {mg : Str → Option Value} {base : Heap} {C_Standing C_DeskError C_InvalidNumber C_InvalidPaper : Addr}
abbrev s_is_name : Stmt := top 13
theorem sc_is_name : FnScope N_is_name ["word"] (defScope s_is_name) := ⟨rfl, rfl, rfl, by decide +kernel, rfl, by decide +kernel, by decide +kernel⟩
theorem ok0_is_name (T : Txt K mg C_Standing C_DeskError C_InvalidNumber C_InvalidPaper) : IsFn P w K mg base 1 "is_name" ["word"] [] (f0_is_name) := T.d_is_name.fn (k := 0) (b := b_is_name) sc_is_name fun f cdv A outer s H E b =>
    jss_cons (js_if (jt_w (jw_or (jt_not (jt_tru (je_callB call_isi s_isi T.n_isinstance (by decide +kernel) (ja_cons (je_var 0) (ja_cons (je_bty T.n_str) ja_nil))))) (jw_or1 (jt_not (jt_chain op_le s_leI op_le s_leI (je_int) (je_callB call_len s_len T.n_len (by decide +kernel) (ja_cons (je_var 0) (ja_nil))) (je_gintE T.c_LONGEST)))))) (jss_one (js_ret (je_bl))) (jss_nil))
    (jss_cons (js_for b.hp rfl (ji_str (je_var 0)) (jg_name sc_is_name.nd) (jss_one (js_if (jt_cmp op_notin_str s_ninS (je_var 1) (je_gstrE T.c_LETTERS)) (jss_one (js_ret (je_bl))) (jss_nil))))
    (jss_one (js_ret (je_bl))))
theorem ok_is_name (T : Txt K mg C_Standing C_DeskError C_InvalidNumber C_InvalidPaper) : IsPure P w K mg base 1 "is_name" ["word"] [] q_is_name := (ok0_is_name T).pure (pure_is_name)
abbrev s_checked_name : Stmt := top 14
theorem sc_checked_name : FnScope N_checked_name ["word"] (defScope s_checked_name) := ⟨rfl, rfl, rfl, by decide +kernel, rfl, by decide +kernel, by decide +kernel⟩
theorem ok0_checked_name (T : Txt K mg C_Standing C_DeskError C_InvalidNumber C_InvalidPaper) : IsFn P w K mg base 2 "checked_name" ["word"] [] (f0_checked_name) := T.d_checked_name.fn (k := 1) (b := b_checked_name) sc_checked_name fun f cdv A outer s H E b =>
    jss_cons (js_if (jt_not (jt_tru (je_callQ (ok_is_name T) (b.hr.mono (by decide)) b.hx (ja_cons (je_var 0) (ja_nil))))) (jss_one (js_never _)) (jss_nil))
    (jss_one (js_ret (je_var 0)))
theorem ok_checked_name (T : Txt K mg C_Standing C_DeskError C_InvalidNumber C_InvalidPaper) : IsPure P w K mg base 2 "checked_name" ["word"] [] q_checked_name := (ok0_checked_name T).pure (pure_checked_name)
abbrev s_is_number : Stmt := top 15
theorem sc_is_number : FnScope N_is_number ["value", "least", "most"] (defScope s_is_number) := ⟨rfl, rfl, rfl, by decide +kernel, rfl, by decide +kernel, by decide +kernel⟩
theorem ok0_is_number (T : Txt K mg C_Standing C_DeskError C_InvalidNumber C_InvalidPaper) : IsFn P w K mg base 1 "is_number" ["value", "least", "most"] [] (f0_is_number) := T.d_is_number.fn (k := 0) (b := b_is_number) sc_is_number fun f cdv A outer s H E b =>
    jss_cons (js_if (jt_w (jw_or (jt_tru (je_callB call_isi s_isi T.n_isinstance (by decide +kernel) (ja_cons (je_var 0) (ja_cons (je_bty T.n_bool) ja_nil)))) (jw_or1 (jt_not (jt_tru (je_callB call_isi s_isi T.n_isinstance (by decide +kernel) (ja_cons (je_var 0) (ja_cons (je_bty T.n_int) ja_nil)))))))) (jss_one (js_ret (je_bl))) (jss_nil))
    (jss_one (js_ret (je_chain op_le s_leI op_le s_leI (je_var 1) (je_var 0) (je_var 2))))
theorem ok_is_number (T : Txt K mg C_Standing C_DeskError C_InvalidNumber C_InvalidPaper) : IsPure P w K mg base 1 "is_number" ["value", "least", "most"] [] q_is_number := (ok0_is_number T).pure (pure_is_number)
abbrev s_is_amount : Stmt := top 17
theorem sc_is_amount : FnScope N_is_amount ["value"] (defScope s_is_amount) := ⟨rfl, rfl, rfl, by decide +kernel, rfl, by decide +kernel, by decide +kernel⟩
theorem ok0_is_amount (T : Txt K mg C_Standing C_DeskError C_InvalidNumber C_InvalidPaper) : IsFn P w K mg base 2 "is_amount" ["value"] [] (f0_is_amount) := T.d_is_amount.fn (k := 1) (b := b_is_amount) sc_is_amount fun f cdv A outer s H E b =>
    jss_one (js_ret (je_callQ (ok_is_number T) (b.hr.mono (by decide)) b.hx (ja_cons (je_var 0) (ja_cons (je_neg (je_gintE T.c_AMOUNT)) (ja_cons (je_gintE T.c_AMOUNT) (ja_nil))))))
theorem ok_is_amount (T : Txt K mg C_Standing C_DeskError C_InvalidNumber C_InvalidPaper) : IsPure P w K mg base 2 "is_amount" ["value"] [] q_is_amount := (ok0_is_amount T).pure (pure_is_amount)
abbrev s_is_account : Stmt := top 29
theorem sc_is_account : FnScope N_is_account ["word"] (defScope s_is_account) := ⟨rfl, rfl, rfl, by decide +kernel, rfl, by decide +kernel, by decide +kernel⟩
theorem ok0_is_account (T : Txt K mg C_Standing C_DeskError C_InvalidNumber C_InvalidPaper) : IsFn P w K mg base 2 "is_account" ["word"] [] (f0_is_account) := T.d_is_account.fn (k := 1) (b := b_is_account) sc_is_account fun f cdv A outer s H E b =>
    jss_cons (js_if (jt_not (jt_tru (je_callB call_isi s_isi T.n_isinstance (by decide +kernel) (ja_cons (je_var 0) (ja_cons (je_bty T.n_str) ja_nil))))) (jss_one (js_ret (je_bl))) (jss_nil))
    (jss_cons (js_set (i := 1) sc_is_account.nd (je_dat (jl_split (je_var 0) (je_str))))
    (jss_one (js_ret (je_and (je_cmp (op_eqD (hu64 b.hr)) s_eqD (je_callB call_len s_len T.n_len (by decide +kernel) (ja_cons (je_var 1) (ja_nil))) (je_int)) (je_and (je_callQ (ok_is_name T) (b.hr.mono (by decide)) b.hx (ja_cons (je_ix (je_var 1) (je_int)) (ja_nil))) (je_and1 (je_callQ (ok_is_name T) (b.hr.mono (by decide)) b.hx (ja_cons (je_ix (je_var 1) (je_int)) (ja_nil)))))))))
theorem ok_is_account (T : Txt K mg C_Standing C_DeskError C_InvalidNumber C_InvalidPaper) : IsPure P w K mg base 2 "is_account" ["word"] [] q_is_account := (ok0_is_account T).pure (pure_is_account)
abbrev s_is_rows : Stmt := top 33
theorem sc_is_rows : FnScope N_is_rows ["rows"] (defScope s_is_rows) := ⟨rfl, rfl, rfl, by decide +kernel, rfl, by decide +kernel, by decide +kernel⟩
theorem ok0_is_rows (T : Txt K mg C_Standing C_DeskError C_InvalidNumber C_InvalidPaper) : IsFn P w K mg base 3 "is_rows" ["rows"] [] (f0_is_rows) := T.d_is_rows.fn (k := 2) (b := b_is_rows) sc_is_rows fun f cdv A outer s H E b =>
    jss_cons (js_if (jt_w (jw_or (jt_not (jt_tru (je_callB call_isi s_isi T.n_isinstance (by decide +kernel) (ja_cons (je_var 0) (ja_cons (je_bty T.n_tuple) ja_nil))))) (jw_or1 (jt_not (jt_chain op_le s_leI op_le s_leI (je_int) (je_callB call_len s_len T.n_len (by decide +kernel) (ja_cons (je_var 0) (ja_nil))) (je_gintE T.c_ROWS)))))) (jss_one (js_ret (je_bl))) (jss_nil))
    (jss_cons (js_if (jt_tru (je_dat (jl_lc (own := [("row", 2)]) rfl sc_is_rows.nd (ji_tup (je_var 0)) (blkOk_by (N := N_is_rows) (sc := (defScope s_is_rows)) (by decide +kernel)) (fun _ _ _ _ _ => jg_name sc_is_rows.nd) (fun _ _ _ _ _ => jts_one (jt_w (jw_or (jt_not (jt_tru (je_callB call_isi s_isi T.n_isinstance (by decide +kernel) (ja_cons (je_var 2) (ja_cons (je_bty T.n_tuple) ja_nil))))) (jw_or1 (jt_cmp (op_neD (hu64 b.hr)) s_neD (je_callB call_len s_len T.n_len (by decide +kernel) (ja_cons (je_var 2) (ja_nil))) (je_int)))))) (fun _ _ _ _ _ => je_var 2)))) (jss_one (js_ret (je_bl))) (jss_nil))
    (jss_cons (js_setLc (i := 1) (own := [("row", 2)]) rfl sc_is_rows.nd (ji_tup (je_var 0)) (blkOk_by (N := N_is_rows) (sc := (defScope s_is_rows)) (by decide +kernel)) (fun _ _ _ _ _ => jg_name sc_is_rows.nd) (fun _ _ _ _ _ => jts_nil) (fun _ _ _ _ _ => je_ix (je_var 2) (je_int)))
    (jss_cons (js_if (jt_w (jw_or (jt_tru (je_dat (jl_lc (own := [("name", 3)]) rfl sc_is_rows.nd (ji_list (je_var 1)) (blkOk_by (N := N_is_rows) (sc := (defScope s_is_rows)) (by decide +kernel)) (fun _ _ _ _ _ => jg_name sc_is_rows.nd) (fun _ _ _ _ _ => jts_one (jt_not (jt_tru (je_callQ (ok_is_account T) (b.hr.mono (by decide)) (fun _ => pass0) (ja_cons (je_var 3) (ja_nil)))))) (fun _ _ _ _ _ => je_var 3)))) (jw_or1 (jt_cmp (op_neD (hu64 b.hr)) s_neD (je_var 1) (je_dat (jl_sortSc rfl sc_is_rows.nd (hu64 b.hr) T.n_sorted (own := [("name", 3)]) (ji_list (je_var 1)) (blkOk_by (N := N_is_rows) (sc := (defScope s_is_rows)) (by decide +kernel)) (fun _ _ _ _ _ => jg_name sc_is_rows.nd) (fun _ _ _ _ _ => jts_nil) (fun _ _ _ _ _ => je_var 3))))))) (jss_one (js_ret (je_bl))) (jss_nil))
    (jss_one (js_ret (je_not (je_dat (jl_lc (own := [("account", 4), ("amount", 5)]) rfl sc_is_rows.nd (ji_tup (je_var 0)) (blkOk_by (N := N_is_rows) (sc := (defScope s_is_rows)) (by decide +kernel)) (fun _ _ _ _ _ => jg_tup rfl (jgs_cons (jg_name sc_is_rows.nd) (jgs_cons (jg_name sc_is_rows.nd) (jgs_nil)))) (fun _ _ _ _ _ => jts_one (jt_w (jw_or (jt_not (jt_tru (je_callQ (ok_is_amount T) (b.hr.mono (by decide)) (fun _ => pass0) (ja_cons (je_var 5) (ja_nil))))) (jw_or1 (jt_cmp (op_eqD (hu64 b.hr)) s_eqD (je_var 5) (je_int)))))) (fun _ _ _ _ _ => je_var 5)))))))))
theorem ok_is_rows (T : Txt K mg C_Standing C_DeskError C_InvalidNumber C_InvalidPaper) : IsPure P w K mg base 3 "is_rows" ["rows"] [] q_is_rows := (ok0_is_rows T).pure (pure_is_rows)
abbrev s_checked_order : Stmt := top 49
theorem sc_checked_order : FnScope N_checked_order ["rows", "first", "every", "last"] (defScope s_checked_order) := ⟨rfl, rfl, rfl, by decide +kernel, rfl, by decide +kernel, by decide +kernel⟩
theorem ok0_checked_order (T : Txt K mg C_Standing C_DeskError C_InvalidNumber C_InvalidPaper) : IsFn P w K mg base 4 "checked_order" ["rows", "first", "every", "last"] [] (f0_checked_order) := T.d_checked_order.fn (k := 3) (b := b_checked_order) sc_checked_order fun f cdv A outer s H E b =>
    jss_cons (js_if (jt_not (jt_tru (je_callQ (ok_is_rows T) (b.hr.mono (by decide)) b.hx (ja_cons (je_var 0) (ja_nil))))) (jss_one (js_raise rfl b.tk T.x_InvalidPaper)) (jss_nil))
    (jss_cons (js_if (jt_w (jw_or (jt_not (jt_tru (je_callQ (ok_is_number T) (b.hr.mono (by decide)) b.hx (ja_cons (je_var 1) (ja_cons (je_int) (ja_cons (je_gintE T.c_DAYS) (ja_nil))))))) (jw_or1 (jt_not (jt_tru (je_callQ (ok_is_number T) (b.hr.mono (by decide)) b.hx (ja_cons (je_var 2) (ja_cons (je_int) (ja_cons (je_int) (ja_nil)))))))))) (jss_one (js_raise rfl b.tk T.x_InvalidNumber)) (jss_nil))
    (jss_cons (js_if (jt_w (jw_and (jt_cmp op_notN s_isNn (je_var 3) (je_non)) (jw_and1 (jt_not (jt_tru (je_callQ (ok_is_number T) (b.hr.mono (by decide)) b.hx (ja_cons (je_var 3) (ja_cons (je_var 1) (ja_cons (je_gintE T.c_DAYS) (ja_nil)))))))))) (jss_one (js_raise rfl b.tk T.x_InvalidNumber)) (jss_nil))
    (jss_one (js_ret (je_tup (ja_cons (je_var 0) (ja_cons (je_var 1) (ja_cons (je_var 2) (ja_cons (je_var 3) (ja_nil))))))))))
theorem ok_checked_order (T : Txt K mg C_Standing C_DeskError C_InvalidNumber C_InvalidPaper) : IsPure P w K mg base 4 "checked_order" ["rows", "first", "every", "last"] [] q_checked_order := (ok0_checked_order T).pure (pure_checked_order)
abbrev s_days_of : Stmt := top 50
theorem sc_days_of : FnScope N_days_of ["order", "upto"] (defScope s_days_of) := ⟨rfl, rfl, rfl, by decide +kernel, rfl, by decide +kernel, by decide +kernel⟩
theorem ok0_days_of (T : Txt K mg C_Standing C_DeskError C_InvalidNumber C_InvalidPaper) : IsFn P w K mg base 1 "days_of" ["order", "upto"] [] (f0_days_of) := T.d_days_of.fn (k := 0) (b := b_days_of) sc_days_of fun f cdv A outer s H E b =>
    jss_cons (js_asg (je_var 0) (jg_tup rfl (jgs_cons (jg_name sc_days_of.nd) (jgs_cons (jg_name sc_days_of.nd) (jgs_cons (jg_name sc_days_of.nd) (jgs_cons (jg_name sc_days_of.nd) (jgs_nil)))))))
    (jss_cons (js_set (i := 6) sc_days_of.nd (je_if (jt_cmp op_isN s_isN (je_var 5) (je_non)) (je_var 1) (je_callB (call_min2 rfl) s_min2 T.n_min (by decide +kernel) (ja_cons (je_var 1) (ja_cons (je_var 5) (ja_nil))))))
    (jss_one (js_ret (je_dat (jl_listRg3 rfl T.n_list T.n_range (ja_cons (je_var 3) (ja_cons (je_op op_add s_addI (je_var 6) (je_int)) (ja_cons (je_var 4) (ja_nil)))))))))
theorem ok_days_of (T : Txt K mg C_Standing C_DeskError C_InvalidNumber C_InvalidPaper) : IsPure P w K mg base 1 "days_of" ["order", "upto"] [] q_days_of := (ok0_days_of T).pure (pure_days_of)
abbrev s_next_day : Stmt := top 51
theorem sc_next_day : FnScope N_next_day ["order", "after"] (defScope s_next_day) := ⟨rfl, rfl, rfl, by decide +kernel, rfl, by decide +kernel, by decide +kernel⟩
theorem ok0_next_day (T : Txt K mg C_Standing C_DeskError C_InvalidNumber C_InvalidPaper) : IsFn P w K mg base 1 "next_day" ["order", "after"] [] (f0_next_day) := T.d_next_day.fn (k := 0) (b := b_next_day) sc_next_day fun f cdv A outer s H E b =>
    jss_cons (js_asg (je_var 0) (jg_tup rfl (jgs_cons (jg_name sc_next_day.nd) (jgs_cons (jg_name sc_next_day.nd) (jgs_cons (jg_name sc_next_day.nd) (jgs_cons (jg_name sc_next_day.nd) (jgs_nil)))))))
    (jss_cons (js_if (jt_cmp op_lt s_ltI (je_var 1) (je_var 3)) (jss_one (js_set (i := 6) sc_next_day.nd (je_var 3))) (jss_one (js_set (i := 6) sc_next_day.nd (je_op op_add s_addI (je_var 3) (je_op op_mul s_mulI (je_op op_add s_addI (je_op op_fdivN s_divI (je_op op_sub s_subI (je_var 1) (je_var 3)) (je_var 4)) (je_int)) (je_var 4))))))
    (jss_one (js_ret (je_if (jt_cmp op_le s_leI (je_var 6) (je_if (jt_cmp op_isN s_isN (je_var 5) (je_non)) (je_gintE T.c_DAYS) (je_var 5))) (je_var 6) (je_non)))))
theorem ok_next_day (T : Txt K mg C_Standing C_DeskError C_InvalidNumber C_InvalidPaper) : IsPure P w K mg base 1 "next_day" ["order", "after"] [] q_next_day := (ok0_next_day T).pure (pure_next_day)
abbrev s_Standing_init : Stmt := inClass (top 53) 0
theorem sc_Standing_init : FnScope N_Standing_init ["self"] (defScope s_Standing_init) := ⟨rfl, rfl, rfl, by decide +kernel, rfl, by decide +kernel, by decide +kernel⟩
theorem ok0_Standing_init (T : Txt K mg C_Standing C_DeskError C_InvalidNumber C_InvalidPaper) : IsMake P w K mg base 1 C_Standing ["self"] (f0_Standing_init C_Standing) := T.d_Standing_init.fn (k := 0) (b := b_Standing_init C_Standing) sc_Standing_init fun f cdv A outer s H E b =>
    jss_one (js_fld T.cl_Standing T.na_Standing__orders (je_var 0) (je_newD))
theorem ok_Standing_init (T : Txt K mg C_Standing C_DeskError C_InvalidNumber C_InvalidPaper) : IsMake P w K mg base 1 C_Standing ["self"] (f_Standing_init C_Standing) := ok0_Standing_init T
abbrev s_Standing_names : Stmt := inClass (top 53) 3
theorem sc_Standing_names : FnScope N_Standing_names ["self"] (defScope s_Standing_names) := ⟨rfl, rfl, rfl, by decide +kernel, rfl, by decide +kernel, by decide +kernel⟩
theorem ok0_Standing_names (T : Txt K mg C_Standing C_DeskError C_InvalidNumber C_InvalidPaper) : IsMeth P w K mg base 1 C_Standing "names" ["self"] (f0_Standing_names C_Standing) := T.d_Standing_names.fn (k := 0) (b := b_Standing_names C_Standing) sc_Standing_names fun f cdv A outer s H E b =>
    jss_one (js_ret (je_dat (jl_callB (call_sortedD rfl) s_sortedK T.n_sorted (by decide +kernel) (ja_cons (je_fld T.cl_Standing T.na_Standing__orders (je_var 0)) (ja_nil)))))
theorem ok_Standing_names (T : Txt K mg C_Standing C_DeskError C_InvalidNumber C_InvalidPaper) : IsMeth P w K mg base 1 C_Standing "names" ["self"] (f_Standing_names C_Standing) := ok0_Standing_names T
abbrev s_Standing_order : Stmt := inClass (top 53) 4
theorem sc_Standing_order : FnScope N_Standing_order ["self", "name"] (defScope s_Standing_order) := ⟨rfl, rfl, rfl, by decide +kernel, rfl, by decide +kernel, by decide +kernel⟩
theorem ok0_Standing_order (T : Txt K mg C_Standing C_DeskError C_InvalidNumber C_InvalidPaper) : IsMeth P w K mg base 1 C_Standing "order" ["self", "name"] (f0_Standing_order C_Standing) := T.d_Standing_order.fn (k := 0) (b := b_Standing_order C_Standing) sc_Standing_order fun f cdv A outer s H E b =>
    jss_cons (js_if (jt_dnin (hu1 b.hr) (je_var 1) (je_fld T.cl_Standing T.na_Standing__orders (je_var 0))) (jss_one (js_never _)) (jss_nil))
    (jss_one (js_ret (je_getD (hu1 b.hr) (je_fld T.cl_Standing T.na_Standing__orders (je_var 0)) (je_var 1))))
theorem ok_Standing_order (T : Txt K mg C_Standing C_DeskError C_InvalidNumber C_InvalidPaper) : IsMeth P w K mg base 1 C_Standing "order" ["self", "name"] (f_Standing_order C_Standing) := ok0_Standing_order T
abbrev s_Standing_add : Stmt := inClass (top 53) 1
theorem sc_Standing_add : FnScope N_Standing_add ["self", "name", "rows", "first", "every", "last"] (defScope s_Standing_add) := ⟨rfl, rfl, rfl, by decide +kernel, rfl, by decide +kernel, by decide +kernel⟩
theorem ok0_Standing_add (T : Txt K mg C_Standing C_DeskError C_InvalidNumber C_InvalidPaper) : IsMeth P w K mg base 5 C_Standing "add" ["self", "name", "rows", "first", "every", "last"] (f0_Standing_add C_Standing) := T.d_Standing_add.fn (k := 4) (b := b_Standing_add C_Standing) sc_Standing_add fun f cdv A outer s H E b =>
    jss_cons (js_expr (je_callQ (ok_checked_name T) (b.hr.mono (by decide)) b.hx (ja_cons (je_var 1) (ja_nil))))
    (jss_cons (js_set (i := 6) sc_Standing_add.nd (je_callQ (ok_checked_order T) (b.hr.mono (by decide)) b.hx (ja_cons (je_var 2) (ja_cons (je_var 3) (ja_cons (je_var 4) (ja_cons (je_var 5) (ja_nil)))))))
    (jss_cons (js_if (jt_w (jw_or (jt_din (hu1 b.hr) (je_var 1) (je_fld T.cl_Standing T.na_Standing__orders (je_var 0))) (jw_or1 (jt_tru (je_dat (jl_lock (pickP (pFld C_Standing "_orders" (pVar 0))) (jl_lc (own := [("one", 7)]) rfl sc_Standing_add.nd (ji_keys (je_fld T.cl_Standing T.na_Standing__orders (je_var 0))) (blkOk_by (N := N_Standing_add) (sc := (defScope s_Standing_add)) (by decide +kernel)) (fun _ _ _ _ _ => jg_name sc_Standing_add.nd) (fun _ _ _ _ _ => jts_one (jt_cmp (op_eqD (hu64 b.hr)) s_eqD (je_ix (je_getD (hu1 b.hr) (je_fld T.cl_Standing T.na_Standing__orders (je_var 0)) (je_var 7)) (je_int)) (je_var 2))) (fun _ _ _ _ _ => je_var 7)))))))) (jss_one (js_never _)) (jss_nil))
    (jss_cons (js_if (jt_cmp op_ge s_geI (je_callB call_lenD s_lenD T.n_len (by decide +kernel) (ja_cons (je_fld T.cl_Standing T.na_Standing__orders (je_var 0)) (ja_nil))) (je_gintE T.c_MOST_standing)) (jss_one (js_never _)) (jss_nil))
    (jss_one (js_putD (hu1 b.hr) (je_var 6) (je_fld T.cl_Standing T.na_Standing__orders (je_var 0)) (je_var 1))))))
theorem ok_Standing_add (T : Txt K mg C_Standing C_DeskError C_InvalidNumber C_InvalidPaper) : IsMeth P w K mg base 5 C_Standing "add" ["self", "name", "rows", "first", "every", "last"] (f_Standing_add C_Standing) := ok0_Standing_add T
abbrev s_Standing_end : Stmt := inClass (top 53) 2
theorem sc_Standing_end : FnScope N_Standing_end ["self", "name", "day"] (defScope s_Standing_end) := ⟨rfl, rfl, rfl, by decide +kernel, rfl, by decide +kernel, by decide +kernel⟩
theorem ok0_Standing_end (T : Txt K mg C_Standing C_DeskError C_InvalidNumber C_InvalidPaper) : IsMeth P w K mg base 2 C_Standing "end" ["self", "name", "day"] (f0_Standing_end C_Standing) := T.d_Standing_end.fn (k := 1) (b := b_Standing_end C_Standing) sc_Standing_end fun f cdv A outer s H E b =>
    jss_cons (js_asg (je_methB T.cl_Standing (ok_Standing_order T) (b.hr.mono (by decide)) b.hx (je_var 0) (ja_cons (je_var 1) (ja_nil))) (jg_tup rfl (jgs_cons (jg_name sc_Standing_end.nd) (jgs_cons (jg_name sc_Standing_end.nd) (jgs_cons (jg_name sc_Standing_end.nd) (jgs_cons (jg_name sc_Standing_end.nd) (jgs_nil)))))))
    (jss_cons (js_if (jt_not (jt_tru (je_callQ (ok_is_number T) (b.hr.mono (by decide)) b.hx (ja_cons (je_var 2) (ja_cons (je_int) (ja_cons (je_gintE T.c_DAYS) (ja_nil))))))) (jss_one (js_raise rfl b.tk T.x_InvalidNumber)) (jss_nil))
    (jss_one (js_if (jt_cmp op_lt s_ltI (je_var 2) (je_var 4)) (jss_one (js_fld T.cl_Standing T.na_Standing__orders (je_var 0) (je_lock (pickP (pFld C_Standing "_orders" (pVar 0))) (je_dc (own := [("one", 7)]) rfl sc_Standing_end.nd (ji_keys (je_fld T.cl_Standing T.na_Standing__orders (je_var 0))) (blkOk_by (N := N_Standing_end) (sc := (defScope s_Standing_end)) (by decide +kernel)) (fun _ _ _ _ _ => jg_name sc_Standing_end.nd) (fun _ _ _ _ _ => jts_one (jt_cmp (op_neD (hu64 b.hr)) s_neD (je_var 7) (je_var 1))) (fun _ _ _ _ _ => je_var 7) (fun _ _ _ _ _ => je_getD (hu1 b.hr) (je_fld T.cl_Standing T.na_Standing__orders (je_var 0)) (je_var 7)))))) (jss_one (js_putD (hu1 b.hr) (je_tup (ja_cons (je_var 3) (ja_cons (je_var 4) (ja_cons (je_var 5) (ja_cons (je_if (jt_cmp op_isN s_isN (je_var 6) (je_non)) (je_var 2) (je_callB (call_min2 rfl) s_min2 T.n_min (by decide +kernel) (ja_cons (je_var 2) (ja_cons (je_var 6) (ja_nil))))) (ja_nil)))))) (je_fld T.cl_Standing T.na_Standing__orders (je_var 0)) (je_var 1))))))
theorem ok_Standing_end (T : Txt K mg C_Standing C_DeskError C_InvalidNumber C_InvalidPaper) : IsMeth P w K mg base 2 C_Standing "end" ["self", "name", "day"] (f_Standing_end C_Standing) := ok0_Standing_end T
abbrev s_Standing_coming : Stmt := inClass (top 53) 7
theorem sc_Standing_coming : FnScope N_Standing_coming ["self", "after", "many"] (defScope s_Standing_coming) := ⟨rfl, rfl, rfl, by decide +kernel, rfl, by decide +kernel, by decide +kernel⟩
theorem ok0_Standing_coming (T : Txt K mg C_Standing C_DeskError C_InvalidNumber C_InvalidPaper) : IsMeth P w K mg base 2 C_Standing "coming" ["self", "after", "many"] (f0_Standing_coming C_Standing) := T.d_Standing_coming.fn (k := 1) (b := b_Standing_coming C_Standing) sc_Standing_coming fun f cdv A outer s H E b =>
    jss_cons (js_if (jt_not (jt_tru (je_callQ (ok_is_number T) (b.hr.mono (by decide)) b.hx (ja_cons (je_var 2) (ja_cons (je_int) (ja_cons (je_int) (ja_nil))))))) (jss_one (js_raise rfl b.tk T.x_InvalidNumber)) (jss_nil))
    (jss_cons (js_set (i := 3) sc_Standing_coming.nd (je_mut (jl_lst (ja_nil))))
    (jss_cons (js_for b.hp rfl (ji_list (je_methB0 T.cl_Standing (ok_Standing_names T) (b.hr.mono (by decide)) b.hx (je_var 0))) (jg_name sc_Standing_coming.nd) (jss_cons (js_set (i := 5) sc_Standing_coming.nd (je_callQ (ok_next_day T) (b.hr.mono (by decide)) b.hx (ja_cons (je_getD (hu1 b.hr) (je_fld T.cl_Standing T.na_Standing__orders (je_var 0)) (je_var 4)) (ja_cons (je_var 1) (ja_nil)))))
    (jss_one (js_for b.hp rfl (ji_rng1 T.n_range (je_var 2)) (jg_name sc_Standing_coming.nd) (jss_one (js_if (jt_cmp op_notN s_isNn (je_var 5) (je_non)) (jss_cons (js_app (je_var 3) (je_tup (ja_cons (je_var 5) (ja_cons (je_var 4) (ja_nil)))))
    (jss_one (js_set (i := 5) sc_Standing_coming.nd (je_callQ (ok_next_day T) (b.hr.mono (by decide)) b.hx (ja_cons (je_getD (hu1 b.hr) (je_fld T.cl_Standing T.na_Standing__orders (je_var 0)) (je_var 4)) (ja_cons (je_var 5) (ja_nil))))))) (jss_nil)))))))
    (jss_one (js_ret (je_dat (jl_slice (je_dat (jl_callB (cr_sortD (hu64 b.hr)) s_sorted T.n_sorted (by decide +kernel) (ja_cons (je_var 3) (ja_nil)))) (jo_none) (jo_some (je_var 2))))))))
theorem ok_Standing_coming (T : Txt K mg C_Standing C_DeskError C_InvalidNumber C_InvalidPaper) : IsMeth P w K mg base 2 C_Standing "coming" ["self", "after", "many"] (f_Standing_coming C_Standing) := ok0_Standing_coming T
abbrev s__law_same : Stmt := top 55
theorem sc__law_same : FnScope N__law_same ["actual", "due"] (defScope s__law_same) := ⟨rfl, rfl, rfl, by decide +kernel, rfl, by decide +kernel, by decide +kernel⟩
theorem ok0__law_same {k : Nat} (T : Txt K mg C_Standing C_DeskError C_InvalidNumber C_InvalidPaper) {rec : List PyData → PR} (ih : IsPure P w K mg base k "_law_same" ["actual", "due"] [] rec) : IsFn P w K mg base (k + 1) "_law_same" ["actual", "due"] [] (f0__law_same rec) := T.d__law_same.fn (k := k) (b := b__law_same rec) sc__law_same fun f cdv A outer s H E b =>
    jss_cons (js_if (jt_cmp op_isN s_isN (je_var 1) (je_non)) (jss_one (js_ret (je_cmp op_isN s_isN (je_var 0) (je_non)))) (jss_nil))
    (jss_cons (js_if (jt_tru (je_isi2 T.n_isinstance T.n_tuple T.n_list (je_var 1))) (jss_cons (js_if (jt_w (jw_or (jt_cmp (op_neD (hu64 b.hr)) s_neD (je_callB call_isi s_isi T.n_isinstance (by decide +kernel) (ja_cons (je_var 1) (ja_cons (je_bty T.n_tuple) ja_nil))) (je_callB call_isi s_isi T.n_isinstance (by decide +kernel) (ja_cons (je_var 0) (ja_cons (je_bty T.n_tuple) ja_nil)))) (jw_or1 (jt_cmp (op_neD (hu64 b.hr)) s_neD (je_callB call_isi s_isi T.n_isinstance (by decide +kernel) (ja_cons (je_var 1) (ja_cons (je_bty T.n_list) ja_nil))) (je_callB call_isi s_isi T.n_isinstance (by decide +kernel) (ja_cons (je_var 0) (ja_cons (je_bty T.n_list) ja_nil))))))) (jss_one (js_ret (je_bl))) (jss_nil))
    (jss_cons (js_if (jt_cmp (op_neD (hu64 b.hr)) s_neD (je_callB call_len s_len T.n_len (by decide +kernel) (ja_cons (je_var 0) (ja_nil))) (je_callB call_len s_len T.n_len (by decide +kernel) (ja_cons (je_var 1) (ja_nil)))) (jss_one (js_ret (je_bl))) (jss_nil))
    (jss_cons (js_for b.hp rfl (ji_rng1 T.n_range (je_callB call_len s_len T.n_len (by decide +kernel) (ja_cons (je_var 1) (ja_nil)))) (jg_name sc__law_same.nd) (jss_one (js_if (jt_not (jt_tru (je_callQ ih b.hr b.hx (ja_cons (je_ix (je_var 0) (je_var 2)) (ja_cons (je_ix (je_var 1) (je_var 2)) (ja_nil)))))) (jss_one (js_ret (je_bl))) (jss_nil))))
    (jss_one (js_ret (je_bl)))))) (jss_nil))
    (jss_cons (js_if (jt_tru (je_callB call_isi s_isi T.n_isinstance (by decide +kernel) (ja_cons (je_var 1) (ja_cons (je_bty T.n_bool) ja_nil)))) (jss_one (js_ret (je_and (je_callB call_isi s_isi T.n_isinstance (by decide +kernel) (ja_cons (je_var 0) (ja_cons (je_bty T.n_bool) ja_nil))) (je_and1 (je_cmp (op_eqD (hu64 b.hr)) s_eqD (je_var 0) (je_var 1)))))) (jss_nil))
    (jss_cons (js_if (jt_tru (je_callB call_isi s_isi T.n_isinstance (by decide +kernel) (ja_cons (je_var 1) (ja_cons (je_bty T.n_int) ja_nil)))) (jss_one (js_ret (je_and (je_callB call_isi s_isi T.n_isinstance (by decide +kernel) (ja_cons (je_var 0) (ja_cons (je_bty T.n_int) ja_nil))) (je_and (je_not (je_callB call_isi s_isi T.n_isinstance (by decide +kernel) (ja_cons (je_var 0) (ja_cons (je_bty T.n_bool) ja_nil)))) (je_and1 (je_cmp (op_eqD (hu64 b.hr)) s_eqD (je_var 0) (je_var 1))))))) (jss_nil))
    (jss_one (js_ret (je_and (je_callB call_isi s_isi T.n_isinstance (by decide +kernel) (ja_cons (je_var 0) (ja_cons (je_bty T.n_str) ja_nil))) (je_and1 (je_cmp (op_eqD (hu64 b.hr)) s_eqD (je_var 0) (je_var 1)))))))))
theorem ok__law_same_n (T : Txt K mg C_Standing C_DeskError C_InvalidNumber C_InvalidPaper) : ∀ n, IsPure P w K mg base (n + 1) "_law_same" ["actual", "due"] [] (qs n)
  | 0 => (ok0__law_same (k := 0) T (rec := fun _ => .stuck) (let ⟨f, fd, h1, h2, F, hB⟩ := T.d__law_same.ex; ⟨fun _ _ => .stuck, ⟨f, fd, [], [], h1, h2, ⟨fun _ _ _ _ h => absurd h spG_stuck, fun _ _ _ _ _ _ _ _ _ _ _ _ _ h => absurd h spG_stuck⟩, hB, .nil, .nil, trivial⟩, fun _ h => absurd rfl h⟩)).pure (pure__law_same 0)
  | n + 1 => (ok0__law_same (k := n + 1) T (ok__law_same_n T n)).pure (pure__law_same (n + 1))
theorem ok__law_same (T : Txt K mg C_Standing C_DeskError C_InvalidNumber C_InvalidPaper) : IsPure P w K mg base 6 "_law_same" ["actual", "due"] [] q__law_same := ok__law_same_n T 5
abbrev s__law_draw : Stmt := top 57
theorem sc__law_draw : FnScope N__law_draw ["pool", "many"] (defScope s__law_draw) := ⟨rfl, rfl, rfl, by decide +kernel, rfl, by decide +kernel, by decide +kernel⟩
theorem ok0__law_draw (T : Txt K mg C_Standing C_DeskError C_InvalidNumber C_InvalidPaper) : IsFn P w K mg base 1 "_law_draw" ["pool", "many"] [] (f0__law_draw) := T.d__law_draw.fn (k := 0) (b := b__law_draw) sc__law_draw fun f cdv A outer s H E b =>
    jss_cons (js_if (jt_cmp op_gt s_gtI (je_ix (je_var 0) (je_int)) (je_int)) (jss_cons (js_set (i := 2) sc__law_draw.nd (je_op op_modN s_modI (je_callTy call_int1 s_int1 T.n_int (by decide +kernel) (ja_cons (je_ix (je_var 0) (je_int)) (ja_nil))) (je_var 1)))
    (jss_cons (js_sub (je_op op_fdivN s_divI (je_ix (je_var 0) (je_int)) (je_var 1)) (je_var 0) (je_int))
    (jss_one (js_ret (je_var 2))))) (jss_nil))
    (jss_cons (js_if (jt_w (jw_and (jt_cmp (op_eqD (hu64 b.hr)) s_eqD (je_op op_modN s_modI (je_callTy call_int1 s_int1 T.n_int (by decide +kernel) (ja_cons (je_ix (je_var 0) (je_int)) (ja_nil))) (je_int)) (je_int)) (jw_and1 (jt_cmp op_lt s_ltI (je_ix (je_var 0) (je_int)) (je_callB call_len s_len T.n_len (by decide +kernel) (ja_cons (je_ix (je_var 0) (je_int)) (ja_nil))))))) (jss_cons (js_set (i := 3) sc__law_draw.nd (je_callB call_abs s_abs T.n_abs (by decide +kernel) (ja_cons (je_ix (je_ix (je_var 0) (je_int)) (je_ix (je_var 0) (je_int))) (ja_nil))))
    (jss_cons (js_sub (je_op op_add s_addI (je_ix (je_var 0) (je_int)) (je_int)) (je_var 0) (je_int))
    (jss_cons (js_if (jt_cmp op_ge s_geI (je_var 3) (je_op op_pow s_powI (je_int) (je_int))) (jss_cons (js_sub (je_op op_fdivN s_divI (je_var 3) (je_var 1)) (je_var 0) (je_int))
    (jss_one (js_ret (je_op op_modN s_modI (je_callTy call_int1 s_int1 T.n_int (by decide +kernel) (ja_cons (je_var 3) (ja_nil))) (je_var 1))))) (jss_nil))
    (jss_one (js_sub (je_var 3) (je_var 0) (je_int)))))) (jss_nil))
    (jss_cons (js_sub (je_op op_add s_addI (je_ix (je_var 0) (je_int)) (je_int)) (je_var 0) (je_int))
    (jss_cons (js_set (i := 4) sc__law_draw.nd (je_op op_modN s_modI (je_callTy call_int1 s_int1 T.n_int (by decide +kernel) (ja_cons (je_op op_add s_addI (je_op op_add s_addI (je_op op_mul s_mulI (je_ix (je_var 0) (je_int)) (je_int)) (je_op op_mul s_mulI (je_ix (je_var 0) (je_int)) (je_int))) (je_int)) (ja_nil))) (je_int)))
    (jss_cons (js_set (i := 4) sc__law_draw.nd (je_op op_modN s_modI (je_callTy call_int1 s_int1 T.n_int (by decide +kernel) (ja_cons (je_op op_add s_addI (je_op op_mul s_mulI (je_var 4) (je_var 4)) (je_op op_mul s_mulI (je_ix (je_var 0) (je_int)) (je_int))) (ja_nil))) (je_int)))
    (jss_one (js_ret (je_op op_modN s_modI (je_callTy call_int1 s_int1 T.n_int (by decide +kernel) (ja_cons (je_var 4) (ja_nil))) (je_var 1))))))))
theorem ok__law_draw (T : Txt K mg C_Standing C_DeskError C_InvalidNumber C_InvalidPaper) : IsFn P w K mg base 1 "_law_draw" ["pool", "many"] [] (f__law_draw) := ok0__law_draw T
abbrev s__law_pick : Stmt := top 58
theorem sc__law_pick : FnScope N__law_pick ["pool", "rows"] (defScope s__law_pick) := ⟨rfl, rfl, rfl, by decide +kernel, rfl, by decide +kernel, by decide +kernel⟩
theorem ok0__law_pick (T : Txt K mg C_Standing C_DeskError C_InvalidNumber C_InvalidPaper) : IsFn P w K mg base 2 "_law_pick" ["pool", "rows"] [] (f0__law_pick) := T.d__law_pick.fn (k := 1) (b := b__law_pick) sc__law_pick fun f cdv A outer s H E b =>
    jss_one (js_ret (je_ix (je_var 1) (je_callG (ok__law_draw T) (b.hr.mono (by decide)) b.hx (ja_cons (je_var 0) (ja_cons (je_callB call_len s_len T.n_len (by decide +kernel) (ja_cons (je_var 1) (ja_nil))) (ja_nil))))))
theorem ok__law_pick (T : Txt K mg C_Standing C_DeskError C_InvalidNumber C_InvalidPaper) : IsFn P w K mg base 2 "_law_pick" ["pool", "rows"] [] (f__law_pick) := ok0__law_pick T
abbrev s__law_refusal : Stmt := top 59
theorem sc__law_refusal : FnScope N__law_refusal ["problem"] (defScope s__law_refusal) := ⟨rfl, rfl, rfl, by decide +kernel, rfl, by decide +kernel, by decide +kernel⟩
theorem ok_refusal (T : Txt K mg C_Standing C_DeskError C_InvalidNumber C_InvalidPaper) : ∀ y, catK y = some true → IsFnH P w K mg base 1 "_law_refusal" ["problem"] (ZpC mg y) (gHot (codeK y)) := by
  intro y hy
  have key : ∀ (D : Addr) (b1 b2 : Bool), mg y = some (.ref D) → ExcC K D → PySem.W.kitOne K (.ref D) (.ref C_InvalidNumber) = some b1 → PySem.W.kitOne K (.ref D) (.ref C_InvalidPaper) = some b2 → PySem.W.kitOne K (.ref D) (.type "ValueError") = some true →
      IsFnH P w K mg base 1 "_law_refusal" ["problem"] (ZpC mg y) (fun a => runG N__law_refusal.length (["problem"] : List Str).length (b__law_refusal C_InvalidNumber C_InvalidPaper b1 b2 a)) := by
    intro D b1 b2 gD eD k1 k2 k3
    obtain ⟨f, fd, h1, h2, F, hB⟩ := T.d__law_refusal.ex
    refine ⟨f, fd, h1, h2, fn_GH (b := b__law_refusal C_InvalidNumber C_InvalidPaper b1 b2) F sc__law_refusal fun cdv A outer s H E p hot hz hr => ?_, hB⟩
    obtain ⟨cls, g', zn, hf⟩ := hz
    rw [gD] at g'
    cases g'
    have hu := hu64H hr
    exact jss_cons (js_set (i := 1) sc__law_refusal.nd (je_dat (jl_lst (ja_cons (je_callB (call_isEp eD zn.zc hf List.mem_cons_self) (s_isE (fun _ h => h) k1) T.n_isinstance (by decide +kernel) (ja_cons (je_var 0) (ja_cons (je_gref T.g_InvalidNumber) ja_nil))) (ja_cons (je_callB (call_isEp eD zn.zc hf List.mem_cons_self) (s_isE (fun _ h => h) k2) T.n_isinstance (by decide +kernel) (ja_cons (je_var 0) (ja_cons (je_gref T.g_InvalidPaper) ja_nil))) ja_nil)))))
      (jss_cons (js_setLcH (i := 2) (own := [("k", 3)]) hot List.mem_cons_self sc__law_refusal.nd (ji_rng1H T.n_range je_int) (blkOk_by (N := N__law_refusal) (sc := (defScope s__law_refusal)) (by decide +kernel)) (fun _ _ _ _ _ => jg_name sc__law_refusal.nd) (fun _ _ _ _ _ => jts_one (jt_tru (je_ix (je_var 1) (je_var 3)))) (fun _ _ _ _ _ => je_ix (je_dat (jl_lst (ja_cons je_str (ja_cons je_str ja_nil)))) (je_var 3)))
      (jss_one (js_ret (je_if (jt_w (jw_and (jt_cmp (op_eqD hu) s_eqD (je_callB call_len s_len T.n_len (by decide +kernel) (ja_cons (je_var 2) ja_nil)) je_int) (jw_and1 (jt_tru (je_callB (call_isEp eD zn.zc hf List.mem_cons_self) (s_isE (fun _ h => h) k3) T.n_isinstance (by decide +kernel) (ja_cons (je_var 0) (ja_cons (je_bty T.n_ValueError) ja_nil))))))) (je_ix (je_var 2) je_int) je_str))))
  unfold catK at hy
  by_cases h1 : y = "InvalidNumber"
  · subst h1
    exact (key _ true false T.g_InvalidNumber T.e_InvalidNumber T.k_NN T.k_NP T.k_NV).le fun a ws M => refusal_is _ _ _ _ a ws M _ (.inl ⟨rfl, rfl, rfl⟩)
  · by_cases h2 : y = "InvalidPaper"
    · subst h2
      exact (key _ false true T.g_InvalidPaper T.e_InvalidPaper T.k_PN T.k_PP T.k_PV).le fun a ws M => refusal_is _ _ _ _ a ws M _ (.inr ⟨rfl, rfl, rfl⟩)
    · simp [h1, h2] at hy
abbrev s__law_is_day : Stmt := top 60
theorem sc__law_is_day : FnScope N__law_is_day ["order", "day"] (defScope s__law_is_day) := ⟨rfl, rfl, rfl, by decide +kernel, rfl, by decide +kernel, by decide +kernel⟩
theorem ok0__law_is_day (T : Txt K mg C_Standing C_DeskError C_InvalidNumber C_InvalidPaper) : IsFn P w K mg base 1 "_law_is_day" ["order", "day"] [] (f0__law_is_day) := T.d__law_is_day.fn (k := 0) (b := b__law_is_day) sc__law_is_day fun f cdv A outer s H E b =>
    jss_cons (js_asg (je_var 0) (jg_tup rfl (jgs_cons (jg_name sc__law_is_day.nd) (jgs_cons (jg_name sc__law_is_day.nd) (jgs_cons (jg_name sc__law_is_day.nd) (jgs_cons (jg_name sc__law_is_day.nd) (jgs_nil)))))))
    (jss_one (js_ret (je_and (je_cmp op_ge s_geI (je_var 1) (je_var 3)) (je_and (je_cmp (op_eqD (hu64 b.hr)) s_eqD (je_op op_modN s_modI (je_callTy call_int1 s_int1 T.n_int (by decide +kernel) (ja_cons (je_op op_sub s_subI (je_var 1) (je_var 3)) (ja_nil))) (je_var 4)) (je_int)) (je_and (je_orv (je_cmp op_isN s_isN (je_var 5) (je_non)) (je_or1 (je_cmp op_le s_leI (je_var 1) (je_var 5)))) (je_and1 (je_cmp op_le s_leI (je_var 1) (je_int))))))))
theorem ok__law_is_day (T : Txt K mg C_Standing C_DeskError C_InvalidNumber C_InvalidPaper) : IsPure P w K mg base 1 "_law_is_day" ["order", "day"] [] q__law_is_day := (ok0__law_is_day T).pure (pure__law_is_day)
abbrev s__law_refused : Stmt := top 61
theorem sc__law_refused : FnScope N__law_refused ["rows", "first", "every", "last"] (defScope s__law_refused) := ⟨rfl, rfl, rfl, by decide +kernel, rfl, by decide +kernel, by decide +kernel⟩
theorem ok0__law_refused (T : Txt K mg C_Standing C_DeskError C_InvalidNumber C_InvalidPaper) : IsFn P w K mg base 6 "_law_refused" ["rows", "first", "every", "last"] [] (f0__law_refused) := T.d__law_refused.fn (k := 5) (b := b__law_refused) sc__law_refused fun f cdv A outer s H E b =>
    jss_cons (js_try_hot (j := 1) sc__law_refused.nd b.tk b.hr (by decide) ⟨rfl, by decide, Or.inl T.g_DeskError⟩ T.cat (ok_refusal T) (fun W pn xe tkW po => jss_one (js_expr (je_callQ (ok_checked_order T) (b.hr.mono (by decide)) (fun σ => L2N.passAt tkW σ) (ja_cons (je_var 0) (ja_cons (je_var 1) (ja_cons (je_var 2) (ja_cons (je_var 3) (ja_nil)))))))))
    (jss_one (js_ret (je_str)))
theorem ok__law_refused (T : Txt K mg C_Standing C_DeskError C_InvalidNumber C_InvalidPaper) : IsPure P w K mg base 6 "_law_refused" ["rows", "first", "every", "last"] [] q__law_refused := (ok0__law_refused T).pure (pure__law_refused)
abbrev s_law : Stmt := top 62
theorem sc_law : FnScope N_law ["script"] (defScope s_law) := ⟨rfl, rfl, rfl, by decide +kernel, rfl, by decide +kernel, by decide +kernel⟩
theorem jlaw (T : Txt K mg C_Standing C_DeskError C_InvalidNumber C_InvalidPaper) {f : Addr} {cdv : Value} {A : Around} {outer : List Env} {s : Shared} {H : Hp} {E : XK} (b : BodyX (cxOf (L2N.CX P w) P w K mg base N_law "law" (defScope s_law) f cdv A outer s H E) (fun c d _ H' => E c d H') 7) : JSs (cxOf (L2N.CX P w) P w K mg base N_law "law" (defScope s_law) f cdv A outer s H E) (fun c d _ H' => E c d H') ((defBody s_law).tail) (b_law C_Standing) :=
    jss_cons (js_set (i := 2) sc_law.nd (je_tup (ja_cons (je_tup (ja_cons (je_str) (ja_cons (je_neg (je_int)) (ja_nil)))) (ja_cons (je_tup (ja_cons (je_str) (ja_cons (je_int) (ja_nil)))) (ja_nil)))))
    (jss_cons (js_set (i := 3) sc_law.nd (je_makeB0 (ok_Standing_init T) (b.hr.mono (by decide)) T.g_Standing))
    (jss_cons (js_set (i := 4) sc_law.nd (je_newD))
    (jss_cons (js_for b.hp rfl (ji_rng1 T.n_range (je_op op_add s_addI (je_int) (je_callG (ok__law_draw T) (b.hr.mono (by decide)) b.hx (ja_cons (je_var 1) (ja_cons (je_int) (ja_nil)))))) (jg_name sc_law.nd) (jss_cons (js_set (i := 6) sc_law.nd (je_callG (ok__law_draw T) (b.hr.mono (by decide)) b.hx (ja_cons (je_var 1) (ja_cons (je_int) (ja_nil)))))
    (jss_cons (js_set (i := 7) sc_law.nd (je_tup (ja_cons (je_tup (ja_cons (je_tup (ja_cons (je_str) (ja_cons (je_op op_sub s_subI (je_neg (je_int)) (je_var 5)) (ja_nil)))) (ja_cons (je_tup (ja_cons (je_str) (ja_cons (je_op op_add s_addI (je_int) (je_var 5)) (ja_nil)))) (ja_nil)))) (ja_cons (je_var 6) (ja_cons (je_op op_add s_addI (je_int) (je_callG (ok__law_draw T) (b.hr.mono (by decide)) b.hx (ja_cons (je_var 1) (ja_cons (je_int) (ja_nil))))) (ja_cons (je_callG (ok__law_pick T) (b.hr.mono (by decide)) b.hx (ja_cons (je_var 1) (ja_cons (je_dat (jl_lst (ja_cons (je_non) (ja_cons (je_op op_add s_addI (je_var 6) (je_callG (ok__law_draw T) (b.hr.mono (by decide)) b.hx (ja_cons (je_var 1) (ja_cons (je_int) (ja_nil))))) (ja_nil))))) (ja_nil)))) (ja_nil)))))))
    (jss_cons (js_set (i := 8) sc_law.nd (je_ix (je_dat (jl_lst (ja_cons (je_str) (ja_cons (je_str) (ja_cons (je_str) (ja_nil)))))) (je_var 5)))
    (jss_cons (js_putD (hu1 b.hr) (je_var 7) (je_var 4) (je_var 8))
    (jss_cons (js_expr (je_methB T.cl_Standing (ok_Standing_add T) (b.hr.mono (by decide)) b.hx (je_var 3) (ja_cons (je_var 8) (ja_cons (je_ix (je_var 7) (je_int)) (ja_cons (je_ix (je_var 7) (je_int)) (ja_cons (je_ix (je_var 7) (je_int)) (ja_cons (je_ix (je_var 7) (je_int)) (ja_nil))))))))
    (jss_cons (js_if (jt_not (jt_tru (je_callQ (ok__law_same T) (b.hr.mono (by decide)) b.hx (ja_cons (je_callQ (ok_checked_order T) (b.hr.mono (by decide)) b.hx (ja_cons (je_ix (je_var 7) (je_int)) (ja_cons (je_ix (je_var 7) (je_int)) (ja_cons (je_ix (je_var 7) (je_int)) (ja_cons (je_ix (je_var 7) (je_int)) (ja_nil)))))) (ja_cons (je_var 7) (ja_nil)))))) (jss_one (js_ret (je_bl))) (jss_nil))
    (jss_cons (js_set (i := 9) sc_law.nd (je_callG (ok__law_draw T) (b.hr.mono (by decide)) b.hx (ja_cons (je_var 1) (ja_cons (je_int) (ja_nil)))))
    (jss_cons (js_if (jt_not (jt_tru (je_callQ (ok__law_same T) (b.hr.mono (by decide)) b.hx (ja_cons (je_callQ (ok_days_of T) (b.hr.mono (by decide)) b.hx (ja_cons (je_var 7) (ja_cons (je_var 9) (ja_nil)))) (ja_cons (je_dat (jl_lc (own := [("day", 14)]) rfl sc_law.nd (ji_rng1 T.n_range (je_op op_add s_addI (je_var 9) (je_int))) (blkOk_by (N := N_law) (sc := (defScope s_law)) (by decide +kernel)) (fun _ _ _ _ _ => jg_name sc_law.nd) (fun _ _ _ _ _ => jts_one (jt_tru (je_callQ (ok__law_is_day T) (b.hr.mono (by decide)) (fun _ => pass0) (ja_cons (je_var 7) (ja_cons (je_var 14) (ja_nil)))))) (fun _ _ _ _ _ => je_var 14))) (ja_nil)))))) (jss_one (js_ret (je_bl))) (jss_nil))
    (jss_cons (js_set (i := 10) sc_law.nd (je_op op_sub s_subI (je_callG (ok__law_draw T) (b.hr.mono (by decide)) b.hx (ja_cons (je_var 1) (ja_cons (je_int) (ja_nil)))) (je_int)))
    (jss_cons (js_setLc (i := 11) (own := [("day", 14)]) rfl sc_law.nd (ji_rng2 T.n_range (je_op op_add s_addI (je_var 10) (je_int)) (je_op op_add s_addI (je_var 10) (je_int))) (blkOk_by (N := N_law) (sc := (defScope s_law)) (by decide +kernel)) (fun _ _ _ _ _ => jg_name sc_law.nd) (fun _ _ _ _ _ => jts_one (jt_tru (je_callQ (ok__law_is_day T) (b.hr.mono (by decide)) (fun _ => pass0) (ja_cons (je_var 7) (ja_cons (je_var 14) (ja_nil)))))) (fun _ _ _ _ _ => je_var 14))
    (jss_one (js_if (jt_not (jt_tru (je_callQ (ok__law_same T) (b.hr.mono (by decide)) b.hx (ja_cons (je_callQ (ok_next_day T) (b.hr.mono (by decide)) b.hx (ja_cons (je_var 7) (ja_cons (je_var 10) (ja_nil)))) (ja_cons (je_if (jt_cmp op_gt s_gtI (je_callB call_len s_len T.n_len (by decide +kernel) (ja_cons (je_var 11) (ja_nil))) (je_int)) (je_ix (je_var 11) (je_int)) (je_non)) (ja_nil)))))) (jss_one (js_ret (je_bl))) (jss_nil))))))))))))))
    (jss_cons (js_set (i := 10) sc_law.nd (je_op op_sub s_subI (je_callG (ok__law_draw T) (b.hr.mono (by decide)) b.hx (ja_cons (je_var 1) (ja_cons (je_int) (ja_nil)))) (je_int)))
    (jss_cons (js_set (i := 12) sc_law.nd (je_callG (ok__law_draw T) (b.hr.mono (by decide)) b.hx (ja_cons (je_var 1) (ja_cons (je_int) (ja_nil)))))
    (jss_cons (js_set (i := 13) sc_law.nd (je_dat (jl_lst (ja_nil))))
    (jss_cons (js_for b.hp rfl (ji_rng2 T.n_range (je_op op_add s_addI (je_var 10) (je_int)) (je_op op_add s_addI (je_var 10) (je_int))) (jg_name sc_law.nd) (jss_one (js_set (i := 13) sc_law.nd (je_dat (jl_cat (je_var 13) (je_dat (jl_lc (own := [("name", 8)]) rfl sc_law.nd (ji_list (je_dat (jl_callB (call_sortedD rfl) s_sortedK T.n_sorted (by decide +kernel) (ja_cons (je_var 4) (ja_nil))))) (blkOk_by (N := N_law) (sc := (defScope s_law)) (by decide +kernel)) (fun _ _ _ _ _ => jg_name sc_law.nd) (fun _ _ _ _ _ => jts_one (jt_tru (je_callQ (ok__law_is_day T) (b.hr.mono (by decide)) (fun _ => pass0) (ja_cons (je_getD (hu1 b.hr) (je_var 4) (je_var 8)) (ja_cons (je_var 14) (ja_nil)))))) (fun _ _ _ _ _ => je_tup (ja_cons (je_var 14) (ja_cons (je_var 8) (ja_nil)))))))))))
    (jss_cons (js_if (jt_not (jt_tru (je_callQ (ok__law_same T) (b.hr.mono (by decide)) b.hx (ja_cons (je_methB T.cl_Standing (ok_Standing_coming T) (b.hr.mono (by decide)) b.hx (je_var 3) (ja_cons (je_var 10) (ja_cons (je_var 12) (ja_nil)))) (ja_cons (je_dat (jl_slice (je_var 13) (jo_none) (jo_some (je_var 12)))) (ja_nil)))))) (jss_one (js_ret (je_bl))) (jss_nil))
    (jss_cons (js_set (i := 8) sc_law.nd (je_callG (ok__law_pick T) (b.hr.mono (by decide)) b.hx (ja_cons (je_var 1) (ja_cons (je_dat (jl_callB (call_sortedD rfl) s_sortedK T.n_sorted (by decide +kernel) (ja_cons (je_var 4) (ja_nil)))) (ja_nil)))))
    (jss_cons (js_set (i := 15) sc_law.nd (je_callG (ok__law_draw T) (b.hr.mono (by decide)) b.hx (ja_cons (je_var 1) (ja_cons (je_int) (ja_nil)))))
    (jss_cons (js_expr (je_methB T.cl_Standing (ok_Standing_end T) (b.hr.mono (by decide)) b.hx (je_var 3) (ja_cons (je_var 8) (ja_cons (je_var 15) (ja_nil)))))
    (jss_cons (js_setLc (i := 16) (own := [("day", 14), ("one", 20)]) rfl sc_law.nd (ji_list (je_var 13)) (blkOk_by (N := N_law) (sc := (defScope s_law)) (by decide +kernel)) (fun _ _ _ _ _ => jg_tup rfl (jgs_cons (jg_name sc_law.nd) (jgs_cons (jg_name sc_law.nd) (jgs_nil)))) (fun _ _ _ _ _ => jts_one (jt_w (jw_or (jt_cmp (op_neD (hu64 b.hr)) s_neD (je_var 20) (je_var 8)) (jw_or1 (jt_cmp op_le s_leI (je_var 14) (je_var 15)))))) (fun _ _ _ _ _ => je_tup (ja_cons (je_var 14) (ja_cons (je_var 20) (ja_nil)))))
    (jss_cons (js_if (jt_not (jt_tru (je_callQ (ok__law_same T) (b.hr.mono (by decide)) b.hx (ja_cons (je_methB T.cl_Standing (ok_Standing_coming T) (b.hr.mono (by decide)) b.hx (je_var 3) (ja_cons (je_var 10) (ja_cons (je_var 12) (ja_nil)))) (ja_cons (je_dat (jl_slice (je_var 16) (jo_none) (jo_some (je_var 12)))) (ja_nil)))))) (jss_one (js_ret (je_bl))) (jss_nil))
    (jss_cons (js_if (jt_w (jw_or (jt_cmp (op_neD (hu64 b.hr)) s_neD (je_callQ (ok_next_day T) (b.hr.mono (by decide)) b.hx (ja_cons (je_tup (ja_cons (je_var 2) (ja_cons (je_int) (ja_cons (je_int) (ja_cons (je_non) (ja_nil)))))) (ja_cons (je_int) (ja_nil)))) (je_int)) (jw_or1 (jt_cmp op_notN s_isNn (je_callQ (ok_next_day T) (b.hr.mono (by decide)) b.hx (ja_cons (je_tup (ja_cons (je_var 2) (ja_cons (je_int) (ja_cons (je_int) (ja_cons (je_non) (ja_nil)))))) (ja_cons (je_int) (ja_nil)))) (je_non))))) (jss_one (js_ret (je_bl))) (jss_nil))
    (jss_cons (js_for b.hp rfl (ji_list (je_dat (jl_lst (ja_cons (je_tup (ja_nil)) (ja_cons (je_tup (ja_cons (je_tup (ja_cons (je_str) (ja_cons (je_int) (ja_nil)))) (ja_nil))) (ja_cons (je_tup (ja_cons (je_tup (ja_cons (je_str) (ja_cons (je_neg (je_int)) (ja_nil)))) (ja_cons (je_tup (ja_cons (je_str) (ja_cons (je_int) (ja_nil)))) (ja_nil)))) (ja_cons (je_tup (ja_cons (je_tup (ja_cons (je_str) (ja_cons (je_neg (je_int)) (ja_nil)))) (ja_cons (je_tup (ja_cons (je_str) (ja_cons (je_int) (ja_nil)))) (ja_nil)))) (ja_cons (je_op op_catT s_catT (je_var 2) (je_tup (ja_cons (je_int) (ja_nil)))) (ja_nil))))))))) (jg_name sc_law.nd) (jss_one (js_if (jt_cmp (op_neD (hu64 b.hr)) s_neD (je_callQ (ok__law_refused T) (b.hr.mono (by decide)) b.hx (ja_cons (je_var 17) (ja_cons (je_int) (ja_cons (je_int) (ja_cons (je_non) (ja_nil)))))) (je_str)) (jss_one (js_ret (je_bl))) (jss_nil))))
    (jss_cons (js_for b.hp rfl (ji_list (je_dat (jl_lst (ja_cons (je_tup (ja_cons (je_neg (je_int)) (ja_cons (je_int) (ja_cons (je_non) (ja_nil))))) (ja_cons (je_tup (ja_cons (je_bl) (ja_cons (je_int) (ja_cons (je_non) (ja_nil))))) (ja_cons (je_tup (ja_cons (je_int) (ja_cons (je_int) (ja_cons (je_non) (ja_nil))))) (ja_cons (je_tup (ja_cons (je_int) (ja_cons (je_int) (ja_cons (je_non) (ja_nil))))) (ja_cons (je_tup (ja_cons (je_int) (ja_cons (je_int) (ja_cons (je_int) (ja_nil))))) (ja_cons (je_tup (ja_cons (je_int) (ja_cons (je_int) (ja_cons (je_int) (ja_nil))))) (ja_nil)))))))))) (jg_tup rfl (jgs_cons (jg_name sc_law.nd) (jgs_cons (jg_name sc_law.nd) (jgs_cons (jg_name sc_law.nd) (jgs_nil))))) (jss_one (js_if (jt_cmp (op_neD (hu64 b.hr)) s_neD (je_callQ (ok__law_refused T) (b.hr.mono (by decide)) b.hx (ja_cons (je_var 2) (ja_cons (je_var 6) (ja_cons (je_var 18) (ja_cons (je_var 19) (ja_nil)))))) (je_str)) (jss_one (js_ret (je_bl))) (jss_nil))))
    (jss_one (js_ret (je_bl)))))))))))))))))))
end
end Z

set_option linter.all false
set_option autoImplicit false
set_option maxRecDepth 100000
set_option maxHeartbeats 4000000
namespace Z
open PySem PySem.Spec PyProof.Rows L2 L2H

section
variable {P : Program} {w : World} {K : PySem.W.Frag} {mg : Str → Option Value} {base : Heap} {C_Standing C_DeskError C_InvalidNumber C_InvalidPaper : Addr}
def spPool (K : PySem.W.Frag) : Sp := fun vs H Q _ => ∃ (a : Addr) (ns : List Int), vs = [.ref a] ∧ SqL K H a (ns.map V.int) ∧ ∀ qq p, H qq = none → (upd H qq (.lst (ns.map V.int))) p = none → Q (.ref p) (upd (upd H qq (.lst (ns.map V.int))) p (.lst [.ref qq, .int 0, .int 0, .int 0, .int 0]))
abbrev s__law_pool : Stmt := top 56
theorem sc__law_pool : FnScope ["script"] ["script"] (defScope s__law_pool) := ⟨rfl, rfl, rfl, by decide +kernel, rfl, by decide +kernel, by decide +kernel⟩
theorem ok_pool (T : Txt K mg C_Standing C_DeskError C_InvalidNumber C_InvalidPaper) : ∃ f fd, mg "_law_pool" = some (.ref f) ∧ PySem.W.keepIn K (.ref f) = true ∧ FnOk P w K mg base (L2N.CX P w) 1 f fd ["script"] (spPool K) ∧ Binds K fd ["script"] [] := by
  obtain ⟨f, fd, h1, h2, F, hB⟩ := T.d__law_pool.ex
  refine ⟨f, fd, h1, h2, ?_, hB⟩
  obtain ⟨oc, od, kV, doc, pm, an, cdv, ct, osl, rfl, lk, hcd⟩ := F.ex
  refine fn_of lk hcd sc__law_pool (fun vs H Q E ⟨a, ns, e, _⟩ => by rw [e]; rfl) fun A outer s H vs Q E hr ⟨a, ns, ev, hS, hq⟩ => ?_
  subst ev
  refine ⟨_, pss_one (ps_ret (pe_lst (pa_cons (pe_callTy call_list_of (by rfl) T.n_list (by decide +kernel) (pa_cons (pv 0) pa_nil)) (pa_cons pe_int (pa_cons pe_int (pa_cons pe_int (pa_cons pe_int pa_nil))))))), ?_⟩
  refine ⟨_, rfl, a, _, rfl, .inl hS, fun qq hqq => ⟨by show 5 ≤ sizeLine; decide, fun p hp => hq qq p hqq hp⟩⟩
def spLaw (K : PySem.W.Frag) : Sp := fun vs H Q _ => ∃ (a : Addr) (ns : List Int), vs = [.ref a] ∧ SqL K H a (ns.map V.int) ∧ ns.length ≤ 63 ∧ ∀ H', Q (.bl true) H'
theorem dtInts {H : Hp} : ∀ ns : List Int, DtAll K H (ns.map V.int) (ns.map .int)
  | [] => .nil
  | n :: ns => .cons (.int n) (dtInts ns)
theorem fitsInts : ∀ ns : List Int, fitsAll (ns.map .int)
  | [] => trivial
  | n :: ns => ⟨trivial, fitsInts ns⟩
theorem ok_law (T : Txt K mg C_Standing C_DeskError C_InvalidNumber C_InvalidPaper) {f : Addr} {fd : FuncData} (F : Fun K "law" "law" s_law f fd) (law_true : ∀ ns : List Int, ns.length ≤ 63 → ∃ m, b_law C_Standing law0 [poolM ns 0 0 0 0] = .rt (.d (.bool true)) m) : FnOk P w K mg base (L2N.CX P w) 8 f fd ["script"] (spLaw K) := by
  obtain ⟨oc, od, kV, doc, pm, an, cdv, ct, osl, rfl, lk, hcd⟩ := F.ex
  refine fn_of lk hcd sc_law (fun vs H Q E ⟨a, ns, e, _⟩ => by rw [e]; rfl) fun A outer s H vs Q E hr ⟨a, ns, ev, hS, hl, hq⟩ => ?_
  subst ev
  have b := bodyX (P := P) (w := w) (K := K) (mg := mg) (base := base) (N := N_law) (E := E) (H := H) (outer := outer) hr
  obtain ⟨t, pt, sm⟩ := jlaw T b
  obtain ⟨fp, fdp, g1, g2, Fp, Bp⟩ := ok_pool (P := P) (w := w) (base := base) T
  refine ⟨_, pss_cons (ps_set (i := 1) sc_law.nd rfl (by first | exact Or.inl rfl | exact Or.inr rfl) (pe_call Fp (b.hr.mono (by decide)) rfl g1 g2 Bp .nil passE0 (pa_cons (pv 0) pa_nil))) pt, ?_⟩
  refine ⟨_, rfl, a, ns, rfl, hS, fun qq p hqq hp => ?_⟩
  have hqn : (fun _ : Addr => (none : Option HO)) qq = none := rfl
  have r0 : Rel K H (fun _ => none) [] (fun _ => none) H [] := rel_self fun _ _ z => by cases z
  have r1 := r0.newData (o := .lst (ns.map V.int)) hqq
  have r2 := r1.newAny (o := .lst [.ref qq, .int 0, .int 0, .int 0, .int 0]) hp
  have z1 : ns.length ≤ sizeLine := Nat.le_trans hl (by decide)
  have zl : WR K ([] ++ [p]) (upd (fun _ => none) qq (.lst (ns.map V.int))) (.ref qq) (.d (.list (ns.map .int))) := ⟨.lst upd_same (dtInts ns), by rw [List.length_map]; exact z1, fitsInts ns⟩
  have r3 := r2.newMut (p := p) (m := poolM ns 0 0 0 0) (by rw [upd_same]; simp) (r1.hbn hp) (r1.h0n hp) (by simp) ⟨by show 5 ≤ sizeLine; decide, _, upd_same, .cons zl (.cons (wr_int 0) (.cons (wr_int 0) (.cons (wr_int 0) (.cons (wr_int 0) .nil))))⟩
  obtain ⟨m, hm⟩ := law_true ns hl
  refine sm H (fun _ => none) ([] ++ [p]) _ _ [poolM ns 0 0 0 0] _ law0 r3 ?_ _ ?_
  · exact .cons (fun _ e => by cases e) (.cons (fun _ e => by cases e; exact ⟨_, rfl, p, rfl, rfl⟩) (slots_none _))
  · rw [hm]
    exact fun v as' Hb' H' r' f' w' => by rw [wr_bl_of w']; exact hq H'
theorem all_mk {h : Heap} {fa : Addr} (X : K.In h) (G : h.Ns mainGlobals mg) (hfa : mg "law" = some (.ref fa)) (law_true : ∀ C_Standing : Addr, ∀ (ns : List Int), ns.length ≤ 63 → ∃ m, b_law C_Standing law0 [poolM ns 0 0 0 0] = .rt (.d (.bool true)) m)
    {t_AMOUNT : Tok} {t_DAYS : Tok} {t_LETTERS : Tok} {t_LONGEST : Tok} {t_MOST_standing : Tok} {t_ROWS : Tok} {oc_is_name : Value} {kV_is_name : Value} {dc_is_name : Value} {pm_is_name : Value} {cd_is_name : Value} {ct_is_name : Value} {od_is_name : Option Addr} {an_is_name : Option Addr} {sl_is_name : Array (Option Value)} {f_is_name : Addr} {oc_checked_name : Value} {kV_checked_name : Value} {dc_checked_name : Value} {pm_checked_name : Value} {cd_checked_name : Value} {ct_checked_name : Value} {od_checked_name : Option Addr} {an_checked_name : Option Addr} {sl_checked_name : Array (Option Value)} {f_checked_name : Addr} {oc_is_number : Value} {kV_is_number : Value} {dc_is_number : Value} {pm_is_number : Value} {cd_is_number : Value} {ct_is_number : Value} {od_is_number : Option Addr} {an_is_number : Option Addr} {sl_is_number : Array (Option Value)} {f_is_number : Addr} {T_is_number : Addr} {ocT_is_number : Value} {odT_is_number : Option Addr} {slT_is_number : Array (Option Value)} {nT_is_number : Nat} {tk0_is_number : Tok} {tk1_is_number : Tok} {oc_is_amount : Value} {kV_is_amount : Value} {dc_is_amount : Value} {pm_is_amount : Value} {cd_is_amount : Value} {ct_is_amount : Value} {od_is_amount : Option Addr} {an_is_amount : Option Addr} {sl_is_amount : Array (Option Value)} {f_is_amount : Addr} {oc_is_account : Value} {kV_is_account : Value} {dc_is_account : Value} {pm_is_account : Value} {cd_is_account : Value} {ct_is_account : Value} {od_is_account : Option Addr} {an_is_account : Option Addr} {sl_is_account : Array (Option Value)} {f_is_account : Addr} {oc_is_rows : Value} {kV_is_rows : Value} {dc_is_rows : Value} {pm_is_rows : Value} {cd_is_rows : Value} {ct_is_rows : Value} {od_is_rows : Option Addr} {an_is_rows : Option Addr} {sl_is_rows : Array (Option Value)} {f_is_rows : Addr} {oc_checked_order : Value} {kV_checked_order : Value} {dc_checked_order : Value} {pm_checked_order : Value} {cd_checked_order : Value} {ct_checked_order : Value} {od_checked_order : Option Addr} {an_checked_order : Option Addr} {sl_checked_order : Array (Option Value)} {f_checked_order : Addr} {oc_days_of : Value} {kV_days_of : Value} {dc_days_of : Value} {pm_days_of : Value} {cd_days_of : Value} {ct_days_of : Value} {od_days_of : Option Addr} {an_days_of : Option Addr} {sl_days_of : Array (Option Value)} {f_days_of : Addr} {oc_next_day : Value} {kV_next_day : Value} {dc_next_day : Value} {pm_next_day : Value} {cd_next_day : Value} {ct_next_day : Value} {od_next_day : Option Addr} {an_next_day : Option Addr} {sl_next_day : Array (Option Value)} {f_next_day : Addr} {oc_Standing_init : Value} {kV_Standing_init : Value} {dc_Standing_init : Value} {pm_Standing_init : Value} {cd_Standing_init : Value} {ct_Standing_init : Value} {od_Standing_init : Option Addr} {an_Standing_init : Option Addr} {sl_Standing_init : Array (Option Value)} {f_Standing_init : Addr} {oc_Standing_names : Value} {kV_Standing_names : Value} {dc_Standing_names : Value} {pm_Standing_names : Value} {cd_Standing_names : Value} {ct_Standing_names : Value} {od_Standing_names : Option Addr} {an_Standing_names : Option Addr} {sl_Standing_names : Array (Option Value)} {f_Standing_names : Addr} {oc_Standing_order : Value} {kV_Standing_order : Value} {dc_Standing_order : Value} {pm_Standing_order : Value} {cd_Standing_order : Value} {ct_Standing_order : Value} {od_Standing_order : Option Addr} {an_Standing_order : Option Addr} {sl_Standing_order : Array (Option Value)} {f_Standing_order : Addr} {oc_Standing_add : Value} {kV_Standing_add : Value} {dc_Standing_add : Value} {pm_Standing_add : Value} {cd_Standing_add : Value} {ct_Standing_add : Value} {od_Standing_add : Option Addr} {an_Standing_add : Option Addr} {sl_Standing_add : Array (Option Value)} {f_Standing_add : Addr} {oc_Standing_end : Value} {kV_Standing_end : Value} {dc_Standing_end : Value} {pm_Standing_end : Value} {cd_Standing_end : Value} {ct_Standing_end : Value} {od_Standing_end : Option Addr} {an_Standing_end : Option Addr} {sl_Standing_end : Array (Option Value)} {f_Standing_end : Addr} {oc_Standing_coming : Value} {kV_Standing_coming : Value} {dc_Standing_coming : Value} {pm_Standing_coming : Value} {cd_Standing_coming : Value} {ct_Standing_coming : Value} {od_Standing_coming : Option Addr} {an_Standing_coming : Option Addr} {sl_Standing_coming : Array (Option Value)} {f_Standing_coming : Addr} {oc__law_same : Value} {kV__law_same : Value} {dc__law_same : Value} {pm__law_same : Value} {cd__law_same : Value} {ct__law_same : Value} {od__law_same : Option Addr} {an__law_same : Option Addr} {sl__law_same : Array (Option Value)} {f__law_same : Addr} {oc__law_pool : Value} {kV__law_pool : Value} {dc__law_pool : Value} {pm__law_pool : Value} {cd__law_pool : Value} {ct__law_pool : Value} {od__law_pool : Option Addr} {an__law_pool : Option Addr} {sl__law_pool : Array (Option Value)} {f__law_pool : Addr} {oc__law_draw : Value} {kV__law_draw : Value} {dc__law_draw : Value} {pm__law_draw : Value} {cd__law_draw : Value} {ct__law_draw : Value} {od__law_draw : Option Addr} {an__law_draw : Option Addr} {sl__law_draw : Array (Option Value)} {f__law_draw : Addr} {oc__law_pick : Value} {kV__law_pick : Value} {dc__law_pick : Value} {pm__law_pick : Value} {cd__law_pick : Value} {ct__law_pick : Value} {od__law_pick : Option Addr} {an__law_pick : Option Addr} {sl__law_pick : Array (Option Value)} {f__law_pick : Addr} {oc__law_refusal : Value} {kV__law_refusal : Value} {dc__law_refusal : Value} {pm__law_refusal : Value} {cd__law_refusal : Value} {ct__law_refusal : Value} {od__law_refusal : Option Addr} {an__law_refusal : Option Addr} {sl__law_refusal : Array (Option Value)} {f__law_refusal : Addr} {oc__law_is_day : Value} {kV__law_is_day : Value} {dc__law_is_day : Value} {pm__law_is_day : Value} {cd__law_is_day : Value} {ct__law_is_day : Value} {od__law_is_day : Option Addr} {an__law_is_day : Option Addr} {sl__law_is_day : Array (Option Value)} {f__law_is_day : Addr} {oc__law_refused : Value} {kV__law_refused : Value} {dc__law_refused : Value} {pm__law_refused : Value} {cd__law_refused : Value} {ct__law_refused : Value} {od__law_refused : Option Addr} {an__law_refused : Option Addr} {sl__law_refused : Array (Option Value)} {f__law_refused : Addr} {oc_law : Value} {kV_law : Value} {dc_law : Value} {pm_law : Value} {cd_law : Value} {ct_law : Value} {od_law : Option Addr} {an_law : Option Addr} {sl_law : Array (Option Value)} {f_law : Addr}
    (a_Standing : PySem.W.nsIn K mainGlobals "Standing" = some (some (.ref C_Standing))) (a_DeskError : PySem.W.nsIn K mainGlobals "DeskError" = some (some (.ref C_DeskError))) (a_InvalidNumber : PySem.W.nsIn K mainGlobals "InvalidNumber" = some (some (.ref C_InvalidNumber))) (a_InvalidPaper : PySem.W.nsIn K mainGlobals "InvalidPaper" = some (some (.ref C_InvalidPaper))) (z_ValueError : PySem.W.nsIn K mainGlobals "ValueError" = some none) (z_abs : PySem.W.nsIn K mainGlobals "abs" = some none) (z_bool : PySem.W.nsIn K mainGlobals "bool" = some none) (c_AMOUNT : PySem.W.nsIn K mainGlobals "AMOUNT" = some (some (.int 1000000000 t_AMOUNT))) (c_DAYS : PySem.W.nsIn K mainGlobals "DAYS" = some (some (.int 100000 t_DAYS))) (c_LETTERS : PySem.W.nsIn K mainGlobals "LETTERS" = some (some (.str "abcdefghijklmnopqrstuvwxyz" t_LETTERS))) (c_LONGEST : PySem.W.nsIn K mainGlobals "LONGEST" = some (some (.int 12 t_LONGEST))) (c_MOST_standing : PySem.W.nsIn K mainGlobals "MOST_standing" = some (some (.int 40 t_MOST_standing))) (c_ROWS : PySem.W.nsIn K mainGlobals "ROWS" = some (some (.int 12 t_ROWS))) (f_Standing__orders : PySem.W.findIn K (.ref C_Standing) "_orders" = some none) (z_int : PySem.W.nsIn K mainGlobals "int" = some none) (z_isinstance : PySem.W.nsIn K mainGlobals "isinstance" = some none) (l1_Standing : PySem.W.plainGet K C_Standing Str.empty = true) (l2_Standing : PySem.W.hasDictIn K C_Standing = true) (l3_Standing : PySem.W.plainOver K C_Standing = true) (l4_Standing : PySem.W.findIn K (.ref C_Standing) "__setattr__" = some (some (.builtin "object.__setattr__"))) (z_len : PySem.W.nsIn K mainGlobals "len" = some none) (z_list : PySem.W.nsIn K mainGlobals "list" = some none) (z_min : PySem.W.nsIn K mainGlobals "min" = some none) (z_range : PySem.W.nsIn K mainGlobals "range" = some none) (z_sorted : PySem.W.nsIn K mainGlobals "sorted" = some none) (z_str : PySem.W.nsIn K mainGlobals "str" = some none) (z_tuple : PySem.W.nsIn K mainGlobals "tuple" = some none) (x1_InvalidNumber : PySem.W.excIn K C_InvalidNumber [.type "ValueError", .type "Exception", .type "BaseException", .type "object"] "ValueError.__new__" = true) (x2_InvalidNumber : PySem.W.keepIn K (.ref C_InvalidNumber) = true) (x3_InvalidNumber : PySem.W.subIn K (.ref C_InvalidNumber) (.type "BaseException") = some true) (x4_InvalidNumber : PySem.W.typeIn K (.ref C_InvalidNumber) = some (.type "type")) (x1_InvalidPaper : PySem.W.excIn K C_InvalidPaper [.type "ValueError", .type "Exception", .type "BaseException", .type "object"] "ValueError.__new__" = true) (x2_InvalidPaper : PySem.W.keepIn K (.ref C_InvalidPaper) = true) (x3_InvalidPaper : PySem.W.subIn K (.ref C_InvalidPaper) (.type "BaseException") = some true) (x4_InvalidPaper : PySem.W.typeIn K (.ref C_InvalidPaper) = some (.type "type")) (m1_is_name : PySem.W.nsIn K mainGlobals "is_name" = some (some (.ref f_is_name))) (m3_is_name : K.lookup f_is_name = some ⟨oc_is_name, od_is_name, .func (PySem.W.fnOf "is_name" "is_name" (defArgs (top 13)) (defBody (top 13)) (defScope (top 13)) .none kV_is_name dc_is_name pm_is_name an_is_name cd_is_name ct_is_name), sl_is_name⟩) (m4_is_name : PySem.W.codeIn K cd_is_name "is_name" = true) (m5_is_name : PySem.W.keepIn K (.ref f_is_name) = true) (m1_checked_name : PySem.W.nsIn K mainGlobals "checked_name" = some (some (.ref f_checked_name))) (m3_checked_name : K.lookup f_checked_name = some ⟨oc_checked_name, od_checked_name, .func (PySem.W.fnOf "checked_name" "checked_name" (defArgs (top 14)) (defBody (top 14)) (defScope (top 14)) .none kV_checked_name dc_checked_name pm_checked_name an_checked_name cd_checked_name ct_checked_name), sl_checked_name⟩) (m4_checked_name : PySem.W.codeIn K cd_checked_name "checked_name" = true) (m5_checked_name : PySem.W.keepIn K (.ref f_checked_name) = true) (m1_is_number : PySem.W.nsIn K mainGlobals "is_number" = some (some (.ref f_is_number))) (m3_is_number : K.lookup f_is_number = some ⟨oc_is_number, od_is_number, .func (PySem.W.fnOf "is_number" "is_number" (defArgs (top 15)) (defBody (top 15)) (defScope (top 15)) (.ref T_is_number) kV_is_number dc_is_number pm_is_number an_is_number cd_is_number ct_is_number), sl_is_number⟩) (m4_is_number : PySem.W.codeIn K cd_is_number "is_number" = true) (m5_is_number : PySem.W.keepIn K (.ref f_is_number) = true) (m6_is_number : K.lookup T_is_number = some ⟨ocT_is_number, odT_is_number, .seq #[.int 0 tk0_is_number, .int 1000000 tk1_is_number] nT_is_number, slT_is_number⟩) (m1_is_amount : PySem.W.nsIn K mainGlobals "is_amount" = some (some (.ref f_is_amount))) (m3_is_amount : K.lookup f_is_amount = some ⟨oc_is_amount, od_is_amount, .func (PySem.W.fnOf "is_amount" "is_amount" (defArgs (top 17)) (defBody (top 17)) (defScope (top 17)) .none kV_is_amount dc_is_amount pm_is_amount an_is_amount cd_is_amount ct_is_amount), sl_is_amount⟩) (m4_is_amount : PySem.W.codeIn K cd_is_amount "is_amount" = true) (m5_is_amount : PySem.W.keepIn K (.ref f_is_amount) = true) (m1_is_account : PySem.W.nsIn K mainGlobals "is_account" = some (some (.ref f_is_account))) (m3_is_account : K.lookup f_is_account = some ⟨oc_is_account, od_is_account, .func (PySem.W.fnOf "is_account" "is_account" (defArgs (top 29)) (defBody (top 29)) (defScope (top 29)) .none kV_is_account dc_is_account pm_is_account an_is_account cd_is_account ct_is_account), sl_is_account⟩) (m4_is_account : PySem.W.codeIn K cd_is_account "is_account" = true) (m5_is_account : PySem.W.keepIn K (.ref f_is_account) = true) (m1_is_rows : PySem.W.nsIn K mainGlobals "is_rows" = some (some (.ref f_is_rows))) (m3_is_rows : K.lookup f_is_rows = some ⟨oc_is_rows, od_is_rows, .func (PySem.W.fnOf "is_rows" "is_rows" (defArgs (top 33)) (defBody (top 33)) (defScope (top 33)) .none kV_is_rows dc_is_rows pm_is_rows an_is_rows cd_is_rows ct_is_rows), sl_is_rows⟩) (m4_is_rows : PySem.W.codeIn K cd_is_rows "is_rows" = true) (m5_is_rows : PySem.W.keepIn K (.ref f_is_rows) = true) (m1_checked_order : PySem.W.nsIn K mainGlobals "checked_order" = some (some (.ref f_checked_order))) (m3_checked_order : K.lookup f_checked_order = some ⟨oc_checked_order, od_checked_order, .func (PySem.W.fnOf "checked_order" "checked_order" (defArgs (top 49)) (defBody (top 49)) (defScope (top 49)) .none kV_checked_order dc_checked_order pm_checked_order an_checked_order cd_checked_order ct_checked_order), sl_checked_order⟩) (m4_checked_order : PySem.W.codeIn K cd_checked_order "checked_order" = true) (m5_checked_order : PySem.W.keepIn K (.ref f_checked_order) = true) (m1_days_of : PySem.W.nsIn K mainGlobals "days_of" = some (some (.ref f_days_of))) (m3_days_of : K.lookup f_days_of = some ⟨oc_days_of, od_days_of, .func (PySem.W.fnOf "days_of" "days_of" (defArgs (top 50)) (defBody (top 50)) (defScope (top 50)) .none kV_days_of dc_days_of pm_days_of an_days_of cd_days_of ct_days_of), sl_days_of⟩) (m4_days_of : PySem.W.codeIn K cd_days_of "days_of" = true) (m5_days_of : PySem.W.keepIn K (.ref f_days_of) = true) (m1_next_day : PySem.W.nsIn K mainGlobals "next_day" = some (some (.ref f_next_day))) (m3_next_day : K.lookup f_next_day = some ⟨oc_next_day, od_next_day, .func (PySem.W.fnOf "next_day" "next_day" (defArgs (top 51)) (defBody (top 51)) (defScope (top 51)) .none kV_next_day dc_next_day pm_next_day an_next_day cd_next_day ct_next_day), sl_next_day⟩) (m4_next_day : PySem.W.codeIn K cd_next_day "next_day" = true) (m5_next_day : PySem.W.keepIn K (.ref f_next_day) = true) (m1_Standing_init : PySem.W.findIn K (.ref C_Standing) "__init__" = some (some (.ref f_Standing_init))) (m2_Standing_init : PySem.W.isFn K (.ref f_Standing_init) = true) (m3_Standing_init : K.lookup f_Standing_init = some ⟨oc_Standing_init, od_Standing_init, .func (PySem.W.fnOf "__init__" "Standing.__init__" (defArgs (inClass (top 53) 0)) (defBody (inClass (top 53) 0)) (defScope (inClass (top 53) 0)) .none kV_Standing_init dc_Standing_init pm_Standing_init an_Standing_init cd_Standing_init ct_Standing_init), sl_Standing_init⟩) (m4_Standing_init : PySem.W.codeIn K cd_Standing_init "Standing.__init__" = true) (m5_Standing_init : PySem.W.keepIn K (.ref f_Standing_init) = true) (m8_Standing_init : PySem.W.makesIn K C_Standing = true) (m9_Standing_init : PySem.W.keepIn K (.ref C_Standing) = true) (m1_Standing_names : PySem.W.findIn K (.ref C_Standing) "names" = some (some (.ref f_Standing_names))) (m2_Standing_names : PySem.W.isFn K (.ref f_Standing_names) = true) (m3_Standing_names : K.lookup f_Standing_names = some ⟨oc_Standing_names, od_Standing_names, .func (PySem.W.fnOf "names" "Standing.names" (defArgs (inClass (top 53) 3)) (defBody (inClass (top 53) 3)) (defScope (inClass (top 53) 3)) .none kV_Standing_names dc_Standing_names pm_Standing_names an_Standing_names cd_Standing_names ct_Standing_names), sl_Standing_names⟩) (m4_Standing_names : PySem.W.codeIn K cd_Standing_names "Standing.names" = true) (m5_Standing_names : PySem.W.keepIn K (.ref f_Standing_names) = true) (m1_Standing_order : PySem.W.findIn K (.ref C_Standing) "order" = some (some (.ref f_Standing_order))) (m2_Standing_order : PySem.W.isFn K (.ref f_Standing_order) = true) (m3_Standing_order : K.lookup f_Standing_order = some ⟨oc_Standing_order, od_Standing_order, .func (PySem.W.fnOf "order" "Standing.order" (defArgs (inClass (top 53) 4)) (defBody (inClass (top 53) 4)) (defScope (inClass (top 53) 4)) .none kV_Standing_order dc_Standing_order pm_Standing_order an_Standing_order cd_Standing_order ct_Standing_order), sl_Standing_order⟩) (m4_Standing_order : PySem.W.codeIn K cd_Standing_order "Standing.order" = true) (m5_Standing_order : PySem.W.keepIn K (.ref f_Standing_order) = true) (m1_Standing_add : PySem.W.findIn K (.ref C_Standing) "add" = some (some (.ref f_Standing_add))) (m2_Standing_add : PySem.W.isFn K (.ref f_Standing_add) = true) (m3_Standing_add : K.lookup f_Standing_add = some ⟨oc_Standing_add, od_Standing_add, .func (PySem.W.fnOf "add" "Standing.add" (defArgs (inClass (top 53) 1)) (defBody (inClass (top 53) 1)) (defScope (inClass (top 53) 1)) .none kV_Standing_add dc_Standing_add pm_Standing_add an_Standing_add cd_Standing_add ct_Standing_add), sl_Standing_add⟩) (m4_Standing_add : PySem.W.codeIn K cd_Standing_add "Standing.add" = true) (m5_Standing_add : PySem.W.keepIn K (.ref f_Standing_add) = true) (m1_Standing_end : PySem.W.findIn K (.ref C_Standing) "end" = some (some (.ref f_Standing_end))) (m2_Standing_end : PySem.W.isFn K (.ref f_Standing_end) = true) (m3_Standing_end : K.lookup f_Standing_end = some ⟨oc_Standing_end, od_Standing_end, .func (PySem.W.fnOf "end" "Standing.end" (defArgs (inClass (top 53) 2)) (defBody (inClass (top 53) 2)) (defScope (inClass (top 53) 2)) .none kV_Standing_end dc_Standing_end pm_Standing_end an_Standing_end cd_Standing_end ct_Standing_end), sl_Standing_end⟩) (m4_Standing_end : PySem.W.codeIn K cd_Standing_end "Standing.end" = true) (m5_Standing_end : PySem.W.keepIn K (.ref f_Standing_end) = true) (m1_Standing_coming : PySem.W.findIn K (.ref C_Standing) "coming" = some (some (.ref f_Standing_coming))) (m2_Standing_coming : PySem.W.isFn K (.ref f_Standing_coming) = true) (m3_Standing_coming : K.lookup f_Standing_coming = some ⟨oc_Standing_coming, od_Standing_coming, .func (PySem.W.fnOf "coming" "Standing.coming" (defArgs (inClass (top 53) 7)) (defBody (inClass (top 53) 7)) (defScope (inClass (top 53) 7)) .none kV_Standing_coming dc_Standing_coming pm_Standing_coming an_Standing_coming cd_Standing_coming ct_Standing_coming), sl_Standing_coming⟩) (m4_Standing_coming : PySem.W.codeIn K cd_Standing_coming "Standing.coming" = true) (m5_Standing_coming : PySem.W.keepIn K (.ref f_Standing_coming) = true) (m1__law_same : PySem.W.nsIn K mainGlobals "_law_same" = some (some (.ref f__law_same))) (m3__law_same : K.lookup f__law_same = some ⟨oc__law_same, od__law_same, .func (PySem.W.fnOf "_law_same" "_law_same" (defArgs (top 55)) (defBody (top 55)) (defScope (top 55)) .none kV__law_same dc__law_same pm__law_same an__law_same cd__law_same ct__law_same), sl__law_same⟩) (m4__law_same : PySem.W.codeIn K cd__law_same "_law_same" = true) (m5__law_same : PySem.W.keepIn K (.ref f__law_same) = true) (m1__law_pool : PySem.W.nsIn K mainGlobals "_law_pool" = some (some (.ref f__law_pool))) (m3__law_pool : K.lookup f__law_pool = some ⟨oc__law_pool, od__law_pool, .func (PySem.W.fnOf "_law_pool" "_law_pool" (defArgs (top 56)) (defBody (top 56)) (defScope (top 56)) .none kV__law_pool dc__law_pool pm__law_pool an__law_pool cd__law_pool ct__law_pool), sl__law_pool⟩) (m4__law_pool : PySem.W.codeIn K cd__law_pool "_law_pool" = true) (m5__law_pool : PySem.W.keepIn K (.ref f__law_pool) = true) (m1__law_draw : PySem.W.nsIn K mainGlobals "_law_draw" = some (some (.ref f__law_draw))) (m3__law_draw : K.lookup f__law_draw = some ⟨oc__law_draw, od__law_draw, .func (PySem.W.fnOf "_law_draw" "_law_draw" (defArgs (top 57)) (defBody (top 57)) (defScope (top 57)) .none kV__law_draw dc__law_draw pm__law_draw an__law_draw cd__law_draw ct__law_draw), sl__law_draw⟩) (m4__law_draw : PySem.W.codeIn K cd__law_draw "_law_draw" = true) (m5__law_draw : PySem.W.keepIn K (.ref f__law_draw) = true) (m1__law_pick : PySem.W.nsIn K mainGlobals "_law_pick" = some (some (.ref f__law_pick))) (m3__law_pick : K.lookup f__law_pick = some ⟨oc__law_pick, od__law_pick, .func (PySem.W.fnOf "_law_pick" "_law_pick" (defArgs (top 58)) (defBody (top 58)) (defScope (top 58)) .none kV__law_pick dc__law_pick pm__law_pick an__law_pick cd__law_pick ct__law_pick), sl__law_pick⟩) (m4__law_pick : PySem.W.codeIn K cd__law_pick "_law_pick" = true) (m5__law_pick : PySem.W.keepIn K (.ref f__law_pick) = true) (m1__law_refusal : PySem.W.nsIn K mainGlobals "_law_refusal" = some (some (.ref f__law_refusal))) (m3__law_refusal : K.lookup f__law_refusal = some ⟨oc__law_refusal, od__law_refusal, .func (PySem.W.fnOf "_law_refusal" "_law_refusal" (defArgs (top 59)) (defBody (top 59)) (defScope (top 59)) .none kV__law_refusal dc__law_refusal pm__law_refusal an__law_refusal cd__law_refusal ct__law_refusal), sl__law_refusal⟩) (m4__law_refusal : PySem.W.codeIn K cd__law_refusal "_law_refusal" = true) (m5__law_refusal : PySem.W.keepIn K (.ref f__law_refusal) = true) (m1__law_is_day : PySem.W.nsIn K mainGlobals "_law_is_day" = some (some (.ref f__law_is_day))) (m3__law_is_day : K.lookup f__law_is_day = some ⟨oc__law_is_day, od__law_is_day, .func (PySem.W.fnOf "_law_is_day" "_law_is_day" (defArgs (top 60)) (defBody (top 60)) (defScope (top 60)) .none kV__law_is_day dc__law_is_day pm__law_is_day an__law_is_day cd__law_is_day ct__law_is_day), sl__law_is_day⟩) (m4__law_is_day : PySem.W.codeIn K cd__law_is_day "_law_is_day" = true) (m5__law_is_day : PySem.W.keepIn K (.ref f__law_is_day) = true) (m1__law_refused : PySem.W.nsIn K mainGlobals "_law_refused" = some (some (.ref f__law_refused))) (m3__law_refused : K.lookup f__law_refused = some ⟨oc__law_refused, od__law_refused, .func (PySem.W.fnOf "_law_refused" "_law_refused" (defArgs (top 61)) (defBody (top 61)) (defScope (top 61)) .none kV__law_refused dc__law_refused pm__law_refused an__law_refused cd__law_refused ct__law_refused), sl__law_refused⟩) (m4__law_refused : PySem.W.codeIn K cd__law_refused "_law_refused" = true) (m5__law_refused : PySem.W.keepIn K (.ref f__law_refused) = true) (m1_law : PySem.W.nsIn K mainGlobals "law" = some (some (.ref f_law))) (m3_law : K.lookup f_law = some ⟨oc_law, od_law, .func (PySem.W.fnOf "law" "law" (defArgs (top 62)) (defBody (top 62)) (defScope (top 62)) .none kV_law dc_law pm_law an_law cd_law ct_law), sl_law⟩) (m4_law : PySem.W.codeIn K cd_law "law" = true) (m5_law : PySem.W.keepIn K (.ref f_law) = true) (b1 : PySem.W.subIn K (.ref C_DeskError) (.type "BaseException") = some true) (b2 : PySem.W.hasDictIn K C_DeskError = true) (b3 : PySem.W.typeIn K (.ref C_DeskError) = some (.type "type")) (b4_InvalidNumber : PySem.W.subIn K (.ref C_InvalidNumber) (.ref C_DeskError) = some true) (b4_InvalidPaper : PySem.W.subIn K (.ref C_InvalidPaper) (.ref C_DeskError) = some true) (e1_InvalidNumber : PySem.W.findIn K (.ref C_InvalidNumber) "__getattribute__" = some (some (.builtin "BaseException.__getattribute__"))) (e2_InvalidNumber : PySem.W.findIn K (.ref C_InvalidNumber) "__getattr__" = some none) (e4_InvalidNumber : PySem.W.hasDictIn K C_InvalidNumber = true) (e5_InvalidNumber : PySem.W.findIn K (.ref C_InvalidNumber) "__class__" = some (some (.builtin "object.__class__"))) (e8_InvalidNumber : PySem.W.mroIn K C_InvalidNumber (.type "object") = some true) (e1_InvalidPaper : PySem.W.findIn K (.ref C_InvalidPaper) "__getattribute__" = some (some (.builtin "BaseException.__getattribute__"))) (e2_InvalidPaper : PySem.W.findIn K (.ref C_InvalidPaper) "__getattr__" = some none) (e4_InvalidPaper : PySem.W.hasDictIn K C_InvalidPaper = true) (e5_InvalidPaper : PySem.W.findIn K (.ref C_InvalidPaper) "__class__" = some (some (.builtin "object.__class__"))) (e8_InvalidPaper : PySem.W.mroIn K C_InvalidPaper (.type "object") = some true) (e6 : PySem.W.specialIn K (.builtin "object.__class__") "__get__" = some (some (.builtin "getset_descriptor.__get__"))) (e7 : PySem.W.takesIn K (.builtin "object.__class__") = some true) (s_NN : PySem.W.subIn K (.ref C_InvalidNumber) (.ref C_InvalidNumber) = some true) (s_NP : PySem.W.subIn K (.ref C_InvalidNumber) (.ref C_InvalidPaper) = some false) (s_NV : PySem.W.subIn K (.ref C_InvalidNumber) (.type "ValueError") = some true) (s_PN : PySem.W.subIn K (.ref C_InvalidPaper) (.ref C_InvalidNumber) = some false) (s_PP : PySem.W.subIn K (.ref C_InvalidPaper) (.ref C_InvalidPaper) = some true) (s_PV : PySem.W.subIn K (.ref C_InvalidPaper) (.type "ValueError") = some true) :
    ∃ fd : FuncData, (∀ (s : Shared) (u : Value), BindsTo s fd ⟨[u], []⟩ [("script", u)]) ∧ ∀ base : Heap, K.In base → base.Ns mainGlobals mg → FnOk P w K mg base (L2N.CX P w) 8 fa fd ["script"] (spLaw K) := by
  have F_is_name := fun_mk (st := (top 13)) m3_is_name m4_is_name m5_is_name
  have B_is_name := F_is_name.binds (ps := ["word"]) fun _ _ _ _ _ _ us hl => match us, hl with | [_], _ => rfl
  have F_checked_name := fun_mk (st := (top 14)) m3_checked_name m4_checked_name m5_checked_name
  have B_checked_name := F_checked_name.binds (ps := ["word"]) fun _ _ _ _ _ _ us hl => match us, hl with | [_], _ => rfl
  have F_is_number : FunD K "is_number" "is_number" (defArgs (top 15)) (defBody (top 15)) (defScope (top 15)) [.int 0, .int 1000000] [] f_is_number (PySem.W.fnOf "is_number" "is_number" (defArgs (top 15)) (defBody (top 15)) (defScope (top 15)) (.ref T_is_number) kV_is_number dc_is_number pm_is_number an_is_number cd_is_number ct_is_number) :=
    ⟨⟨_, _, _, _, _, _, _, _, _, _, rfl, m3_is_number, m4_is_number, .inr ⟨by simp, _, _, _, nT_is_number, rfl, m6_is_number, rfl, .cons ⟨tk0_is_number, rfl⟩ (.cons ⟨tk1_is_number, rfl⟩ (.nil))⟩, Or.inl rfl⟩, m5_is_number⟩
  have B_is_number : Binds K (PySem.W.fnOf "is_number" "is_number" (defArgs (top 15)) (defBody (top 15)) (defScope (top 15)) (.ref T_is_number) kV_is_number dc_is_number pm_is_number an_is_number cd_is_number ct_is_number) ["value", "least", "most"] [] := by
    obtain ⟨ds, hv, hb⟩ := F_is_number.binds1 (ps := ["value", "least", "most"]) 3 2 (by simp) rfl fun T kV doc pm an cdv ct us its hu hi => match us, its, hu, hi with | [_, _, _], [_, _], _, _ => ⟨_, rfl, rfl⟩
    cases hv
    exact hb
  have F_is_amount := fun_mk (st := (top 17)) m3_is_amount m4_is_amount m5_is_amount
  have B_is_amount := F_is_amount.binds (ps := ["value"]) fun _ _ _ _ _ _ us hl => match us, hl with | [_], _ => rfl
  have F_is_account := fun_mk (st := (top 29)) m3_is_account m4_is_account m5_is_account
  have B_is_account := F_is_account.binds (ps := ["word"]) fun _ _ _ _ _ _ us hl => match us, hl with | [_], _ => rfl
  have F_is_rows := fun_mk (st := (top 33)) m3_is_rows m4_is_rows m5_is_rows
  have B_is_rows := F_is_rows.binds (ps := ["rows"]) fun _ _ _ _ _ _ us hl => match us, hl with | [_], _ => rfl
  have F_checked_order := fun_mk (st := (top 49)) m3_checked_order m4_checked_order m5_checked_order
  have B_checked_order := F_checked_order.binds (ps := ["rows", "first", "every", "last"]) fun _ _ _ _ _ _ us hl => match us, hl with | [_, _, _, _], _ => rfl
  have F_days_of := fun_mk (st := (top 50)) m3_days_of m4_days_of m5_days_of
  have B_days_of := F_days_of.binds (ps := ["order", "upto"]) fun _ _ _ _ _ _ us hl => match us, hl with | [_, _], _ => rfl
  have F_next_day := fun_mk (st := (top 51)) m3_next_day m4_next_day m5_next_day
  have B_next_day := F_next_day.binds (ps := ["order", "after"]) fun _ _ _ _ _ _ us hl => match us, hl with | [_, _], _ => rfl
  have F_Standing_init := fun_mk (st := (inClass (top 53) 0)) m3_Standing_init m4_Standing_init m5_Standing_init
  have B_Standing_init := F_Standing_init.binds (ps := ["self"]) fun _ _ _ _ _ _ us hl => match us, hl with | [_], _ => rfl
  have F_Standing_names := fun_mk (st := (inClass (top 53) 3)) m3_Standing_names m4_Standing_names m5_Standing_names
  have B_Standing_names := F_Standing_names.binds (ps := ["self"]) fun _ _ _ _ _ _ us hl => match us, hl with | [_], _ => rfl
  have F_Standing_order := fun_mk (st := (inClass (top 53) 4)) m3_Standing_order m4_Standing_order m5_Standing_order
  have B_Standing_order := F_Standing_order.binds (ps := ["self", "name"]) fun _ _ _ _ _ _ us hl => match us, hl with | [_, _], _ => rfl
  have F_Standing_add := fun_mk (st := (inClass (top 53) 1)) m3_Standing_add m4_Standing_add m5_Standing_add
  have B_Standing_add := F_Standing_add.binds (ps := ["self", "name", "rows", "first", "every", "last"]) fun _ _ _ _ _ _ us hl => match us, hl with | [_, _, _, _, _, _], _ => rfl
  have F_Standing_end := fun_mk (st := (inClass (top 53) 2)) m3_Standing_end m4_Standing_end m5_Standing_end
  have B_Standing_end := F_Standing_end.binds (ps := ["self", "name", "day"]) fun _ _ _ _ _ _ us hl => match us, hl with | [_, _, _], _ => rfl
  have F_Standing_coming := fun_mk (st := (inClass (top 53) 7)) m3_Standing_coming m4_Standing_coming m5_Standing_coming
  have B_Standing_coming := F_Standing_coming.binds (ps := ["self", "after", "many"]) fun _ _ _ _ _ _ us hl => match us, hl with | [_, _, _], _ => rfl
  have F__law_same := fun_mk (st := (top 55)) m3__law_same m4__law_same m5__law_same
  have B__law_same := F__law_same.binds (ps := ["actual", "due"]) fun _ _ _ _ _ _ us hl => match us, hl with | [_, _], _ => rfl
  have F__law_pool := fun_mk (st := (top 56)) m3__law_pool m4__law_pool m5__law_pool
  have B__law_pool := F__law_pool.binds (ps := ["script"]) fun _ _ _ _ _ _ us hl => match us, hl with | [_], _ => rfl
  have F__law_draw := fun_mk (st := (top 57)) m3__law_draw m4__law_draw m5__law_draw
  have B__law_draw := F__law_draw.binds (ps := ["pool", "many"]) fun _ _ _ _ _ _ us hl => match us, hl with | [_, _], _ => rfl
  have F__law_pick := fun_mk (st := (top 58)) m3__law_pick m4__law_pick m5__law_pick
  have B__law_pick := F__law_pick.binds (ps := ["pool", "rows"]) fun _ _ _ _ _ _ us hl => match us, hl with | [_, _], _ => rfl
  have F__law_refusal := fun_mk (st := (top 59)) m3__law_refusal m4__law_refusal m5__law_refusal
  have B__law_refusal := F__law_refusal.binds (ps := ["problem"]) fun _ _ _ _ _ _ us hl => match us, hl with | [_], _ => rfl
  have F__law_is_day := fun_mk (st := (top 60)) m3__law_is_day m4__law_is_day m5__law_is_day
  have B__law_is_day := F__law_is_day.binds (ps := ["order", "day"]) fun _ _ _ _ _ _ us hl => match us, hl with | [_, _], _ => rfl
  have F__law_refused := fun_mk (st := (top 61)) m3__law_refused m4__law_refused m5__law_refused
  have B__law_refused := F__law_refused.binds (ps := ["rows", "first", "every", "last"]) fun _ _ _ _ _ _ us hl => match us, hl with | [_, _, _, _], _ => rfl
  have F_law := fun_mk (st := (top 62)) m3_law m4_law m5_law
  have B_law := F_law.binds (ps := ["script"]) fun _ _ _ _ _ _ us hl => match us, hl with | [_], _ => rfl
  have T : Txt K mg C_Standing C_DeskError C_InvalidNumber C_InvalidPaper := {
    n_ValueError := PySem.W.mg_none_of X G z_ValueError
    n_abs := PySem.W.mg_none_of X G z_abs
    n_bool := PySem.W.mg_none_of X G z_bool
    c_AMOUNT := ⟨_, PySem.W.mg_of X G c_AMOUNT⟩
    c_DAYS := ⟨_, PySem.W.mg_of X G c_DAYS⟩
    c_LETTERS := ⟨_, PySem.W.mg_of X G c_LETTERS⟩
    c_LONGEST := ⟨_, PySem.W.mg_of X G c_LONGEST⟩
    c_MOST_standing := ⟨_, PySem.W.mg_of X G c_MOST_standing⟩
    c_ROWS := ⟨_, PySem.W.mg_of X G c_ROWS⟩
    na_Standing__orders := f_Standing__orders
    n_int := PySem.W.mg_none_of X G z_int
    n_isinstance := PySem.W.mg_none_of X G z_isinstance
    cl_Standing := ⟨l1_Standing, l2_Standing, l3_Standing, l4_Standing⟩
    g_Standing := PySem.W.mg_of X G a_Standing
    n_len := PySem.W.mg_none_of X G z_len
    n_list := PySem.W.mg_none_of X G z_list
    n_min := PySem.W.mg_none_of X G z_min
    n_range := PySem.W.mg_none_of X G z_range
    n_sorted := PySem.W.mg_none_of X G z_sorted
    n_str := PySem.W.mg_none_of X G z_str
    n_tuple := PySem.W.mg_none_of X G z_tuple
    x_InvalidNumber := ⟨_, _, _, _, _, PySem.F.excBase_ValueError, x1_InvalidNumber, PySem.W.mg_of X G a_InvalidNumber, x2_InvalidNumber, x3_InvalidNumber, x4_InvalidNumber⟩
    x_InvalidPaper := ⟨_, _, _, _, _, PySem.F.excBase_ValueError, x1_InvalidPaper, PySem.W.mg_of X G a_InvalidPaper, x2_InvalidPaper, x3_InvalidPaper, x4_InvalidPaper⟩
    d_is_name := ⟨_, _, PySem.W.mg_of X G m1_is_name, m5_is_name, F_is_name, B_is_name⟩
    d_checked_name := ⟨_, _, PySem.W.mg_of X G m1_checked_name, m5_checked_name, F_checked_name, B_checked_name⟩
    d_is_number := ⟨_, _, _, _, PySem.W.mg_of X G m1_is_number, m5_is_number, F_is_number, B_is_number⟩
    d_is_amount := ⟨_, _, PySem.W.mg_of X G m1_is_amount, m5_is_amount, F_is_amount, B_is_amount⟩
    d_is_account := ⟨_, _, PySem.W.mg_of X G m1_is_account, m5_is_account, F_is_account, B_is_account⟩
    d_is_rows := ⟨_, _, PySem.W.mg_of X G m1_is_rows, m5_is_rows, F_is_rows, B_is_rows⟩
    d_checked_order := ⟨_, _, PySem.W.mg_of X G m1_checked_order, m5_checked_order, F_checked_order, B_checked_order⟩
    d_days_of := ⟨_, _, PySem.W.mg_of X G m1_days_of, m5_days_of, F_days_of, B_days_of⟩
    d_next_day := ⟨_, _, PySem.W.mg_of X G m1_next_day, m5_next_day, F_next_day, B_next_day⟩
    d_Standing_init := ⟨_, _, ⟨m8_Standing_init, m1_Standing_init, m2_Standing_init, m9_Standing_init⟩, F_Standing_init, B_Standing_init⟩
    d_Standing_names := ⟨_, _, ⟨m1_Standing_names, m2_Standing_names, m5_Standing_names⟩, F_Standing_names, B_Standing_names⟩
    d_Standing_order := ⟨_, _, ⟨m1_Standing_order, m2_Standing_order, m5_Standing_order⟩, F_Standing_order, B_Standing_order⟩
    d_Standing_add := ⟨_, _, ⟨m1_Standing_add, m2_Standing_add, m5_Standing_add⟩, F_Standing_add, B_Standing_add⟩
    d_Standing_end := ⟨_, _, ⟨m1_Standing_end, m2_Standing_end, m5_Standing_end⟩, F_Standing_end, B_Standing_end⟩
    d_Standing_coming := ⟨_, _, ⟨m1_Standing_coming, m2_Standing_coming, m5_Standing_coming⟩, F_Standing_coming, B_Standing_coming⟩
    d__law_same := ⟨_, _, PySem.W.mg_of X G m1__law_same, m5__law_same, F__law_same, B__law_same⟩
    d__law_pool := ⟨_, _, PySem.W.mg_of X G m1__law_pool, m5__law_pool, F__law_pool, B__law_pool⟩
    d__law_draw := ⟨_, _, PySem.W.mg_of X G m1__law_draw, m5__law_draw, F__law_draw, B__law_draw⟩
    d__law_pick := ⟨_, _, PySem.W.mg_of X G m1__law_pick, m5__law_pick, F__law_pick, B__law_pick⟩
    d__law_refusal := ⟨_, _, PySem.W.mg_of X G m1__law_refusal, m5__law_refusal, F__law_refusal, B__law_refusal⟩
    d__law_is_day := ⟨_, _, PySem.W.mg_of X G m1__law_is_day, m5__law_is_day, F__law_is_day, B__law_is_day⟩
    d__law_refused := ⟨_, _, PySem.W.mg_of X G m1__law_refused, m5__law_refused, F__law_refused, B__law_refused⟩
    d_law := ⟨_, _, PySem.W.mg_of X G m1_law, m5_law, F_law, B_law⟩
    g_DeskError := PySem.W.mg_of X G a_DeskError
    g_InvalidNumber := PySem.W.mg_of X G a_InvalidNumber
    g_InvalidPaper := PySem.W.mg_of X G a_InvalidPaper
    e_InvalidNumber := ⟨e1_InvalidNumber, e2_InvalidNumber, x3_InvalidNumber, e4_InvalidNumber, e5_InvalidNumber, e6, e7, e8_InvalidNumber⟩
    e_InvalidPaper := ⟨e1_InvalidPaper, e2_InvalidPaper, x3_InvalidPaper, e4_InvalidPaper, e5_InvalidPaper, e6, e7, e8_InvalidPaper⟩
    k_NN := kit_ref e4_InvalidNumber x4_InvalidNumber s_NN s_NN
    k_NP := kit_ref e4_InvalidPaper x4_InvalidPaper s_NP s_PP
    k_NV := kit_bas (by decide +kernel) s_NV
    k_PN := kit_ref e4_InvalidNumber x4_InvalidNumber s_PN s_NN
    k_PP := kit_ref e4_InvalidPaper x4_InvalidPaper s_PP s_PP
    k_PV := kit_bas (by decide +kernel) s_PV
    cat := fun y b hy => by
      unfold catK at hy
      by_cases h0 : y = "InvalidNumber"
      · subst h0
        simp at hy
        subst hy
        exact ⟨_, PySem.W.mg_of X G a_InvalidNumber, PySem.W.exm_ref b1 b2 b3 b4_InvalidNumber⟩
      by_cases h1 : y = "InvalidPaper"
      · subst h1
        simp at hy
        subst hy
        exact ⟨_, PySem.W.mg_of X G a_InvalidPaper, PySem.W.exm_ref b1 b2 b3 b4_InvalidPaper⟩
      simp [h0, h1] at hy }
  have e := hfa.symm.trans (PySem.W.mg_of X G m1_law)
  cases e
  refine ⟨PySem.W.fnOf "law" "law" (defArgs (top 62)) (defBody (top 62)) (defScope (top 62)) .none kV_law dc_law pm_law an_law cd_law ct_law, fun s v => .of_eq rfl, fun base _ _ => ?_⟩
  exact ok_law T F_law (law_true _)
end

theorem walk {l : PySem.W.OpenLaw} {qq : Program} {loose : List Str} {XP : (Str → Option Value) → Heap → Prop} {YP : World → Heap → Prop} {d : DefRec} {K : Params → PySem.W.Frag} (hn : l.most = some 63) (hdf : d.params.defaults = [])
    (hY : ∀ (w : World) (h : Heap), YP w h → (K w.params).In h)
    (F : ∀ (w : World) (mg : Str → Option Value) (fa : Addr) (h : Heap), (K w.params).In h → h.Ns mainGlobals mg → mg d.name = some (.ref fa) →
      ∃ fd : FuncData, (∀ (s : Shared) (u : Value), BindsTo s fd ⟨[u], []⟩ [("script", u)]) ∧ ∀ base : Heap, (K w.params).In base → base.Ns mainGlobals mg → FnOk l.prog w (K w.params) mg base (L2N.CX l.prog w) 8 fa fd ["script"] (spLaw (K w.params))) :
    PySem.W.WalkO qq loose XP YP l.row.toRowW d [] (fun f vs => PySem.call f vs) :=
  L2.walk_of (n := 63) (k := 8) (x := "script") (CX := fun w => L2N.CX l.prog w) (sp := fun w => spLaw (K w.params)) hn (by decide) hdf ⟨rfl, by decide, by decide⟩ hY F (fun _ _ a ns hl _ hS => ⟨a, ns, rfl, hS, hl, fun _ => rfl⟩) fun w H s e s' h => by
    obtain ⟨_, _, _, _, _, _, _, _, _, _, _, _, z⟩ := h
    exact z
end Z
open PySem PySem.W PyProof.Rows
set_option maxRecDepth 100000 in
set_option maxHeartbeats 0 in
theorem PySem.Challenge.cw_desksagree_k93_days_of_orders_holds : PySem.Challenge.rw_desksagree_k93_days_of_orders.Holds := by
  w_on; o_law; k_head; (case hw => w_witness2)
  k_fill
  refine Z.walk (l := PySem.Challenge.rw_desksagree_k93_days_of_orders) rfl rfl (fun w h Y => PySem.W.kIn_of Y) ?F
  case F =>
    intro w mg fa h KX G hmg
    refine' Z.all_mk KX G hmg Z.law_true ?a_Standing ?a_DeskError ?a_InvalidNumber ?a_InvalidPaper ?z_ValueError ?z_abs ?z_bool ?c_AMOUNT ?c_DAYS ?c_LETTERS ?c_LONGEST ?c_MOST_standing ?c_ROWS ?f_Standing__orders ?z_int ?z_isinstance ?l1_Standing ?l2_Standing ?l3_Standing ?l4_Standing ?z_len ?z_list ?z_min ?z_range ?z_sorted ?z_str ?z_tuple ?x1_InvalidNumber ?x2_InvalidNumber ?x3_InvalidNumber ?x4_InvalidNumber ?x1_InvalidPaper ?x2_InvalidPaper ?x3_InvalidPaper ?x4_InvalidPaper ?m1_is_name ?m3_is_name ?m4_is_name ?m5_is_name ?m1_checked_name ?m3_checked_name ?m4_checked_name ?m5_checked_name ?m1_is_number ?m3_is_number ?m4_is_number ?m5_is_number ?m6_is_number ?m1_is_amount ?m3_is_amount ?m4_is_amount ?m5_is_amount ?m1_is_account ?m3_is_account ?m4_is_account ?m5_is_account ?m1_is_rows ?m3_is_rows ?m4_is_rows ?m5_is_rows ?m1_checked_order ?m3_checked_order ?m4_checked_order ?m5_checked_order ?m1_days_of ?m3_days_of ?m4_days_of ?m5_days_of ?m1_next_day ?m3_next_day ?m4_next_day ?m5_next_day ?m1_Standing_init ?m2_Standing_init ?m3_Standing_init ?m4_Standing_init ?m5_Standing_init ?m8_Standing_init ?m9_Standing_init ?m1_Standing_names ?m2_Standing_names ?m3_Standing_names ?m4_Standing_names ?m5_Standing_names ?m1_Standing_order ?m2_Standing_order ?m3_Standing_order ?m4_Standing_order ?m5_Standing_order ?m1_Standing_add ?m2_Standing_add ?m3_Standing_add ?m4_Standing_add ?m5_Standing_add ?m1_Standing_end ?m2_Standing_end ?m3_Standing_end ?m4_Standing_end ?m5_Standing_end ?m1_Standing_coming ?m2_Standing_coming ?m3_Standing_coming ?m4_Standing_coming ?m5_Standing_coming ?m1__law_same ?m3__law_same ?m4__law_same ?m5__law_same ?m1__law_pool ?m3__law_pool ?m4__law_pool ?m5__law_pool ?m1__law_draw ?m3__law_draw ?m4__law_draw ?m5__law_draw ?m1__law_pick ?m3__law_pick ?m4__law_pick ?m5__law_pick ?m1__law_refusal ?m3__law_refusal ?m4__law_refusal ?m5__law_refusal ?m1__law_is_day ?m3__law_is_day ?m4__law_is_day ?m5__law_is_day ?m1__law_refused ?m3__law_refused ?m4__law_refused ?m5__law_refused ?m1_law ?m3_law ?m4_law ?m5_law ?b1 ?b2 ?b3 ?b4_InvalidNumber ?b4_InvalidPaper ?e1_InvalidNumber ?e2_InvalidNumber ?e4_InvalidNumber ?e5_InvalidNumber ?e8_InvalidNumber ?e1_InvalidPaper ?e2_InvalidPaper ?e4_InvalidPaper ?e5_InvalidPaper ?e8_InvalidPaper ?e6 ?e7 ?s_NN ?s_NP ?s_NV ?s_PN ?s_PP ?s_PV
    (case a_Standing => k_is)
    (case a_DeskError => k_is)
    (case a_InvalidNumber => k_is)
    (case a_InvalidPaper => k_is)
    (case z_ValueError => k_is)
    (case z_abs => k_is)
    (case z_bool => k_is)
    (case c_AMOUNT => k_is)
    (case c_DAYS => k_is)
    (case c_LETTERS => k_is)
    (case c_LONGEST => k_is)
    (case c_MOST_standing => k_is)
    (case c_ROWS => k_is)
    (case f_Standing__orders => k_is)
    (case z_int => k_is)
    (case z_isinstance => k_is)
    (case l1_Standing => k_is)
    (case l2_Standing => k_is)
    (case l3_Standing => k_is)
    (case l4_Standing => k_is)
    (case z_len => k_is)
    (case z_list => k_is)
    (case z_min => k_is)
    (case z_range => k_is)
    (case z_sorted => k_is)
    (case z_str => k_is)
    (case z_tuple => k_is)
    (case x1_InvalidNumber => k_exc)
    (case x2_InvalidNumber => k_is)
    (case x3_InvalidNumber => k_is)
    (case x4_InvalidNumber => k_is)
    (case x1_InvalidPaper => k_exc)
    (case x2_InvalidPaper => k_is)
    (case x3_InvalidPaper => k_is)
    (case x4_InvalidPaper => k_is)
    (case m1_is_name => k_is)
    (case m3_is_name => k_is)
    (case m4_is_name => k_is)
    (case m5_is_name => k_is)
    (case m1_checked_name => k_is)
    (case m3_checked_name => k_is)
    (case m4_checked_name => k_is)
    (case m5_checked_name => k_is)
    (case m1_is_number => k_is)
    (case m3_is_number => k_is)
    (case m4_is_number => k_is)
    (case m5_is_number => k_is)
    (case m6_is_number => k_is)
    (case m1_is_amount => k_is)
    (case m3_is_amount => k_is)
    (case m4_is_amount => k_is)
    (case m5_is_amount => k_is)
    (case m1_is_account => k_is)
    (case m3_is_account => k_is)
    (case m4_is_account => k_is)
    (case m5_is_account => k_is)
    (case m1_is_rows => k_is)
    (case m3_is_rows => k_is)
    (case m4_is_rows => k_is)
    (case m5_is_rows => k_is)
    (case m1_checked_order => k_is)
    (case m3_checked_order => k_is)
    (case m4_checked_order => k_is)
    (case m5_checked_order => k_is)
    (case m1_days_of => k_is)
    (case m3_days_of => k_is)
    (case m4_days_of => k_is)
    (case m5_days_of => k_is)
    (case m1_next_day => k_is)
    (case m3_next_day => k_is)
    (case m4_next_day => k_is)
    (case m5_next_day => k_is)
    (case m1_Standing_init => k_is)
    (case m2_Standing_init => k_is)
    (case m3_Standing_init => k_is)
    (case m4_Standing_init => k_is)
    (case m5_Standing_init => k_is)
    (case m8_Standing_init => k_is)
    (case m9_Standing_init => k_is)
    (case m1_Standing_names => k_is)
    (case m2_Standing_names => k_is)
    (case m3_Standing_names => k_is)
    (case m4_Standing_names => k_is)
    (case m5_Standing_names => k_is)
    (case m1_Standing_order => k_is)
    (case m2_Standing_order => k_is)
    (case m3_Standing_order => k_is)
    (case m4_Standing_order => k_is)
    (case m5_Standing_order => k_is)
    (case m1_Standing_add => k_is)
    (case m2_Standing_add => k_is)
    (case m3_Standing_add => k_is)
    (case m4_Standing_add => k_is)
    (case m5_Standing_add => k_is)
    (case m1_Standing_end => k_is)
    (case m2_Standing_end => k_is)
    (case m3_Standing_end => k_is)
    (case m4_Standing_end => k_is)
    (case m5_Standing_end => k_is)
    (case m1_Standing_coming => k_is)
    (case m2_Standing_coming => k_is)
    (case m3_Standing_coming => k_is)
    (case m4_Standing_coming => k_is)
    (case m5_Standing_coming => k_is)
    (case m1__law_same => k_is)
    (case m3__law_same => k_is)
    (case m4__law_same => k_is)
    (case m5__law_same => k_is)
    (case m1__law_pool => k_is)
    (case m3__law_pool => k_is)
    (case m4__law_pool => k_is)
    (case m5__law_pool => k_is)
    (case m1__law_draw => k_is)
    (case m3__law_draw => k_is)
    (case m4__law_draw => k_is)
    (case m5__law_draw => k_is)
    (case m1__law_pick => k_is)
    (case m3__law_pick => k_is)
    (case m4__law_pick => k_is)
    (case m5__law_pick => k_is)
    (case m1__law_refusal => k_is)
    (case m3__law_refusal => k_is)
    (case m4__law_refusal => k_is)
    (case m5__law_refusal => k_is)
    (case m1__law_is_day => k_is)
    (case m3__law_is_day => k_is)
    (case m4__law_is_day => k_is)
    (case m5__law_is_day => k_is)
    (case m1__law_refused => k_is)
    (case m3__law_refused => k_is)
    (case m4__law_refused => k_is)
    (case m5__law_refused => k_is)
    (case m1_law => k_is)
    (case m3_law => k_is)
    (case m4_law => k_is)
    (case m5_law => k_is)
    (case b1 => k_is)
    (case b2 => k_is)
    (case b3 => k_is)
    (case b4_InvalidNumber => k_is)
    (case b4_InvalidPaper => k_is)
    (case e1_InvalidNumber => k_is)
    (case e2_InvalidNumber => k_is)
    (case e4_InvalidNumber => k_is)
    (case e5_InvalidNumber => k_is)
    (case e8_InvalidNumber => k_is)
    (case e1_InvalidPaper => k_is)
    (case e2_InvalidPaper => k_is)
    (case e4_InvalidPaper => k_is)
    (case e5_InvalidPaper => k_is)
    (case e8_InvalidPaper => k_is)
    (case e6 => k_is)
    (case e7 => k_is)
    (case s_NN => k_is)
    (case s_NP => k_is)
    (case s_NV => k_is)
    (case s_PN => k_is)
    (case s_PP => k_is)
    (case s_PV => k_is)

